import PyProof.Rows.All
import PyProof.Meets
import PyProof.Ns1
import PyProof.ListIndex
import PyProof.ForAny
import PyProof.CallRoads
import PyProof.CallType
import PyProof.Cells
import PyProof.PlainList
import PyProof.StrWalks
import PyProof.CompFree
import PyProof.PureInt
import PyProof.MeetsSeq
import PyProof.DictKinds
import PyProof.MeetsDictList
import PyProof.DictStraight
import PyProof.TupleKey
import PyProof.DictTable
import PyProof.DictWalks
import PyProof.EqAt
import PyProof.EqKinds
import PyProof.P3Statements
import PyProof.ExcClass
import PyProof.ExcArgsOwn
import PyProof.ExcAttrAll.ValueError
import PyProof.RaisesMany
import PyProof.StationsW
import PyProof.StrBlockL
import PyProof.StrLawsChain
import PyProof.RangeIter
import PyProof.WalksMore
import PyProof.RangeFor
import PyProof.InstLoad
import PyProof.InstStoreFacts
import PyProof.IsiHeapPairs
import PyProof.IsiPairs
import PyProof.IsiSeqPairs
import PyProof.ListIndexNeg
import PyProof.NsDelKeeps
import PyProof.ObjNew
import PyProof.StrCalls2
import PyProof.Rows.AttrNodeAny
import PyProof.Rows.StrItems
import PyProof.StrLawsTight
import PyProof.RulesAssignMore
import PyProof.Rows.SortWalk
import PyProof.Rows.Range3
import PyProof.Rows.SetFrom
import OpenK.KCall
import OpenK.KMake
import OpenK.TopRead
import OpenK.KWalk
import OpenK.KLine
import KE.KPop
import KE.KDictSum
import KE.KDictOf
import KE.KEqDict
import KE.KIntText
import OpenK.KOwn
import KE.KIsAll
import KE.KSortAsk
import KE.KSortTup
import KE.KTryMore
import Wide.Txt2
import Wide.All
import OpenK.AllK
import Wide.FinOn
import PySem.Challenge.RW_uf030037_06
set_option Elab.async false
set_option maxRecDepth 100000
set_option maxHeartbeats 8000000
set_option autoImplicit false
set_option linter.all false
set_option genSizeOf false
set_option genInjectivity false
set_option bootstrap.genMatcherCode false
local macro_rules
 | `(tactic| omega) => `(tactic| first | lia | omega (splitDisjunctions := true))
set_option tactic.hygienic false
namespace Mini
open PySem
inductive V where
 | none | bool (b : Bool) | int (i : Int) | str (s : Str) | tup (xs : List V) | ref (n : Nat) | fn (k : Nat) | exc (c : Nat) | scr (ns : List Int)
inductive Ky where
 | int (i : Int) | str (s : Str) | tup (ks : List (Sum Int Str))
 deriving DecidableEq
inductive MObj where
 | list (xs : List V)
 | dict (kvs : List (Ky × V)) (e : Nat)
 | inst (c : Nat) (fs : List (Nat × V))
noncomputable abbrev MH := List MObj
inductive Res (α : Type) where
 | ok (a : α) (m : MH)
 | exc (c : Nat) (m : MH)
 | bad
noncomputable abbrev Mn (α : Type) := MH -> Res α
noncomputable def Res.bind {α β : Type} (r : Res α) (f : α -> Mn β) : Res β := match r with
 | .ok a m => f a m
 | .exc c m => .exc c m
 | .bad => .bad
noncomputable def Res.nox {α : Type} (r : Res α) : Res α := match r with
 | .exc _ _ => .bad
 | r => r
noncomputable def ret {α : Type} (a : α) : Mn α := fun m => .ok a m
noncomputable def bad {α : Type} : Mn α := fun y_ => .bad
noncomputable def bnd {α β : Type} (x : Mn α) (f : α -> Mn β) : Mn β := fun m => (x m).bind f
noncomputable def ofO {α : Type} : Option α -> Mn α
 | some a => ret a
 | Option.none => bad
noncomputable def Ky.val : Ky -> V
 | .int i => .int i
 | .str s => .str s
 | .tup ks => .tup (ks.map fun x => match x with | .inl i => .int i | .inr s => .str s)
noncomputable def Ky.sort : Ky -> Nat
 | .int _ => 0
 | .str _ => 1
 | .tup _ => 2
noncomputable def aD5 {α β : Type} (g : α -> Option β) : List α -> Option (List β)
 | [] => some []
 | x :: xs => match g x, aD5 g xs with
  | some d, some ds => some (d :: ds)
  | _, _ => Option.none
noncomputable def rd : Nat -> MH -> V -> Option PyData
 | 0, _, _ => Option.none
 | f + 1, m, v => match v with
  | .none => some .none
  | .bool b => some (.bool b)
  | .int i => some (.int i)
  | .str s => some (.str s)
  | .tup xs => (aD5 (rd f m) xs).map .tuple
  | .ref n => match m[n]? with
   | some (.list xs) => (aD5 (rd f m) xs).map .list
   | _ => Option.none
  | _ => Option.none
noncomputable def atom : V -> Option (Sum Int Str)
 | .int i => some (.inl i)
 | .str s => some (.inr s)
 | _ => Option.none
noncomputable def eB : V -> Option Ky
 | .int i => some (.int i)
 | .str s => some (.str s)
 | .tup xs => (aD5 atom xs).map .tup
 | _ => Option.none
noncomputable def dN : Nat := 12
noncomputable def b9 (k : Ky) : List (Ky × V) -> Option V
 | [] => Option.none
 | (k', v) :: r => if k' = k then some v else b9 k r
noncomputable def bF4 (g : V -> V -> Option Bool) : List V -> List V -> Option Bool
 | [], ys => match ys with
  | [] => some true
  | _ :: _ => Option.none
 | x :: xs, ys => match ys with
  | [] => Option.none
  | y :: ys => match g x y with
   | some a => match bF4 g xs ys with
    | some b => some (a && b)
    | Option.none => Option.none
   | Option.none => Option.none
noncomputable def aE1 (m : MH) (ls : List (Ky × V)) : List (Ky × V) -> Option Bool
 | [] => some true
 | (k, v) :: r => match b9 k ls with
  | Option.none => some false
  | some u => match rd dN m v with
   | some x => match rd dN m u with
    | some y => match aE1 m ls r with
     | some b => some (PyData.eqv x y && b)
     | Option.none => Option.none
    | Option.none => Option.none
   | Option.none => Option.none
noncomputable def aB3 (kvs : List (Ky × V)) : Bool := kvs.all fun p => p.1.sort == 0
noncomputable def eqN (m : MH) (g : V -> V -> Option Bool) (a b : V) : Option Bool := match a with
 | .ref p => match b with
  | .ref q => match m[p]? with
   | some (.list xs) => match m[q]? with
    | some (.list ys) => if p ≠ q /\ xs.length = ys.length then bF4 g xs ys else Option.none
    | _ => Option.none
   | some (.dict ks _) => match m[q]? with
    | some (.dict ls _) => if p ≠ q /\ ks.length = ls.length /\ (aB3 ks && aB3 ls) = true then aE1 m ls ks else Option.none
    | _ => Option.none
   | _ => Option.none
  | _ => Option.none
 | _ => Option.none
noncomputable def eqX : Nat -> MH -> V -> V -> Option Bool
 | 0, _, _, _ => Option.none
 | f + 1, m, a, b => match rd dN m a, rd dN m b with
  | some x, some y => some (PyData.eqv x y)
  | _, _ => eqN m (eqX f m) a b
noncomputable def eqV (a b : V) : Mn Bool := fun m => match rd dN m a, rd dN m b with
 | some x, some y => .ok (PyData.eqv x y) m
 | _, _ => match eqN m (eqX 8 m) a b with
  | some c => .ok c m
  | Option.none => .bad
noncomputable def at_ {α : Type} (xs : List α) (i : Int) : Option α :=
 if 0 <= i then xs[i.toNat]? else if 0 <= i + xs.length then xs[(i + xs.length).toNat]? else Option.none
noncomputable def cY (n : Nat) (i : Int) : Nat := if 0 <= i then min i.toNat n else (i + n).toNat
noncomputable def cut {α : Type} (xs : List α) (lo hi : Option Int) : List α :=
 let a := match lo with | some i => cY xs.length i | Option.none => 0
 let b := match hi with | some i => cY xs.length i | Option.none => xs.length
 (xs.take b).drop a
noncomputable def put (k : Ky) (v : V) : List (Ky × V) -> List (Ky × V)
 | [] => [(k, v)]
 | (k', v') :: r => if k' = k then (k', v) :: r else (k', v') :: put k v r
noncomputable def cY2 (k : Ky) : List (Ky × V) -> List (Ky × V)
 | [] => []
 | (k', v') :: r => if k' = k then r else (k', v') :: cY2 k r
noncomputable def aU (k : Ky) (kvs : List (Ky × V)) : Bool := kvs.all fun p => p.1.sort == k.sort
noncomputable def aQ0 (i : Nat) : List (Nat × V) -> Option V
 | [] => Option.none
 | (j, v) :: r => if j = i then some v else aQ0 i r
noncomputable def d8 (i : Nat) (v : V) : List (Nat × V) -> List (Nat × V)
 | [] => [(i, v)]
 | (j, v') :: r => if j = i then (j, v) :: r else (j, v') :: d8 i v r
inductive Bi where
 | len | abs | int | str | list | tuple | dict | sorted | max2 | min2 | max1 | lenset
inductive Sm where
 | append | pop | clear | get | join | split | count | index
 deriving DecidableEq
inductive Ty where
 | int | bool | str | list | tuple | dict | cls (c : Nat)
 deriving DecidableEq
inductive IK where
 | expr | range | enum
inductive CT where
 | one (i : Nat) | many (is : List Nat)
 deriving DecidableEq
inductive Lt where
 | none | bool (b : Bool) | int (i : Int) | str (s : Str)
noncomputable def Lt.val : Lt -> V
 | .none => .none
 | .bool b => .bool b
 | .int i => .int i
 | .str s => .str s
set_option genCtorIdx false in
mutual
inductive CE where
 | cnst (v : Lt)
 | var (i : Nat)
 | glob (i : Nat)
 | fnv (k : Nat)
 | bin (op : Operator) (a b : CE)
 | neg (a : CE)
 | not (a : CE)
 | boolop (isAnd : Bool) (as : List CE)
 | cmp (a : CE) (ops : List CmpOp) (bs : List CE)
 | ite (c : CB) (a b : CE)
 | tup (as : List CE)
 | list (as : List CE)
 | dict (ks : List Str) (vs : List CE)
 | idx (a i : CE)
 | slice (a lo hi st : CE)
 | attr (a : CE) (n : Nat)
 | call (k : Nat) (as : List CE)
 | callv (f : CE) (as : List CE)
 | new (c : Nat) (as : List CE)
 | meth (o : CE) (n : Nat) (as : List CE)
 | smeth (o : CE) (n : Sm) (as : List CE)
 | bi (b : Bi) (as : List CE)
 | listrange (as : List CE)
 | isi (a : CE) (t : Ty)
 | comp (elt : CE) (t : CT) (nl : Nat) (k : IK) (src : List CE) (ifs : List CB)
inductive CB where
 | not (b : CB)
 | all (isAnd : Bool) (bs : List CB)
 | val (e : CE)
end
set_option genCtorIdx false in
inductive CTgt where
 | one (t : CT) | attr (o : CE) (n : Nat) | idx (o i : CE) | idx2 (o i o' i' : CE)
set_option genCtorIdx false in
inductive CS where
 | asg (t : CTgt) (e : CE)
 | exp (e : CE)
 | ite (c : CB) (a b : List CS)
 | for_ (k : IK) (t : CT) (src : List CE) (body : List CS)
 | wh (c : CB) (body : List CS)
 | ret (e : CE)
 | rse (c : Nat) (msg : Str)
 | try_ (body : List CS) (c : Nat) (nm : Option Nat) (h : CE)
 | cont
 | pass
structure FnD where
 name : Str
 np : Nat
 names : List Str
 body : List CS
structure ClsD where
 name : Str
 init : Option Nat
 meths : List (Nat × Nat)
 exc : Bool
 supers : List Nat
structure Sig where
 fns : List FnD
 cls : List ClsD
 attrs : List Str
 globs : List (Str × Lt)
noncomputable abbrev Lo := List (Option V)
noncomputable def lid : Nat := 4194304
noncomputable def fB (v : V) : Mn Bool := fun m => match v with
 | .none => .ok false m
 | .bool b => .ok b m
 | .int i => .ok (i != 0) m
 | .str s => if s.length <= lid then .ok (s.length != 0) m else .bad
 | .tup xs => if xs.length <= lid then .ok (!xs.isEmpty) m else .bad
 | .ref n => match m[n]? with
  | some (.list xs) => .ok (!xs.isEmpty) m
  | _ => .bad
 | _ => .bad
noncomputable def alloc (o : MObj) : Mn V := fun m => .ok (.ref m.length) (m ++ [o])
noncomputable def bF6 (op : Operator) (a b : V) : Mn V := fun m => match op, a, b with
 | .Add, .int i, .int j => .ok (.int (i + j)) m
 | .Sub, .int i, .int j => .ok (.int (i - j)) m
 | .Mult, .int i, .int j => if i.natAbs < 1073741824 \/ j.natAbs < 1073741824 then .ok (.int (i * j)) m else .bad
 | .FloorDiv, .int i, .int j => if 0 < j /\ j.natAbs < 1073741824 then .ok (.int (i / j)) m else .bad
 | .Mod, .int i, .int j => if 0 < j then .ok (.int (i % j)) m else .bad
 | .Add, .str x, .str y => if x.length + y.length <= lid then .ok (.str (x ++ y)) m else .bad
 | .Add, .ref p, .ref q => match m[p]?, m[q]? with
  | some (.list x), some (.list y) => if x.length + y.length <= lid then alloc (.list (x ++ y)) m else .bad
  | _, _ => .bad
 | _, _, _ => .bad
noncomputable def inV (x c : V) : Mn Bool := fun m => match c with
 | .tup ys => match aD5 (rd dN m) ys, rd dN m x with
  | some ds, some d => .ok (ds.any fun e => PyData.eqv e d) m
  | _, _ => .bad
 | .str y => match x with
  | .str s => match s.cps.toList with
   | [c] => .ok (decide (c ∈ y.cps.toList)) m
   | _ => .bad
  | _ => .bad
 | .ref n => match m[n]? with
  | some (.list ys) => match aD5 (rd dN m) ys, rd dN m x with
   | some ds, some d => .ok (ds.any fun e => PyData.eqv e d) m
   | _, _ => .bad
  | some (.dict kvs _) => match eB x with
   | some k => if aU k kvs then .ok (b9 k kvs).isSome m else .bad
   | Option.none => .bad
  | _ => .bad
 | _ => .bad
noncomputable def aA2 (op : CmpOp) (a b : V) : Mn Bool := match op with
 | .Eq => eqV a b
 | .NotEq => bnd (eqV a b) fun c => ret (!c)
 | .In => inV a b
 | .NotIn => bnd (inV a b) fun c => ret (!c)
 | .Is => bad
 | .IsNot => bad
 | .Lt => match a, b with | .int i, .int j => ret (decide (i < j)) | _, _ => bad
 | .LtE => match a, b with | .int i, .int j => ret (decide (i <= j)) | _, _ => bad
 | .Gt => match a, b with | .int i, .int j => ret (decide (i > j)) | _, _ => bad
 | .GtE => match a, b with | .int i, .int j => ret (decide (i ≥ j)) | _, _ => bad
noncomputable def aI8 (a i : V) : Mn V := fun m => match a with
 | .tup xs => match i with
  | .int k => if k.natAbs < 2 ^ 60 then ofO (at_ xs k) m else .bad
  | _ => .bad
 | .str s => match i with
  | .int k => if k.natAbs < 2 ^ 60 then ofO ((at_ s.cps.toList k).map fun c => .str ⟨#[c]⟩) m else .bad
  | _ => .bad
 | .ref n => match m[n]? with
  | some (.list xs) => match i with
   | .int k => if k.natAbs < 2 ^ 60 then ofO (at_ xs k) m else .bad
   | _ => .bad
  | some (.dict kvs _) => match eB i with
   | some k => if aU k kvs then ofO (b9 k kvs) m else .bad
   | Option.none => .bad
  | _ => .bad
 | .scr ns => match i with
  | .int k => if 0 <= k then ofO ((ns[k.toNat]?).map .int) m else .bad
  | _ => .bad
 | _ => .bad
noncomputable def aE2 (v : V) : Option (Option Int) := match v with
 | .none => some Option.none
 | .int i => if i.natAbs < 2 ^ 60 then some (some i) else Option.none
 | _ => Option.none
noncomputable def eF {α : Type} (xs : List α) (lo hi st : V) : Option (List α) :=
 match st with
 | .none => match aE2 lo, aE2 hi with
  | some a, some b => some (cut xs a b)
  | _, _ => Option.none
 | _ => Option.none
noncomputable def aA8 (a lo hi st : V) : Mn V := fun m => match a with
 | .str s => match st with
  | .none => if s.length <= lid then ofO ((eF s.cps.toList lo hi .none).map fun l => .str ⟨l.toArray⟩) m else .bad
  | _ => .bad
 | .scr ns => match st with
  | .none => match eF (ns.map V.int) lo hi .none with
   | some l => alloc (.list l) m
   | Option.none => .bad
  | _ => .bad
 | _ => .bad
noncomputable def aB7 (a : V) (n : Nat) : Mn V := fun m => match a with
 | .ref p => match m[p]? with
  | some (.inst _ fs) => ofO (aQ0 n fs) m
  | _ => .bad
 | _ => .bad
noncomputable def aD2 : List V -> Option (List Int)
 | [] => some []
 | .int i :: r => (aD2 r).map (i :: ·)
 | _ :: _ => Option.none
noncomputable def bX : List (Ky × V) -> Option (List Int)
 | [] => some []
 | (.int i, _) :: r => (bX r).map (i :: ·)
 | _ :: _ => Option.none
noncomputable def insI (i : Int) : List Int -> List Int
 | [] => [i]
 | j :: r => if i <= j then i :: j :: r else j :: insI i r
noncomputable def sortI : List Int -> List Int
 | [] => []
 | i :: r => insI i (sortI r)
noncomputable def aR8 : List V -> Option (List Int)
 | [] => some []
 | v :: r => match v with
  | .tup ys => (match ys with
   | y :: _ => (match y with | .int i => (aR8 r).map (i :: ·) | _ => Option.none)
   | [] => Option.none)
  | _ => Option.none
noncomputable def bD3 (xs : List V) (is : List Int) : List V := (sortI is).filterMap fun i => ((is.zip xs).find? fun p => p.1 == i).map (·.2)
noncomputable def aK6 (xs : List V) : Mn V := fun m => match aR8 xs with
 | some is => if is.length < 64 /\ is.Nodup then alloc (.list (bD3 xs is)) m else .bad
 | Option.none => .bad
noncomputable def aR3 (lo hi : Int) : List V := (List.range (hi - lo).toNat).map fun (k : Nat) => V.int (lo + k)
noncomputable def fI : List V -> Option (List V)
 | [.int n] => if n.natAbs < 2 ^ 30 then some (aR3 0 n) else Option.none
 | [.int a, .int b] => if a.natAbs < 2 ^ 30 && b.natAbs < 2 ^ 30 then some (aR3 a b) else Option.none
 | _ => Option.none
noncomputable def cL8 (i : Int) : Str := Str.ofString (toString i)
noncomputable def bJ2 (c : Nat) : List Nat -> List (List Nat)
 | [] => [[]]
 | x :: l => if x = c then [] :: bJ2 c l else match bJ2 c l with
  | [] => [[x]]
  | p :: ps => (x :: p) :: ps
noncomputable def cL5 (c : Nat) : Bool := decide (48 <= c) && decide (c <= 57)
noncomputable def digV (l : List Nat) : Nat := l.foldl (fun acc c => acc * 10 + (c - 48)) 0
noncomputable def biV (b : Bi) (as : List V) : Mn V := fun m => match b, as with
 | .len, [.str s] => if s.length <= lid then .ok (.int s.length) m else .bad
 | .len, [.tup xs] => if xs.length <= lid then .ok (.int xs.length) m else .bad
 | .len, [.scr ns] => .ok (.int ns.length) m
 | .len, [.ref n] => match m[n]? with
  | some (.list xs) => .ok (.int xs.length) m
  | _ => .bad
 | .abs, [.int i] => .ok (.int (if i < 0 then -i else i)) m
 | .int, [.bool c] => .ok (.int (if c then 1 else 0)) m
 | .int, [.str x] => if x.cps.toList.all cL5 && (!x.cps.toList.isEmpty && decide (x.length <= 600)) then .ok (.int (digV x.cps.toList)) m else .bad
 | .str, [.int i] => if i.natAbs < 1000000 then .ok (.str (cL8 i)) m else .bad
 | .list, [.ref n] => match m[n]? with
  | some (.list xs) => alloc (.list xs) m
  | some (.dict kvs _) => match bX kvs with
   | some is => alloc (.list (is.map .int)) m
   | Option.none => .bad
  | _ => .bad
 | .tuple, [.ref n] => match m[n]? with
  | some (.list xs) => .ok (.tup xs) m
  | _ => .bad
 | .dict, [.ref n] => match m[n]? with
  | some (.dict kvs _) => if aB3 kvs then alloc (.dict kvs 0) m else .bad
  | _ => .bad
 | .sorted, [.ref n] => match m[n]? with
  | some (.list xs) => match aD2 xs with
   | some is => if is.length < 64 then alloc (.list ((sortI is).map .int)) m else .bad
   | Option.none => aK6 xs m
  | some (.dict kvs _) => match bX kvs with
   | some is => if is.length < 64 then alloc (.list ((sortI is).map .int)) m else .bad
   | Option.none => .bad
  | _ => .bad
 | .max2, [.int i, .int j] => .ok (.int (if j > i then j else i)) m
 | .min2, [.int i, .int j] => .ok (.int (if j < i then j else i)) m
 | _, _ => .bad
noncomputable def eN (S : Sig) (a : V) (t : Ty) : Mn Bool := fun m => match t, a with
 | .cls c, .exc d => match S.cls[d]? with
  | some x => if x.exc then .ok (x.supers.contains c) m else .bad
  | Option.none => .bad
 | .cls _, _ => .bad
 | .int, .int _ => .ok true m
 | .int, .bool _ => .ok true m
 | .bool, .bool _ => .ok true m
 | .str, .str _ => .ok true m
 | .tuple, .tup _ => .ok true m
 | t, .ref n => match m[n]? with
  | some (.list _) => .ok (t == .list) m
  | some (.dict _ _) => .ok (t == .dict) m
  | _ => .bad
 | _, .fn _ => .bad
 | _, .exc _ => .bad
 | _, .scr _ => .bad
 | _, _ => .ok false m
noncomputable def d7 : List V -> Option (List Str)
 | [] => some []
 | .str x :: r => (d7 r).map (x :: ·)
 | _ :: _ => Option.none
noncomputable def aX9 : List V -> Option (List Bool)
 | [] => some []
 | .bool x :: r => (aX9 r).map (x :: ·)
 | _ :: _ => Option.none
noncomputable def aJ4 (sep : Str) : List Str -> Str
 | [] => Str.empty
 | x :: r => r.foldl (fun acc p => acc ++ sep ++ p) x
noncomputable def fH (sep : Str) (l : List Str) : Nat := l.foldl (fun k x => k + x.length + sep.length) 0
noncomputable def smK (o : V) (m : MH) : Option Nat := match o with
 | .ref p => match m[p]? with
  | some (.list _) => some 0
  | some (.dict _ _) => some 1
  | _ => Option.none
 | .str _ => some 2
 | _ => Option.none
noncomputable def smH (k : Nat) (n : Sm) : Bool := match k, n with
 | 0, .append => true
 | 2, .join => true
 | 0, .clear => true
 | 1, .clear => true
 | _, _ => false
noncomputable def bM6 (p : Nat) (xs : List V) (n : Sm) (as : List V) : Mn V := fun m => match n with
 | .append => (match as with | [v] => (if xs.length < lid then .ok .none (m.set p (.list (xs ++ [v]))) else .bad) | _ => .bad)
 | .pop => (match as with
  | [i] => (match i with
   | .int k => if 0 <= k then (match xs[k.toNat]? with
     | some v => if k.natAbs < 2 ^ 60 then .ok v (m.set p (.list (xs.eraseIdx k.toNat))) else .bad
     | Option.none => .bad)
    else .bad
   | _ => .bad)
  | _ => .bad)
 | .clear => (match as with | [] => .ok .none (m.set p (.list [])) | _ => .bad)
 | .count => (match as with
  | [i] => (match i with
   | .bool b => (match aX9 xs with | some bs => .ok (.int (bs.count b)) m | Option.none => .bad)
   | _ => .bad)
  | _ => .bad)
 | .index => (match as with
  | [i] => (match i with
   | .bool b => (match aX9 xs with | some bs => if bs.contains b then .ok (.int (bs.idxOf b)) m else .bad | Option.none => .bad)
   | _ => .bad)
  | _ => .bad)
 | _ => .bad
noncomputable def bE7 (p : Nat) (kvs : List (Ky × V)) (e : Nat) (n : Sm) (as : List V) : Mn V := fun m => match n with
 | .get => (match as with
  | [k, d] => (match eB k with
   | some k => if aU k kvs then .ok ((b9 k kvs).getD d) m else .bad
   | Option.none => .bad)
  | _ => .bad)
 | .pop => (match as with
  | [k] => (match k with
   | .int i => if aU (.int i) kvs then (match b9 (.int i) kvs with
     | some v => .ok v (m.set p (.dict (cY2 (.int i) kvs) (e + 1)))
     | Option.none => .bad)
    else .bad
   | _ => .bad)
  | _ => .bad)
 | .clear => (match as with | [] => (if aB3 kvs then .ok .none (m.set p (.dict [] (e + 1))) else .bad) | _ => .bad)
 | _ => .bad
noncomputable def strM (s : Str) (n : Sm) (as : List V) : Mn V := fun m => match n with
 | .join => (match as with
  | [v] => (match v with
   | .ref p => (match m[p]? with
    | some (.list xs) => (match d7 xs with
     | some l => if fH s l <= lid then .ok (.str (aJ4 s l)) m else .bad
     | Option.none => .bad)
    | _ => .bad)
   | _ => .bad)
  | _ => .bad)
 | .split => (match as with
  | [v] => (match v with
   | .str sep => (match sep.cps.toList with
    | [c] => if s.length <= 4000 then alloc (.list ((bJ2 c s.cps.toList).map fun l => .str ⟨l.toArray⟩)) m else .bad
    | _ => .bad)
   | _ => .bad)
  | _ => .bad)
 | _ => .bad
noncomputable def cW (k : Nat) (o : V) (n : Sm) (as : List V) : Mn V := fun m => match k with
 | 0 => (match o with
  | .ref p => (match m[p]? with | some (.list xs) => bM6 p xs n as m | _ => .bad)
  | _ => .bad)
 | 1 => (match o with
  | .ref p => (match m[p]? with | some (.dict kvs e) => bE7 p kvs e n as m | _ => .bad)
  | _ => .bad)
 | 2 => (match o with
  | .str s => strM s n as m
  | _ => .bad)
 | _ => .bad
mutual
noncomputable def V.same : V -> V -> Bool
 | .none, y => match y with | .none => true | _ => false
 | .bool a, y => match y with | .bool b => a == b | _ => false
 | .int a, y => match y with | .int b => a == b | _ => false
 | .str a, y => match y with | .str b => a == b | _ => false
 | .tup xs, y => match y with | .tup ys => V.sames xs ys | _ => false
 | .ref a, y => match y with | .ref b => a == b | _ => false
 | .fn a, y => match y with | .fn b => a == b | _ => false
 | .exc a, y => match y with | .exc b => a == b | _ => false
 | .scr a, y => match y with | .scr b => a == b | _ => false
noncomputable def V.sames : List V -> List V -> Bool
 | [], ys => ys.isEmpty
 | x :: xs, ys => match ys with
  | [] => false
  | y :: ys => V.same x y && V.sames xs ys
end
mutual
theorem bK0 : ∀ v : V, V.same v v = true
 | .none => rfl
 | .bool b => beq_self_eq_true b
 | .int i => beq_self_eq_true i
 | .str s => beq_self_eq_true s
 | .tup xs => eU xs
 | .ref n => beq_self_eq_true n
 | .fn n => beq_self_eq_true n
 | .exc n => beq_self_eq_true n
 | .scr n => beq_self_eq_true n
theorem eU : ∀ xs : List V, V.sames xs xs = true
 | [] => rfl
 | x :: xs => by show (V.same x x && V.sames xs xs) = true; rw [bK0 x, eU xs]; rfl
end
set_option genCtorIdx false in
inductive Gd where
 | none | list (n : Nat) (xs : List V) | dict (n : Nat) (e : Nat)
noncomputable def Gd.stays (g : Gd) (m : MH) : Bool := match g with
 | .none => true
 | .list n xs => match m[n]? with
  | some (.list ys) => V.sames xs ys
  | _ => false
 | .dict n e => match m[n]? with
  | some (.dict _ e') => e == e'
  | _ => false
noncomputable def dZ (v : V) : Mn (List V × Gd) := fun m => match v with
 | .str s => .ok (s.cps.toList.map fun c => .str ⟨#[c]⟩, .none) m
 | .ref n => match m[n]? with
  | some (.list xs) => .ok (xs, .list n xs) m
  | some (.dict kvs e) => .ok (kvs.map fun p => p.1.val, .dict n e) m
  | _ => .bad
 | _ => .bad
noncomputable def cX5 : Nat -> List V -> List V
 | _, [] => []
 | k, x :: xs => .tup [.int k, x] :: cX5 (k + 1) xs
noncomputable def enumV (v : V) : Mn (List V × Gd) := fun m => match v with
 | .ref n => match m[n]? with
  | some (.list xs) => .ok (cX5 0 xs, .list n xs) m
  | _ => .bad
 | _ => .bad
noncomputable def aB8 (k : IK) (vs : List V) : Mn (List V × Gd) := match k, vs with
 | .expr, [v] => dZ v
 | .range, vs => match fI vs with
  | some l => ret (l, .none)
  | Option.none => bad
 | .enum, [v] => enumV v
 | _, _ => bad
noncomputable def eG : List Nat -> List V -> Lo -> Option Lo
 | [], [], r => some r
 | i :: is, v :: vs, r => eG is vs (r.set i (some v))
 | _, _, _ => Option.none
noncomputable def aI9 (t : CT) (v : V) (r : Lo) : Mn Lo := fun m => match t with
 | .one i => .ok (r.set i (some v)) m
 | .many is => match v with
  | .tup vs => ofO (eG is vs r) m
  | _ => .bad
noncomputable def dB (o : V) (n : Nat) (v : V) : Mn Unit := fun m => match o with
 | .ref p => match m[p]? with
  | some (.inst c fs) => .ok () (m.set p (.inst c (d8 n v fs)))
  | _ => .bad
 | _ => .bad
noncomputable def bV (o i v : V) : Mn Unit := fun m => match o with
 | .ref p => match m[p]? with
  | some (.dict kvs e) => match eB i with
   | some k => if aU k kvs && kvs.length < lid then .ok () (m.set p (.dict (put k v kvs) (e + 1))) else .bad
   | Option.none => .bad
  | some (.list xs) => match i with
   | .int k => if 0 <= k /\ k < xs.length then .ok () (m.set p (.list (xs.set k.toNat v))) else if k < 0 /\ 0 <= k + xs.length then .ok () (m.set p (.list (xs.set (k + xs.length).toNat v))) else .bad
   | _ => .bad
  | _ => .bad
 | _ => .bad
inductive Fl where
 | next | cont | ret (v : V)
noncomputable def aM1 (g : Gd) (step : V -> Lo -> Mn (Fl × Lo)) : List V -> Lo -> Mn (Fl × Lo)
 | [], r => fun m => if g.stays m then .ok (.next, r) m else .bad
 | v :: vs, r => fun m => if g.stays m then (step v r m).bind (fun p => match p.1 with
   | .ret x => ret (.ret x, p.2)
   | _ => aM1 g step vs p.2) else .bad
noncomputable def dF (o : Option V) (r : List V) : List V := match o with
 | some x => x :: r
 | Option.none => r
noncomputable def aY (g : Gd) (step : V -> Mn (Option V)) : List V -> Mn (List V)
 | [] => fun m => if g.stays m then .ok [] m else .bad
 | v :: vs => fun m => if g.stays m then (step v m).nox.bind (fun o => bnd (aY g step vs) fun r => ret (dF o r)) else .bad
noncomputable def bG1 (c : Lo -> Mn Bool) (body : Lo -> Mn (Fl × Lo)) : Nat -> Lo -> Mn (Fl × Lo)
 | 0, _ => bad
 | n + 1, r => bnd (fun m => (c r m).nox) fun b => if b then bnd (fun m => (body r m).nox) fun p => match p.1 with
   | .ret x => ret (.ret x, p.2)
   | _ => bG1 c body n p.2
  else ret (.next, r)
noncomputable def fuelW : Nat := 1000000
noncomputable abbrev Fns := Nat -> List V -> Mn V
noncomputable def cY8 (F : Fns) (N : Nat) (as : Mn (List V)) (x : V) : Mn V := match x with
 | .fn k => if k < N then bnd as fun vs => F k vs else bad
 | _ => bad
noncomputable def cU5 (v u : V) : Mn V := match u with
 | .none => ret v
 | _ => bad
noncomputable def cK0 (S : Sig) (F : Fns) (c : Nat) (vs : List V) : Mn V := match S.cls[c]? with
 | some d => if d.exc then bad else match d.init with
  | some k => bnd (alloc (.inst c [])) fun x => bnd (F k (x :: vs)) (cU5 x)
  | Option.none => bad
 | Option.none => bad
noncomputable def fD (S : Sig) (n : Nat) (x : V) : Mn Nat := fun m => match x with
 | .ref p => match m[p]? with
  | some (.inst c fs) => match S.cls[c]? with
   | some d => match aQ0 n fs with
    | Option.none => ofO (d.meths.lookup n) m
    | some y_ => .bad
   | Option.none => .bad
  | _ => .bad
 | _ => .bad
mutual
noncomputable def ev (S : Sig) (F : Fns) : CE -> Lo -> Mn V
 | .cnst v, _ => ret v.val
 | .var i, r => match r[i]? with
  | some (some v) => ret v
  | _ => bad
 | .glob i, _ => match S.globs[i]? with
  | some p => ret p.2.val
  | Option.none => bad
 | .fnv k, _ => ret (.fn k)
 | .bin op a b, r => bnd (ev S F a r) fun x => bnd (ev S F b r) fun y => bF6 op x y
 | .neg a, r => bnd (ev S F a r) fun x => match x with
  | .int i => ret (.int (-i))
  | _ => bad
 | .not a, r => bnd (ev S F a r) fun x => bnd (fB x) fun b => ret (.bool (!b))
 | .boolop c as, r => evB S F c as r
 | .cmp a ops bs, r => bnd (ev S F a r) fun x => evC S F x ops bs r
 | .ite c a b, r => bnd (evT S F c r) fun t => if t then ev S F a r else ev S F b r
 | .tup as, r => bnd (evs S F as r) fun vs => ret (.tup vs)
 | .list as, r => bnd (evs S F as r) fun vs => alloc (.list vs)
 | .dict ks vs, r => bnd (evs S F vs r) fun us => alloc (.dict ((ks.map Ky.str).zip us) 0)
 | .idx a i, r => bnd (ev S F a r) fun x => bnd (ev S F i r) fun y => aI8 x y
 | .slice a lo hi st, r => bnd (ev S F a r) fun x => bnd (ev S F lo r) fun l => bnd (ev S F hi r) fun h => bnd (ev S F st r) fun t => aA8 x l h t
 | .attr a n, r => bnd (ev S F a r) fun x => aB7 x n
 | .call k as, r => bnd (evs S F as r) fun vs => F k vs
 | .callv f as, r => bnd (ev S F f r) fun x => cY8 F S.fns.length (evs S F as r) x
 | .new c as, r => bnd (evs S F as r) fun vs => cK0 S F c vs
 | .meth o n as, r => bnd (ev S F o r) fun x => bnd (fD S n x) fun k => bnd (evs S F as r) fun vs => F k (x :: vs)
 | .smeth o n as, r => bnd (ev S F o r) fun x => fun m => match smK x m with
  | some k => if smH k n then bnd (evs S F as r) (fun vs => cW k x n vs) m else .bad
  | Option.none => .bad
 | .bi b as, r => bnd (evs S F as r) fun vs => biV b vs
 | .listrange as, r => bnd (evs S F as r) fun vs => match fI vs with
  | some l => if l.length <= lid then alloc (.list l) else bad
  | Option.none => bad
 | .isi a t, r => bnd (ev S F a r) fun x => bnd (eN S x t) fun b => ret (.bool b)
 | .comp elt t nl k src ifs, r => bnd (evs S F src r) fun vs => bnd (aB8 k vs) fun p =>
   bnd (aY p.2 (fun v => bnd (aI9 t v (r ++ List.replicate nl Option.none)) fun r' => bnd (bF5 S F ifs r') fun b =>
    if b then bnd (ev S F elt r') fun x => ret (some x) else ret Option.none) p.1) fun l => if l.length <= lid then alloc (.list l) else bad
noncomputable def evT (S : Sig) (F : Fns) : CB -> Lo -> Mn Bool
 | .not a, r => bnd (evT S F a r) fun b => ret (!b)
 | .all c as, r => aT8 S F c as r
 | .val e, r => bnd (ev S F e r) fB
noncomputable def aT8 (S : Sig) (F : Fns) (c : Bool) : List CB -> Lo -> Mn Bool
 | [], _ => ret c
 | a :: as, r => bnd (evT S F a r) fun b => if b == c then aT8 S F c as r else ret b
noncomputable def bF5 (S : Sig) (F : Fns) : List CB -> Lo -> Mn Bool
 | [], _ => ret true
 | a :: as, r => bnd (evT S F a r) fun b => if b then bF5 S F as r else ret false
noncomputable def evs (S : Sig) (F : Fns) : List CE -> Lo -> Mn (List V)
 | [], _ => ret []
 | a :: as, r => bnd (ev S F a r) fun x => bnd (evs S F as r) fun xs => ret (x :: xs)
noncomputable def evB (S : Sig) (F : Fns) (c : Bool) : List CE -> Lo -> Mn V
 | [], _ => bad
 | a :: as, r => match as with
  | [] => ev S F a r
  | _ :: _ => bnd (ev S F a r) fun x => bnd (fB x) fun b => if b == c then evB S F c as r else ret x
noncomputable def evC (S : Sig) (F : Fns) (x : V) (ops : List CmpOp) : List CE -> Lo -> Mn V
 | [], _ => bad
 | a :: as, r => match ops with
  | [] => bad
  | op :: ops' => bnd (ev S F a r) fun y => bnd (aA2 op x y) fun b => match as with
   | [] => (match ops' with | [] => ret (.bool b) | _ => bad)
   | _ :: _ => if b then evC S F y ops' as r else ret (.bool false)
end
noncomputable def asgT (S : Sig) (F : Fns) (t : CTgt) (v : V) (r : Lo) : Mn Lo := match t with
 | .one t => aI9 t v r
 | .attr o n => bnd (ev S F o r) fun x => bnd (dB x n v) fun y_ => ret r
 | .idx o i => bnd (ev S F o r) fun x => bnd (ev S F i r) fun y => bnd (bV x y v) fun y_ => ret r
 | .idx2 o i o' i' => match v with
  | .tup [a, b] => bnd (ev S F o r) fun x => bnd (ev S F i r) fun y => bnd (bV x y a) fun y_ =>
    bnd (ev S F o' r) fun x' => bnd (ev S F i' r) fun y' => bnd (bV x' y' b) fun y_ => ret r
  | _ => bad
noncomputable def exR (nm : Option Nat) (d : Nat) (r : Lo) : Lo := match nm with
 | some i => r.set i (some (.exc d))
 | Option.none => r
noncomputable def exN (nm : Option Nat) (r : Lo) : Lo := match nm with
 | some i => r.set i Option.none
 | Option.none => r
noncomputable def cR5 (S : Sig) (c : Nat) (nm : Option Nat) (h : Lo -> Mn V) (r : Lo) (d : Nat) : Mn (Fl × Lo) := fun m =>
 if ((S.cls[d]?).any fun k => k.supers.contains c) = true then ((h (exR nm d r) m).nox).bind fun v => ret (.ret v, exN nm r) else .bad
noncomputable def bI5 (S : Sig) (x : Mn (Fl × Lo)) (c : Nat) (nm : Option Nat) (h : Lo -> Mn V) (r : Lo) : Mn (Fl × Lo) := fun m => match x m with
 | .ok a m' => .ok a m'
 | .exc d m' => cR5 S c nm h r d m'
 | .bad => .bad
mutual
noncomputable def ex (S : Sig) (F : Fns) : CS -> Lo -> Mn (Fl × Lo)
 | .asg t e, r => bnd (ev S F e r) fun v => bnd (asgT S F t v r) fun r' => ret (.next, r')
 | .exp e, r => bnd (ev S F e r) fun y_ => ret (.next, r)
 | .ite c a b, r => bnd (evT S F c r) fun t => if t then exs S F a r else exs S F b r
 | .for_ k t src body, r => bnd (evs S F src r) fun vs => bnd (aB8 k vs) fun p => aM1 p.2 (fun v r' => bnd (aI9 t v r') fun r'' => exs S F body r'') p.1 r
 | .wh c body, r => bG1 (fun r' => evT S F c r') (fun r' => exs S F body r') fuelW r
 | .ret e, r => bnd (ev S F e r) fun v => ret (.ret v, r)
 | .rse c _, _ => fun m => .exc c m
 | .try_ body c nm h, r => bI5 S (exs S F body r) c nm (fun r' => ev S F h r') r
 | .cont, r => ret (.cont, r)
 | .pass, r => ret (.next, r)
noncomputable def exs (S : Sig) (F : Fns) : List CS -> Lo -> Mn (Fl × Lo)
 | [], r => ret (.next, r)
 | s :: ss, r => bnd (ex S F s r) fun p => match p.1 with
  | .next => exs S F ss p.2
  | f => ret (f, p.2)
end
noncomputable def cW5 (p : Fl × Lo) : Mn V := match p.1 with
 | .ret v => ret v
 | .next => ret .none
 | .cont => bad
noncomputable def aY6 (S : Sig) (F : Fns) (k : Nat) (vs : List V) : Mn V := match S.fns[k]? with
 | some d => if vs.length = d.np then bnd (exs S F d.body (vs.map some ++ List.replicate (d.names.length - d.np) Option.none)) cW5 else bad
 | Option.none => bad
noncomputable def run (S : Sig) : Nat -> Fns
 | 0 => fun y_ y_ => bad
 | n + 1 => aY6 S (run S n)
theorem ky_i {a b : Int} (h : Ky.int a = Ky.int b) : a = b := by injection h
theorem ky_s {a b : Str} (h : Ky.str a = Ky.str b) : a = b := by injection h
theorem ky_t {a b : List (Sum Int Str)} (h : Ky.tup a = Ky.tup b) : a = b := by injection h
theorem some_e {α : Type} {a b : α} {C : Prop} (h : some a = some b) (k : a = b -> C) : C := k (Option.some.inj h)
theorem ok_e {α : Type} {a b : α} {m m' : MH} {C : Prop} (h : Res.ok a m = Res.ok b m') (k : a = b -> m = m' -> C) : C := by injection h with e1 e2; exact k e1 e2
end Mini
namespace Mini
open PySem
theorem hide {C : Prop} (h : ∀ G : Prop, (C -> G) -> G) : C := h C id
structure Wd where
 prog : Program
 w : World
 S : Sig
 fa : Nat -> Addr
 ca : Nat -> Addr
 base : Heap
noncomputable abbrev Io := List (Addr × Addr)
noncomputable def cU (io : Io) (b : Addr) : Prop := ∃ p ∈ io, b = p.1 \/ b = p.2
theorem dS {io new : Io} {b : Addr} (x : cU (io ++ new) b) : cU io b \/ cU new b := by
 refine hide fun G_ g_ => ?_
 obtain ⟨p, hp, e⟩ := x
 refine g_ ?_
 clear g_ G_
 rcases List.mem_append.mp hp with h | h
 ·exact .inl ⟨p, h, e⟩
 ·exact .inr ⟨p, h, e⟩
noncomputable def IntsR : List Int -> List Value -> Prop
 | [], us => us = []
 | i :: ns, us => ∃ t vs, us = .int i t :: vs /\ IntsR ns vs
theorem IntsR.nil : IntsR [] [] := rfl
theorem IntsR.cons (i : Int) (t : Tok) {ns : List Int} {vs : List Value} (h : IntsR ns vs) : IntsR (i :: ns) (.int i t :: vs) := ⟨t, vs, rfl, h⟩
noncomputable abbrev cG9 (vs : Array Value) (n : Nat) : Obj := { cls := .type "tuple", data := .seq vs n }
noncomputable abbrev e7 (vs : Array Value) (n : Nat) : Obj := { cls := .type "list", data := .seq vs n }
mutual
noncomputable def VR (W : Wd) (h : Heap) (io : Io) : V -> Value -> Prop
 | .none, u => u = .none
 | .bool b, u => u = .bool b
 | .int i, u => ∃ t, u = .int i t
 | .str s, u => ∃ t, u = .str s t /\ PyData.strOk s = true
 | .tup xs, u => ∃ a vs n, u = .ref a /\ h.get? a = some (cG9 vs n) /\ VRs W h io xs vs.toList
 | .ref n, u => ∃ a d, u = .ref a /\ io[n]? = some (a, d)
 | .fn k, u => u = .ref (W.fa k)
 | .exc c, u => ∃ a o vs, u = .ref a /\ h.get? a = some o /\ o.cls = .ref (W.ca c) /\ o.data = .fields vs
 | .scr ns, u => ∃ l o vs n, u = .ref l /\ W.base.get? l = some o /\ o.cls = .type "list" /\ o.data = .seq vs n /\ IntsR ns vs.toList /\ ns.length <= lid
noncomputable def VRs (W : Wd) (h : Heap) (io : Io) : List V -> List Value -> Prop
 | [], us => us = []
 | x :: xs, us => ∃ v vs, us = v :: vs /\ VR W h io x v /\ VRs W h io xs vs
end
section
variable {W : Wd} {h : Heap} {io : Io}
theorem VR.none : VR W h io .none .none := rfl
theorem VR.bool (b : Bool) : VR W h io (.bool b) (.bool b) := rfl
theorem VR.int (i : Int) (t : Tok) : VR W h io (.int i) (.int i t) := ⟨t, rfl⟩
theorem VR.str (s : Str) (t : Tok) (k : PyData.strOk s = true) : VR W h io (.str s) (.str s t) := ⟨t, rfl, k⟩
theorem VR.tup {a : Addr} {vs : Array Value} {n : Nat} {xs : List V} (h1 : h.get? a = some (cG9 vs n)) (h2 : VRs W h io xs vs.toList) : VR W h io (.tup xs) (.ref a) := ⟨a, vs, n, rfl, h1, h2⟩
theorem VR.ref {n : Nat} {a d : Addr} (h1 : io[n]? = some (a, d)) : VR W h io (.ref n) (.ref a) := ⟨a, d, rfl, h1⟩
theorem VR.fn (k : Nat) : VR W h io (.fn k) (.ref (W.fa k)) := rfl
theorem VR.exc {c : Nat} {a : Addr} {o : Obj} {vs : Array Value} (h1 : h.get? a = some o) (h2 : o.cls = .ref (W.ca c)) (h3 : o.data = .fields vs) : VR W h io (.exc c) (.ref a) := ⟨a, o, vs, rfl, h1, h2, h3⟩
theorem VR.scr {ns : List Int} {l : Addr} {o : Obj} {vs : Array Value} {n : Nat} (h1 : W.base.get? l = some o) (h2 : o.cls = .type "list") (h3 : o.data = .seq vs n) (h4 : IntsR ns vs.toList) (h5 : ns.length <= lid) : VR W h io (.scr ns) (.ref l) := ⟨l, o, vs, n, rfl, h1, h2, h3, h4, h5⟩
theorem VRs.nil : VRs W h io [] [] := rfl
theorem VRs.cons {x : V} {v : Value} {xs : List V} {vs : List Value} (h1 : VR W h io x v) (h2 : VRs W h io xs vs) : VRs W h io (x :: xs) (v :: vs) := ⟨v, vs, rfl, h1, h2⟩
end
section
variable {W : Wd} {h : Heap} {io : Io} {u : Value} {C : Value -> Prop}
@[elab_as_elim] theorem VR.dNone (k : VR W h io .none u) (c : C .none) : C u := Eq.symm (show u = _ from k) ▸ c
@[elab_as_elim] theorem VR.dBool {b : Bool} (k : VR W h io (.bool b) u) (c : C (.bool b)) : C u := Eq.symm (show u = _ from k) ▸ c
@[elab_as_elim] theorem VR.dInt {i : Int} (k : VR W h io (.int i) u) (c : ∀ t, C (.int i t)) : C u := by obtain ⟨t, rfl⟩ := k; exact c t
@[elab_as_elim] theorem VR.dStr {s : Str} (k : VR W h io (.str s) u) (c : ∀ t, PyData.strOk s = true -> C (.str s t)) : C u := by obtain ⟨t, rfl, k⟩ := k; exact c t k
@[elab_as_elim] theorem VR.dTup {xs : List V} (k : VR W h io (.tup xs) u) (c : ∀ a vs n, h.get? a = some (cG9 vs n) -> VRs W h io xs vs.toList -> C (.ref a)) : C u := by obtain ⟨a, vs, n, rfl, h1, h2⟩ := k; exact c a vs n h1 h2
@[elab_as_elim] theorem VR.dRef {n : Nat} (k : VR W h io (.ref n) u) (c : ∀ a d, io[n]? = some (a, d) -> C (.ref a)) : C u := by obtain ⟨a, d, rfl, h1⟩ := k; exact c a d h1
@[elab_as_elim] theorem VR.dFn {n : Nat} (k : VR W h io (.fn n) u) (c : C (.ref (W.fa n))) : C u := Eq.symm (show u = _ from k) ▸ c
@[elab_as_elim] theorem VR.dExc {n : Nat} (k : VR W h io (.exc n) u) (c : ∀ a o vs, h.get? a = some o -> o.cls = .ref (W.ca n) -> o.data = .fields vs -> C (.ref a)) : C u := by obtain ⟨a, o, vs, rfl, h1, h2, h3⟩ := k; exact c a o vs h1 h2 h3
@[elab_as_elim] theorem VR.dScr {ns : List Int} (k : VR W h io (.scr ns) u) (c : ∀ l o vs n, W.base.get? l = some o -> o.cls = .type "list" -> o.data = .seq vs n -> IntsR ns vs.toList -> ns.length <= lid -> C (.ref l)) : C u := by obtain ⟨l, o, vs, n, rfl, h1, h2, h3, h4, h5⟩ := k; exact c l o vs n h1 h2 h3 h4 h5
theorem VR.elim {C : (v : V) -> (u : Value) -> VR W h io v u -> Prop} (none : C .none .none .none) (bool : ∀ b, C (.bool b) (.bool b) (.bool b)) (int : ∀ i t, C (.int i) (.int i t) (.int i t)) (str : ∀ s t k, C (.str s) (.str s t) (.str s t k))
  (tup : ∀ {a : Addr} {vs : Array Value} {n : Nat} {xs : List V} (h1 : h.get? a = some (cG9 vs n)) (h2 : VRs W h io xs vs.toList), C (.tup xs) (.ref a) (.tup h1 h2)) (ref : ∀ {n : Nat} {a d : Addr} (h1 : io[n]? = some (a, d)), C (.ref n) (.ref a) (.ref h1)) (fn : ∀ k, C (.fn k) (.ref (W.fa k)) (.fn k))
  (exc : ∀ {c : Nat} {a : Addr} {o : Obj} {vs : Array Value} (h1 : h.get? a = some o) (h2 : o.cls = .ref (W.ca c)) (h3 : o.data = .fields vs), C (.exc c) (.ref a) (.exc h1 h2 h3))
  (scr : ∀ {ns : List Int} {l : Addr} {o : Obj} {vs : Array Value} {n : Nat} (h1 : W.base.get? l = some o) (h2 : o.cls = .type "list") (h3 : o.data = .seq vs n) (h4 : IntsR ns vs.toList) (h5 : ns.length <= lid), C (.scr ns) (.ref l) (.scr h1 h2 h3 h4 h5))
  {v : V} {u : Value} (k : VR W h io v u) : C v u k := by
 cases v with
 | none => obtain rfl : u = .none := k; exact none
 | bool b => obtain rfl : u = .bool b := k; exact bool b
 | int i => obtain ⟨t, rfl⟩ := k; exact int i t
 | str s => obtain ⟨t, rfl, k⟩ := k; exact str s t k
 | tup xs => obtain ⟨a, vs, n, rfl, h1, h2⟩ := k; exact tup h1 h2
 | ref n => obtain ⟨a, d, rfl, h1⟩ := k; exact ref h1
 | fn n => obtain rfl : u = .ref (W.fa n) := k; exact fn n
 | exc c => obtain ⟨a, o, vs, rfl, h1, h2, h3⟩ := k; exact exc h1 h2 h3
 | scr ns => obtain ⟨l, o, vs, n, rfl, h1, h2, h3, h4, h5⟩ := k; exact scr h1 h2 h3 h4 h5
theorem VRs.cc {x : V} {v : Value} {xs : List V} {vs : List Value} (k : VRs W h io (x :: xs) (v :: vs)) : VR W h io x v /\ VRs W h io xs vs := by obtain ⟨y_, y_, e, h1, h2⟩ := k; injection e with e1 e2; subst e1; subst e2; exact ⟨h1, h2⟩
theorem VRs.elim {C : (xs : List V) -> (us : List Value) -> VRs W h io xs us -> Prop} (nil : C [] [] .nil) (cons : ∀ {x : V} {v : Value} {xs : List V} {vs : List Value} (h1 : VR W h io x v) (h2 : VRs W h io xs vs), C (x :: xs) (v :: vs) (.cons h1 h2)) {xs : List V} {us : List Value} (k : VRs W h io xs us) : C xs us k := by
 cases xs with
 | nil => obtain rfl : us = [] := k; exact nil
 | cons x xs => obtain ⟨v, vs, rfl, h1, h2⟩ := k; exact cons h1 h2
variable {us : List Value} {D : List Value -> Prop}
@[elab_as_elim] theorem VRs.dNil (k : VRs W h io [] us) (c : D []) : D us := Eq.symm (show us = _ from k) ▸ c
@[elab_as_elim] theorem VRs.dCons {x : V} {xs : List V} (k : VRs W h io (x :: xs) us) (c : ∀ v vs, VR W h io x v -> VRs W h io xs vs -> D (v :: vs)) : D us := by obtain ⟨v, vs, rfl, h1, h2⟩ := k; exact c v vs h1 h2
@[elab_as_elim] theorem VRs.d1 {x : V} (k : VRs W h io [x] us) (c : ∀ v, VR W h io x v -> D [v]) : D us := VRs.dCons k fun v y_ h1 h2 => VRs.dNil h2 (c v h1)
@[elab_as_elim] theorem VRs.d2 {x y : V} (k : VRs W h io [x, y] us) (c : ∀ v w, VR W h io x v -> VR W h io y w -> D [v, w]) : D us := VRs.dCons k fun v y_ h1 h2 => VRs.d1 h2 fun w => c v w h1
end
end Mini
local macro_rules
 | `(tactic| cases $h:ident) => `(tactic| first | (injection $h:ident; done) | (refine Mini.some_e $h fun z_1 => ?_; clear $h; cases z_1) | (refine Mini.ok_e $h fun z_1 z_2 => ?_; clear $h; cases z_1; cases z_2) | subst $h:ident | refine Mini.VR.dInt $h fun y_ => ?_ | cases ($h))
namespace Mini
open PySem
noncomputable def bQ9 (w : World) : Sum Int Str -> Int
 | .inl i => hashInt i
 | .inr s => hashStr w s
noncomputable def aS5 (w : World) : Ky -> Int
 | .int i => hashInt i
 | .str s => hashStr w s
 | .tup ks => reduceHash (Builtin.Tuple.tupleHashOf (ks.map (bQ9 w)))
noncomputable def ERs (W : Wd) (h : Heap) (io : Io) : List (Ky × V) -> List DictEntry -> Prop
 | [], es => es = []
 | p :: kvs, es => ∃ key u es', es = ⟨aS5 W.w p.1, key, u⟩ :: es' /\ VR W h io p.1.val key /\ VR W h io p.2 u /\ ERs W h io kvs es'
theorem ERs.nil {W : Wd} {h : Heap} {io : Io} : ERs W h io [] [] := rfl
theorem ERs.cons {W : Wd} {h : Heap} {io : Io} {k : Ky} {v : V} {key u : Value} {kvs : List (Ky × V)} {es : List DictEntry} (h1 : VR W h io k.val key) (h2 : VR W h io v u) (h3 : ERs W h io kvs es) : ERs W h io ((k, v) :: kvs) (⟨aS5 W.w k, key, u⟩ :: es) := ⟨key, u, es, rfl, h1, h2, h3⟩
theorem ERs.ind {W : Wd} {h : Heap} {io : Io} {C : (kvs : List (Ky × V)) -> (es : List DictEntry) -> ERs W h io kvs es -> Prop} (nil : C [] [] .nil)
  (cons : ∀ {k : Ky} {v : V} {key u : Value} {kvs : List (Ky × V)} {es : List DictEntry} (h1 : VR W h io k.val key) (h2 : VR W h io v u) (h3 : ERs W h io kvs es), C kvs es h3 -> C ((k, v) :: kvs) (⟨aS5 W.w k, key, u⟩ :: es) (.cons h1 h2 h3)) {kvs : List (Ky × V)} {es : List DictEntry} (x : ERs W h io kvs es) : C kvs es x := by
 induction kvs generalizing es with
 | nil => obtain rfl : es = [] := x; exact nil
 | cons p kvs ih => obtain ⟨key, u, es', rfl, h1, h2, h3⟩ := x; exact cons h1 h2 h3 (ih h3)
@[elab_as_elim] theorem ERs.dCons {W : Wd} {h : Heap} {io : Io} {es : List DictEntry} {D : List DictEntry -> Prop} {p : Ky × V} {kvs : List (Ky × V)} (k : ERs W h io (p :: kvs) es) (c : ∀ key u es', VR W h io p.1.val key -> VR W h io p.2 u -> ERs W h io kvs es' -> D (⟨aS5 W.w p.1, key, u⟩ :: es')) : D es := by obtain ⟨key, u, es', rfl, h1, h2, h3⟩ := k; exact c key u es' h1 h2 h3
noncomputable def FEs (W : Wd) (h : Heap) (io : Io) (fs : List (Nat × V)) (mA : Str -> Option Value) : Prop :=
 (∀ x u, mA x = some u -> ∃ i v, W.S.attrs[i]? = some x /\ aQ0 i fs = some v /\ VR W h io v u) /\ (∀ i v, aQ0 i fs = some v -> ∃ x u, W.S.attrs[i]? = some x /\ mA x = some u /\ VR W h io v u)
structure ClsOk (W : Wd) (c : Nat) (D : ClsD) (N : Addr) (mN : Str -> Option Value) : Prop where
 dat : W.S.cls[c]? = some D
 exc : D.exc = false
 obj : ∃ nm q bs sn sub col dd k0 k1 k2 k3 k5, W.base.get? (W.ca c) = some (excClassObj nm q (W.ca c) N bs [.type "object"] true sn sub false col dd k0 k1 k2 k3 k5 "object.__new__")
 ns : W.base.Ns N mN
 ga : mN "__getattribute__" = none
 gh : mN "__getattr__" = none
 sa : mN "__setattr__" = none
 has : ∀ (i : Nat) (x : Str), W.S.attrs[i]? = some x -> mN x = (D.meths.lookup i).map fun k => .ref (W.fa k)
 low : ∀ (i : Nat) (x : Str), W.S.attrs[i]? = some x -> typeLookup (.type "object") x = pure none
 uniq : ∀ (i j : Nat) (x : Str), W.S.attrs[i]? = some x -> W.S.attrs[j]? = some x -> i = j
 few : W.S.attrs.length <= 1000
 mlt : ∀ (i k : Nat), D.meths.lookup i = some k -> k < W.S.fns.length
noncomputable abbrev cL9 (C dx : Addr) : Obj := { cls := .ref C, dict := some dx, data := .plain }
noncomputable abbrev cY3 (es : List DictEntry) (n : Nat) : Obj := { cls := .type "dict", data := .dict es.toArray n }
inductive ORl (W : Wd) (h : Heap) (io : Io) (a d : Addr) (xs : List V) : Prop
 | mk (e : a = d) (vs : Array Value) (n : Nat) (h1 : h.get? a = some (e7 vs n)) (h2 : VRs W h io xs vs.toList) (h3 : xs.length <= lid)
inductive ORd (W : Wd) (h : Heap) (io : Io) (a d : Addr) (kvs : List (Ky × V)) : Prop
 | mk (e : a = d) (o : Obj) (es : Array DictEntry) (n : Nat) (h1 : h.get? a = some o) (h2 : o.ExactDict) (h3 : o.data = .dict es n) (h4 : ERs W h io kvs es.toList) (h5 : (kvs.map (·.1)).Nodup /\ kvs.length <= lid)
inductive ORi (W : Wd) (h : Heap) (io : Io) (a d : Addr) (c : Nat) (fs : List (Nat × V)) : Prop
 | mk (e : a ≠ d) (mA : Str -> Option Value) (h1 : h.get? a = some (cL9 (W.ca c) d)) (h2 : h.Ns1 d mA) (h3 : FEs W h io fs mA) (h4 : ∃ D N mN, ClsOk W c D N mN)
noncomputable def OR (W : Wd) (h : Heap) (io : Io) (a d : Addr) : MObj -> Prop
 | .list xs => ORl W h io a d xs
 | .dict kvs _ => ORd W h io a d kvs
 | .inst c fs => ORi W h io a d c fs
structure HR (W : Wd) (h : Heap) (io : Io) (m : MH) : Prop where
 keep : W.base.StaysIn h
 len : io.length = m.length
 obj : ∀ (n : Nat) (p : Addr × Addr) (o : MObj), io[n]? = some p -> m[n]? = some o -> OR W h io p.1 p.2 o
 fresh : ∀ b, cU io b -> W.base.get? b = none
 apart : ∀ (i j : Nat) (p q : Addr × Addr), i ≠ j -> io[i]? = some p -> io[j]? = some q -> p.1 ≠ q.1 /\ p.1 ≠ q.2 /\ p.2 ≠ q.2
noncomputable def cA (o : Obj) : Prop := (o.cls = .type "tuple" /\ ∃ vs n, o.data = .seq vs n) \/ (∃ C vs, o.cls = .ref C /\ o.data = .fields vs)
structure Step (own fr : List Addr) (h : Heap) (io : Io) (m : MH) (h' : Heap) (io' : Io) (m' : MH) : Prop where
 alive : ∀ b o, h.get? b = some o -> ∃ o', h'.get? b = some o'
 solid : ∀ b o, h.get? b = some o -> cA o -> h'.get? b = some o
 keep : ∀ b o, h.get? b = some o -> ¬ cU io b -> b ∉ own -> b ∉ fr -> h'.get? b = some o
 slots : ∀ b o, h.get? b = some o -> ¬ cU io b -> b ∉ own -> ∃ sl, h'.get? b = some { o with slots := sl }
 grow : ∃ new, io' = io ++ new /\ ∀ p ∈ new, h.get? p.1 = none /\ h.get? p.2 = none
 dicts : ∀ (n : Nat) (p : Addr × Addr) (kvs : List (Ky × V)) (e : Nat), io[n]? = some p -> m[n]? = some (.dict kvs e) -> ∃ (kvs' : List (Ky × V)) (e' : Nat), m'[n]? = some (.dict kvs' e') /\ e <= e' /\ (e' = e -> h'.get? p.1 = h.get? p.1 /\ kvs' = kvs)
section
variable {W : Wd} {h h' h'' : Heap} {io io' io'' : Io} {m m' m'' : MH} {own fr : List Addr}
theorem Step.refl : Step own fr h io m h io m where
 alive := fun y_ o e => ⟨o, e⟩
 solid := fun y_ y_ e y_ => e
 keep := fun y_ y_ e y_ y_ y_ => e
 slots := fun y_ o e y_ y_ => ⟨o.slots, e⟩
 grow := ⟨[], by simp, fun y_ hp => nomatch hp⟩
 dicts := fun y_ y_ kvs e y_ hm => ⟨kvs, e, hm, Nat.le_refl _, fun y_ => ⟨rfl, rfl⟩⟩
theorem Step.nofoot (x : Step own fr h io m h' io' m') {b : Addr} {o : Obj} (hb : h.get? b = some o) (hf : ¬ cU io b) : ¬ cU io' b := by
 refine hide fun G_ g_ => ?_
 obtain ⟨new, rfl, hn⟩ := x.grow
 refine g_ ?_
 clear g_ G_
 intro q
 rcases dS q with q | ⟨p, hp, e⟩
 ·exact hf q
 ·rcases e with e | e
  ·rw [e, (hn p hp).1] at hb; cases hb
  ·rw [e, (hn p hp).2] at hb; cases hb
theorem Step.trans (x : Step own fr h io m h' io' m') (y : Step own fr h' io' m' h'' io'' m'') : Step own fr h io m h'' io'' m'' where
 alive := fun b o e => let ⟨o', e'⟩ := x.alive b o e; y.alive b o' e'
 solid := fun b o e s => y.solid b o (x.solid b o e s) s
 keep := fun b o e f1 f2 f3 => y.keep b o (x.keep b o e f1 f2 f3) (x.nofoot e f1) f2 f3
 slots := fun b o e f1 f2 => by
  obtain ⟨sl, e'⟩ := x.slots b o e f1 f2
  obtain ⟨sl', e''⟩ := y.slots b _ e' (x.nofoot e f1) f2
  exact ⟨sl', e''⟩
 grow := by
  refine hide fun G_ g_ => ?_
  obtain ⟨n1, rfl, h1⟩ := x.grow
  obtain ⟨n2, rfl, h2⟩ := y.grow
  refine g_ ?_
  clear g_ G_
  refine ⟨n1 ++ n2, by simp, fun p hp => ?_⟩
  rcases List.mem_append.mp hp with hp | hp
  ·exact h1 p hp
  ·have aF2 : ∀ b, h'.get? b = none -> h.get? b = none := fun b e => by
    cases q : h.get? b with
    | none => rfl
    | some o => obtain ⟨o', e'⟩ := x.alive b o q; rw [e] at e'; cases e'
   exact ⟨aF2 _ (h2 p hp).1, aF2 _ (h2 p hp).2⟩
 dicts := fun n p kvs e hi hm => by
  refine hide fun G_ g_ => ?_
  obtain ⟨k1, e1, hm1, l1, s1⟩ := x.dicts n p kvs e hi hm
  have hi' : io'[n]? = some p := by
   refine hide fun G_ g_ => ?_
   obtain ⟨new, rfl, y_⟩ := x.grow
   refine g_ ?_
   clear g_ G_
   rw [List.getElem?_append_left (by exact (List.getElem?_eq_some_iff.mp hi).1)]; exact hi
  obtain ⟨k2, e2, hm2, l2, s2⟩ := y.dicts n p k1 e1 hi' hm1
  refine g_ ?_
  clear g_ G_
  refine ⟨k2, e2, hm2, Nat.le_trans l1 l2, fun q => ?_⟩
  have q1 : e1 = e := by omega
  have q2 : e2 = e1 := by omega
  exact ⟨(s2 q2).1.trans (s1 q1).1, (s2 q2).2.trans (s1 q1).2⟩
theorem Step.io_get (x : Step own fr h io m h' io' m') {n : Nat} {p : Addr × Addr} (hi : io[n]? = some p) : io'[n]? = some p := by
 refine hide fun G_ g_ => ?_
 obtain ⟨new, rfl, y_⟩ := x.grow
 refine g_ ?_
 clear g_ G_
 rw [List.getElem?_append_left (List.getElem?_eq_some_iff.mp hi).1]; exact hi
theorem VR.both (x : ∀ b o, h.get? b = some o -> cA o -> h'.get? b = some o) (y : ∀ (n : Nat) (p : Addr × Addr), io[n]? = some p -> io'[n]? = some p) : (∀ (v : V) (u : Value), VR W h io v u -> VR W h' io' v u) /\ (∀ (v : List V) (u : List Value), VRs W h io v u -> VRs W h' io' v u) := by
 have key : ∀ v : V, ∀ u : Value, VR W h io v u -> VR W h' io' v u := fun v => V.rec (motive_1 := fun v => ∀ u, VR W h io v u -> VR W h' io' v u) (motive_2 := fun v => ∀ u, VRs W h io v u -> VRs W h' io' v u) (fun y_ k => k) (fun y_ y_ k => k) (fun y_ y_ k => k) (fun y_ y_ k => k)
  (fun y_ ih y_ k => k.imp fun y_ k => k.imp fun y_ k => k.imp fun y_ k => ⟨k.1, x _ _ k.2.1 (.inl ⟨rfl, _, _, rfl⟩), ih _ k.2.2⟩) (fun y_ y_ k => k.imp fun y_ k => k.imp fun y_ k => ⟨k.1, y _ _ k.2⟩) (fun y_ y_ k => k)
  (fun y_ y_ k => k.imp fun y_ k => k.imp fun y_ k => k.imp fun y_ k => ⟨k.1, x _ _ k.2.1 (.inr ⟨_, _, k.2.2.1, k.2.2.2⟩), k.2.2⟩) (fun y_ y_ k => k) (fun y_ k => k) (fun y_ y_ i1 i2 y_ k => k.imp fun y_ k => k.imp fun y_ k => ⟨k.1, i1 _ k.2.1, i2 _ k.2.2⟩) v
 exact ⟨key, fun v => List.rec (motive := fun v => ∀ u, VRs W h io v u -> VRs W h' io' v u) (fun y_ k => k) (fun a y_ ih y_ k => k.imp fun y_ k => k.imp fun y_ k => ⟨k.1, key a _ k.2.1, ih _ k.2.2⟩) v⟩
theorem VR.mono (x : ∀ b o, h.get? b = some o -> cA o -> h'.get? b = some o) (y : ∀ (n : Nat) (p : Addr × Addr), io[n]? = some p -> io'[n]? = some p) {v : V} {u : Value} (k : VR W h io v u) : VR W h' io' v u := (VR.both x y).1 v u k
theorem VRs.mono (x : ∀ b o, h.get? b = some o -> cA o -> h'.get? b = some o) (y : ∀ (n : Nat) (p : Addr × Addr), io[n]? = some p -> io'[n]? = some p) {v : List V} {u : List Value} (k : VRs W h io v u) : VRs W h' io' v u := (VR.both x y).2 v u k
theorem ERs.mono (x : ∀ b o, h.get? b = some o -> cA o -> h'.get? b = some o) (y : ∀ (n : Nat) (p : Addr × Addr), io[n]? = some p -> io'[n]? = some p) {kvs : List (Ky × V)} {es : List DictEntry} (e : ERs W h io kvs es) : ERs W h' io' kvs es :=
 List.rec (motive := fun kvs => ∀ es, ERs W h io kvs es -> ERs W h' io' kvs es) (fun y_ k => k) (fun y_ y_ ih y_ k => k.imp fun y_ k => k.imp fun y_ k => k.imp fun y_ k => ⟨k.1, k.2.1.mono x y, k.2.2.1.mono x y, ih _ k.2.2.2⟩) kvs es e
theorem FEs.mono (x : ∀ b o, h.get? b = some o -> cA o -> h'.get? b = some o) (y : ∀ (n : Nat) (p : Addr × Addr), io[n]? = some p -> io'[n]? = some p) {fs : List (Nat × V)} {mA : Str -> Option Value} (e : FEs W h io fs mA) : FEs W h' io' fs mA :=
 ⟨fun z u q => (e.1 z u q).imp fun y_ q => q.imp fun y_ q => ⟨q.1, q.2.1, q.2.2.mono x y⟩, fun i v q => (e.2 i v q).imp fun y_ q => q.imp fun y_ q => ⟨q.1, q.2.1, q.2.2.mono x y⟩⟩
theorem VR.step (x : Step own fr h io m h' io' m') {v : V} {u : Value} (k : VR W h io v u) : VR W h' io' v u := k.mono x.solid fun y_ y_ => x.io_get
theorem VRs.step (x : Step own fr h io m h' io' m') {v : List V} {u : List Value} (k : VRs W h io v u) : VRs W h' io' v u := k.mono x.solid fun y_ y_ => x.io_get
theorem ERs.step (x : Step own fr h io m h' io' m') {kvs : List (Ky × V)} {es : List DictEntry} (e : ERs W h io kvs es) : ERs W h' io' kvs es := e.mono x.solid fun y_ y_ => x.io_get
theorem FEs.step (x : Step own fr h io m h' io' m') {fs : List (Nat × V)} {mA : Str -> Option Value} (e : FEs W h io fs mA) : FEs W h' io' fs mA := e.mono x.solid fun y_ y_ => x.io_get
theorem VRs.length {xs : List V} {vs : List Value} (x : VRs W h io xs vs) : vs.length = xs.length := by
 induction xs generalizing vs with
 | nil => rw [x]; rfl
 | cons y ys ih => obtain ⟨y_, y_, rfl, y_, r⟩ := x; exact congrArg Nat.succ (ih r)
theorem VRs.get {xs : List V} {vs : List Value} (x : VRs W h io xs vs) {k : Nat} {v : V} (hk : xs[k]? = some v) : ∃ u, vs[k]? = some u /\ VR W h io v u := by
 induction xs generalizing vs k with
 | nil => cases hk
 | cons y ys ih =>
  obtain ⟨y_, y_, rfl, h1, r⟩ := x
  cases k with
  | zero => cases hk; exact ⟨_, rfl, h1⟩
  | succ k => exact ih r hk
theorem VRs.append {xs ys : List V} {vs us : List Value} (x : VRs W h io xs vs) (y : VRs W h io ys us) : VRs W h io (xs ++ ys) (vs ++ us) := by
 induction xs generalizing vs with
 | nil => rw [x]; exact y
 | cons z zs ih => obtain ⟨y_, y_, rfl, h1, r⟩ := x; exact .cons h1 (ih r)
theorem VRs.snoc {xs : List V} {vs : List Value} {v : V} {u : Value} (x : VRs W h io xs vs) (y : VR W h io v u) : VRs W h io (xs ++ [v]) (vs ++ [u]) := x.append (.cons y .nil)
theorem VRs.take {xs : List V} {vs : List Value} (x : VRs W h io xs vs) (k : Nat) : VRs W h io (xs.take k) (vs.take k) := by
 induction xs generalizing vs k with
 | nil => rw [x, List.take_nil, List.take_nil]; exact .nil
 | cons z zs ih => obtain ⟨y_, y_, rfl, h1, r⟩ := x; cases k with
  | zero => exact .nil
  | succ k => exact .cons h1 (ih r k)
theorem VRs.drop {xs : List V} {vs : List Value} (x : VRs W h io xs vs) (k : Nat) : VRs W h io (xs.drop k) (vs.drop k) := by
 induction xs generalizing vs k with
 | nil => rw [x, List.drop_nil, List.drop_nil]; exact .nil
 | cons z zs ih => obtain ⟨y_, y_, rfl, h1, r⟩ := x; cases k with
  | zero => exact .cons h1 r
  | succ k => exact ih r k
theorem VRs.set {xs : List V} {vs : List Value} (x : VRs W h io xs vs) (k : Nat) {v : V} {u : Value} (y : VR W h io v u) : VRs W h io (xs.set k v) (vs.set k u) := by
 induction xs generalizing vs k with
 | nil => rw [x]; exact .nil
 | cons z zs ih => obtain ⟨y_, y_, rfl, h1, r⟩ := x; cases k with
  | zero => exact .cons y r
  | succ k => exact .cons h1 (ih r k)
theorem IntsR.length {ns : List Int} {vs : List Value} (x : IntsR ns vs) : vs.length = ns.length := by
 induction ns generalizing vs with
 | nil => rw [x]; rfl
 | cons i ns ih => obtain ⟨y_, y_, rfl, r⟩ := x; exact congrArg Nat.succ (ih r)
theorem IntsR.vrs {ns : List Int} {vs : List Value} (x : IntsR ns vs) : VRs W h io (ns.map .int) vs := by
 induction ns generalizing vs with
 | nil => exact x
 | cons i ns ih => obtain ⟨t, y_, rfl, r⟩ := x; exact .cons (.int i t) (ih r)
theorem OR.step_same (x : Step own fr h io m h' io' m') {a d : Addr} {o : MObj} (k : OR W h io a d o) (ha : ∀ o, h.get? a = some o -> h'.get? a = some o) (hd : ∀ o, h.get? d = some o -> h'.get? d = some o) : OR W h' io' a d o := by
 cases o with
 | list xs =>
  refine hide fun G_ g_ => ?_
  obtain ⟨e, vs, n, h1, h4, h5⟩ := k
  refine g_ ?_
  clear g_ G_
  exact ⟨e, vs, n, ha _ h1, h4.step x, h5⟩
 | dict kvs ep =>
  refine hide fun G_ g_ => ?_
  obtain ⟨e, o, es, n, h1, h2, h3, h4, h5⟩ := k
  refine g_ ?_
  clear g_ G_
  exact ⟨e, o, es, n, ha _ h1, h2, h3, h4.step x, h5⟩
 | inst c fs =>
  refine hide fun G_ g_ => ?_
  obtain ⟨e, mA, h1, h2, h3, h4⟩ := k
  refine g_ ?_
  clear g_ G_
  exact ⟨e, mA, ha _ h1, h2.at hd, h3.step x, h4⟩
theorem HR.foot {b : Addr} (x : HR W h io m) (f : cU io b) : ∃ o, h.get? b = some o /\ ¬ cA o /\ (∀ v, o.data ≠ .cell v) /\ (∀ vs, o.data ≠ .fields vs) /\ (∀ f, o.data ≠ .func f) := by
 refine hide fun G_ g_ => ?_
 obtain ⟨p, hp, e⟩ := f
 refine g_ ?_
 clear g_ G_
 obtain ⟨n, hn⟩ := List.getElem?_of_mem hp
 have hlt : n < m.length := by rw [<- x.len]; exact (List.getElem?_eq_some_iff.mp hn).1
 have hm : m[n]? = some m[n] := List.getElem?_eq_getElem hlt
 have k := x.obj n p _ hn hm
 have sd : ∀ o : Obj, o.ExactDict -> ∀ es ep, o.data = .dict es ep -> ¬ cA o := by
  rintro o hx es ep hd (⟨hc, vs, n, hs⟩ | ⟨C, vs, hc, hs⟩)
  ·rw [hd] at hs; cases hs
  ·rw [hd] at hs; cases hs
 cases hq : m[n] with
 | list xs =>
  rw [hq] at k
  refine hide fun G_ g_ => ?_
  obtain ⟨e', vs, n', h1, y_⟩ := k
  refine g_ ?_
  clear g_ G_
  refine ⟨e7 vs n', ?_, ?_, ?_, ?_, ?_⟩
  ·rcases e with e | e
   ·rw [e]; exact h1
   ·rw [e, <- e']; exact h1
  ·rintro (⟨hc, y_⟩ | ⟨C, ws, hc, hs⟩)
   ·simp at hc
   ·cases hs
  all_goals (intro v q; cases q)
 | dict kvs ep =>
  rw [hq] at k
  refine hide fun G_ g_ => ?_
  obtain ⟨e', o, es, n', h1, h2, h3, y_⟩ := k
  refine g_ ?_
  clear g_ G_
  refine ⟨o, ?_, sd o h2 _ _ h3, ?_, ?_, ?_⟩
  ·rcases e with e | e
   ·rw [e]; exact h1
   ·rw [e, <- e']; exact h1
  ·intro v q; rw [h3] at q; cases q
  ·intro v q; rw [h3] at q; cases q
  ·intro v q; rw [h3] at q; cases q
 | inst c fs =>
  rw [hq] at k
  refine hide fun G_ g_ => ?_
  obtain ⟨e', mA, h1, ⟨od, es, n', h2, h3, y_⟩, y_⟩ := k
  refine g_ ?_
  clear g_ G_
  rcases e with e | e
  ·refine ⟨_, by rw [e]; exact h1, ?_, ?_, ?_, ?_⟩
   ·rintro (⟨hc, y_⟩ | ⟨C, ws, hc, hs⟩)
    ·cases hc
    ·cases hs
   all_goals (intro v q; cases q)
  ·refine ⟨_, by rw [e]; exact h2, ?_, ?_, ?_, ?_⟩
   ·rintro (⟨y_, vs, n, hs⟩ | ⟨C, vs, hc, hs⟩)
    ·rw [h3] at hs; cases hs
    ·rw [h3] at hs; cases hs
   all_goals (intro v q; rw [h3] at q; cases q)
theorem HR.nofoot_of_solid {b : Addr} {o : Obj} (x : HR W h io m) (hb : h.get? b = some o) (hs : cA o) : ¬ cU io b := fun f => by
 refine hide fun G_ g_ => ?_
 obtain ⟨o', h1, h2, y_⟩ := x.foot f
 refine g_ ?_
 clear g_ G_
 rw [hb] at h1; cases h1; exact h2 hs
theorem HR.nofoot_of_cell {b : Addr} {o : Obj} {v : Option Value} (x : HR W h io m) (hb : h.get? b = some o) (hs : o.data = .cell v) : ¬ cU io b := fun f => by
 refine hide fun G_ g_ => ?_
 obtain ⟨o', h1, y_, h2, y_⟩ := x.foot f
 refine g_ ?_
 clear g_ G_
 rw [hb] at h1; cases h1; exact h2 _ hs
theorem HR.there {n : Nat} {p : Addr × Addr} (x : HR W h io m) (hn : io[n]? = some p) : ∃ o, h.get? p.1 = some o := by
 refine hide fun G_ g_ => ?_
 obtain ⟨o, ho, y_⟩ := x.foot ⟨p, List.mem_of_getElem? hn, .inl rfl⟩
 refine g_ ?_
 clear g_ G_
 exact ⟨o, ho⟩
theorem Step.of_keeps (x : HR W h io m) (hk : ∀ b o, h.get? b = some o -> h'.get? b = some o) : Step own fr h io m h' io m where
 alive := fun b o e => ⟨o, hk b o e⟩
 solid := fun b o e y_ => hk b o e
 keep := fun b o e y_ y_ y_ => hk b o e
 slots := fun b o e y_ y_ => ⟨o.slots, hk b o e⟩
 grow := ⟨[], by simp, fun y_ hp => nomatch hp⟩
 dicts := fun n p kvs e hi hm => ⟨kvs, e, hm, Nat.le_refl _, fun y_ => ⟨by
  obtain ⟨o, ho⟩ := x.there hi
  rw [ho]; exact hk _ _ ho, rfl⟩⟩
theorem HR.of_keeps (x : HR W h io m) (hk : ∀ b o, h.get? b = some o -> h'.get? b = some o) : HR W h' io m where
 keep := fun b o e => hk b o (x.keep b o e)
 len := x.len
 obj := fun n p o hi hm => (x.obj n p o hi hm).step_same (Step.of_keeps (own := []) (fr := []) x hk) (hk _) (hk _)
 fresh := x.fresh
 apart := x.apart
theorem HR.of_foot (x : HR W h io m) (st : Step own fr h io m h' io m) (hf : ∀ b o, cU io b -> h.get? b = some o -> h'.get? b = some o) (hb : W.base.StaysIn h') : HR W h' io m where
 keep := hb
 len := x.len
 obj := fun n p o hi hm => (x.obj n p o hi hm).step_same st (fun o e => hf _ o ⟨p, List.mem_of_getElem? hi, .inl rfl⟩ e) (fun o e => hf _ o ⟨p, List.mem_of_getElem? hi, .inr rfl⟩ e)
 fresh := x.fresh
 apart := x.apart
theorem eS {L : Addr} (x : HR W h io m) (hL : L ∈ own) (hk : ∀ b o, b ≠ L -> h.get? b = some o -> h'.get? b = some o) (hs : ∀ o, h.get? L = some o -> ¬ cA o /\ ∃ o', h'.get? L = some o') (hf : ¬ cU io L) :
  Step own fr h io m h' io m where
 alive := fun b o e => by
  by_cases q : b = L
  ·subst q; exact (hs o e).2
  ·exact ⟨o, hk b o q e⟩
 solid := fun b o e so => by
  by_cases q : b = L
  ·subst q; exact absurd so (hs o e).1
  ·exact hk b o q e
 keep := fun b o e y_ ho y_ => hk b o (fun q => ho (q ▸ hL)) e
 slots := fun b o e y_ ho => ⟨o.slots, hk b o (fun q => ho (q ▸ hL)) e⟩
 grow := ⟨[], by simp, fun y_ hp => nomatch hp⟩
 dicts := fun n p kvs e hi hm => ⟨kvs, e, hm, Nat.le_refl _, fun y_ => ⟨by
  obtain ⟨o, ho⟩ := x.there hi
  rw [ho]; exact hk _ _ (fun q => hf ⟨p, List.mem_of_getElem? hi, .inl q.symm⟩) ho, rfl⟩⟩
theorem HR.ofOwn {L : Addr} (x : HR W h io m) (hL : L ∈ own) (hk : ∀ b o, b ≠ L -> h.get? b = some o -> h'.get? b = some o) (hs : ∀ o, h.get? L = some o -> ¬ cA o /\ ∃ o', h'.get? L = some o') (hf : ¬ cU io L) (hb : W.base.get? L = none) :
  HR W h' io m := x.of_foot (fr := []) (eS x hL hk hs hf) (fun b o f e => hk b o (fun q => hf (q ▸ f)) e) fun b o e => hk b o (fun q => by rw [q, hb] at e; cases e) (x.keep b o e)
theorem dJ (x : HR W h io m) {a d : Addr} {o : MObj} (hk : ∀ b o, h.get? b = some o -> h'.get? b = some o) (ha : h.get? a = none) (hd : h.get? d = none) :
  Step own fr h io m h' (io ++ [(a, d)]) (m ++ [o]) where
 alive := fun b o e => ⟨o, hk b o e⟩
 solid := fun b o e y_ => hk b o e
 keep := fun b o e y_ y_ y_ => hk b o e
 slots := fun b o e y_ y_ => ⟨o.slots, hk b o e⟩
 grow := ⟨[(a, d)], rfl, fun p hp => by rw [List.mem_singleton.mp hp]; exact ⟨ha, hd⟩⟩
 dicts := fun n p kvs e hi hm => ⟨kvs, e, by rw [List.getElem?_append_left (List.getElem?_eq_some_iff.mp hm).1]; exact hm, Nat.le_refl _, fun y_ => ⟨by
  obtain ⟨o, ho⟩ := x.there hi
  rw [ho]; exact hk _ _ ho, rfl⟩⟩
theorem HR.alloc (x : HR W h io m) {a d : Addr} {o : MObj} (hk : ∀ b o, h.get? b = some o -> h'.get? b = some o) (ha : h.get? a = none) (hd : h.get? d = none)
  (k : OR W h' (io ++ [(a, d)]) a d o) : HR W h' (io ++ [(a, d)]) (m ++ [o]) where
 keep := fun b o e => hk b o (x.keep b o e)
 len := by simp [x.len]
 obj := fun n p o' hi hm => by
  by_cases q : n < io.length
  ·rw [List.getElem?_append_left q] at hi
   rw [List.getElem?_append_left (x.len ▸ q)] at hm
   exact (x.obj n p o' hi hm).step_same (dJ (own := []) (fr := []) (o := o) x hk ha hd) (hk _) (hk _)
  ·have q1 : n = io.length := by
    have := (List.getElem?_eq_some_iff.mp hi).1
    simp at this; omega
   subst q1
   rw [List.getElem?_append_right (Nat.le_refl _)] at hi
   rw [x.len, List.getElem?_append_right (Nat.le_refl _)] at hm
   simp at hi hm
   subst hi hm
   exact k
 fresh := fun b f => by
  rcases dS f with f | ⟨p, hp, e⟩
  ·exact x.fresh b f
  ·rw [List.mem_singleton.mp hp] at e
   cases q : W.base.get? b with
   | none => rfl
   | some o =>
    have := x.keep b o q
    rcases e with e | e <;> subst e
    ·rw [ha] at this; cases this
    ·rw [hd] at this; cases this
 apart := fun i j p q hij hi hj => by
  have lo : ∀ (n : Nat) (p : Addr × Addr), (io ++ [(a, d)])[n]? = some p -> (n < io.length /\ io[n]? = some p) \/ (n = io.length /\ p = (a, d)) := fun n p hn => by
   by_cases q : n < io.length
   ·rw [List.getElem?_append_left q] at hn; exact .inl ⟨q, hn⟩
   ·have q1 : n = io.length := by
     have := (List.getElem?_eq_some_iff.mp hn).1
     simp at this; omega
    subst q1
    rw [List.getElem?_append_right (Nat.le_refl _)] at hn
    simp at hn
    exact .inr ⟨rfl, hn.symm⟩
  have off : ∀ (n : Nat) (p : Addr × Addr), io[n]? = some p -> p.1 ≠ a /\ p.1 ≠ d /\ p.2 ≠ a /\ p.2 ≠ d := fun n p hn => by
   refine hide fun G_ g_ => ?_
   obtain ⟨o1, h1, y_⟩ := x.foot ⟨p, List.mem_of_getElem? hn, .inl rfl⟩
   obtain ⟨o2, h2, y_⟩ := x.foot ⟨p, List.mem_of_getElem? hn, .inr rfl⟩
   refine g_ ?_
   clear g_ G_
   refine ⟨fun e => ?_, fun e => ?_, fun e => ?_, fun e => ?_⟩
   ·rw [e, ha] at h1; cases h1
   ·rw [e, hd] at h1; cases h1
   ·rw [e, ha] at h2; cases h2
   ·rw [e, hd] at h2; cases h2
  rcases lo i p hi with ⟨_, hi⟩ | ⟨ei, rfl⟩ <;> rcases lo j q hj with ⟨_, hj⟩ | ⟨ej, rfl⟩
  ·exact x.apart i j p q hij hi hj
  ·refine hide fun G_ g_ => ?_
   obtain ⟨h1, h2, h3, h4⟩ := off i p hi
   refine g_ ?_
   clear g_ G_
   exact ⟨h1, h2, h4⟩
  ·refine hide fun G_ g_ => ?_
   obtain ⟨h1, h2, h3, h4⟩ := off j q hj
   refine g_ ?_
   clear g_ G_
   exact ⟨Ne.symm h1, Ne.symm h3, Ne.symm h4⟩
  ·exact absurd (ei.trans ej.symm) hij
theorem aE4 (x : HR W h io m) {n : Nat} {p : Addr × Addr} {o o1 : MObj} (hi : io[n]? = some p) (hm : m[n]? = some o) (hk : ∀ b o, b ≠ p.1 -> b ≠ p.2 -> h.get? b = some o -> h'.get? b = some o)
  (h1 : ∃ o', h'.get? p.1 = some o') (h2 : ∃ o', h'.get? p.2 = some o') (hd : ∀ kvs e, o = .dict kvs e -> ∃ kvs' e', o1 = .dict kvs' e' /\ e < e') : Step own fr h io m h' io (m.set n o1) where
 alive := fun b o e => by
  by_cases q : b = p.1
  ·subst q; exact h1
  ·by_cases q2 : b = p.2
   ·subst q2; exact h2
   ·exact ⟨o, hk b o q q2 e⟩
 solid := fun b o e s => hk b o (fun q => x.nofoot_of_solid e s ⟨p, List.mem_of_getElem? hi, .inl q⟩) (fun q => x.nofoot_of_solid e s ⟨p, List.mem_of_getElem? hi, .inr q⟩) e
 keep := fun b o e f y_ y_ => hk b o (fun q => f ⟨p, List.mem_of_getElem? hi, .inl q⟩) (fun q => f ⟨p, List.mem_of_getElem? hi, .inr q⟩) e
 slots := fun b o e f y_ => ⟨o.slots, hk b o (fun q => f ⟨p, List.mem_of_getElem? hi, .inl q⟩) (fun q => f ⟨p, List.mem_of_getElem? hi, .inr q⟩) e⟩
 grow := ⟨[], by simp, fun y_ hp => nomatch hp⟩
 dicts := fun k q kvs e hq hmk => by
  by_cases z : k = n
  ·subst z
   rw [hm] at hmk; cases hmk
   refine hide fun G_ g_ => ?_
   obtain ⟨kvs', e', rfl, hlt⟩ := hd kvs e rfl
   refine g_ ?_
   clear g_ G_
   refine ⟨kvs', e', by simp [(List.getElem?_eq_some_iff.mp hm).1], by omega, fun w => by omega⟩
  ·refine ⟨kvs, e, by rw [List.getElem?_set_ne (Ne.symm z)]; exact hmk, Nat.le_refl _, fun y_ => ⟨?_, rfl⟩⟩
   obtain ⟨o, ho⟩ := x.there hq
   refine hide fun G_ g_ => ?_
   obtain ⟨a1, a2, a3⟩ := x.apart k n q p z hq hi
   refine g_ ?_
   clear g_ G_
   rw [ho]; exact hk _ _ a1 a2 ho
theorem HR.set (x : HR W h io m) {n : Nat} {p : Addr × Addr} {o o1 : MObj} (hi : io[n]? = some p) (hm : m[n]? = some o) (hk : ∀ b o, b ≠ p.1 -> b ≠ p.2 -> h.get? b = some o -> h'.get? b = some o)
  (hd : ∀ kvs e, o = .dict kvs e -> ∃ kvs' e', o1 = .dict kvs' e' /\ e < e') (h1 : ∃ o', h'.get? p.1 = some o') (h2 : ∃ o', h'.get? p.2 = some o') (k : OR W h' io p.1 p.2 o1) : HR W h' io (m.set n o1) where
 keep := fun b o e => hk b o (fun q => by rw [x.fresh b ⟨p, List.mem_of_getElem? hi, .inl q⟩] at e; cases e) (fun q => by rw [x.fresh b ⟨p, List.mem_of_getElem? hi, .inr q⟩] at e; cases e) (x.keep b o e)
 len := by simp [x.len]
 obj := fun j q o' hj hmj => by
  by_cases z : j = n
  ·subst z
   rw [hi] at hj; cases hj
   rw [List.getElem?_set_self (List.getElem?_eq_some_iff.mp hm).1] at hmj; cases hmj
   exact k
  ·rw [List.getElem?_set_ne (Ne.symm z)] at hmj
   refine hide fun G_ g_ => ?_
   obtain ⟨a1, a2, a3⟩ := x.apart j n q p z hj hi
   obtain ⟨b1, b2, b3⟩ := x.apart n j p q (Ne.symm z) hi hj
   refine g_ ?_
   clear g_ G_
   exact (x.obj j q o' hj hmj).step_same (aE4 (own := []) (fr := []) x hi hm hk h1 h2 hd) (fun o e => hk _ o a1 a2 e) (fun o e => hk _ o (Ne.symm b2) a3 e)
 fresh := x.fresh
 apart := x.apart
end
end Mini
namespace Mini
open PySem PySem.W PyProof.Rows
section
variable {n : Nat} {K : Nat -> Int} {s : Shared} {cmp : Nat -> Nat -> (Bool -> Shared -> Prop) -> Shared -> Prop} {p : Array Nat}
structure Ask (n : Nat) (K : Nat -> Int) (s : Shared) (cmp : Nat -> Nat -> (Bool -> Shared -> Prop) -> Shared -> Prop) : Prop where
 ask : ∀ (i j : Nat) (C : Bool -> Shared -> Prop), i < n -> j < n -> i ≠ j -> C (decide (K i < K j)) s -> cmp i j C s
 inj : ∀ i j, i < n -> j < n -> K i = K j -> i = j
noncomputable abbrev Pe (n : Nat) (p : Array Nat) : Prop := p.Perm (List.range n).toArray
noncomputable abbrev kk (K : Nat -> Int) (p : Array Nat) (i : Nat) : Int := K (p.getD i 0)
theorem Pe.size (h : Pe n p) : p.size = n := by simpa using h.size_eq
theorem aH5 {i : Nat} (h : i < p.size) : p.getD i 0 = p[i] := by simp [Array.getD, h]
theorem Pe.lt (h : Pe n p) {i : Nat} (hi : i < n) : p.getD i 0 < n := by
 have hs : i < p.size := by rw [h.size]; exact hi
 rw [aH5 hs]
 have : p[i] ∈ p := Array.getElem_mem hs
 have := (Array.Perm.mem_iff h).mp this
 simpa using this
theorem Pe.inj (h : Pe n p) {i j : Nat} (hi : i < n) (hj : j < n) (e : p.getD i 0 = p.getD j 0) : i = j := by
 have hs : i < p.size := by rw [h.size]; exact hi
 have ht : j < p.size := by rw [h.size]; exact hj
 rw [aH5 hs, aH5 ht] at e
 have nd : p.toList.Nodup := (List.Perm.nodup_iff (by simpa using h.toList)).mpr List.nodup_range
 exact (List.getElem_inj (h₀ := by simpa using hs) (h₁ := by simpa using ht) nd).mp (by simpa using e)
theorem Ask.go {α : Type} (X : Ask n K s cmp) (P : Pe n p) {i j : Nat} (hi : i < n) (hj : j < n) (hn : i ≠ j) {k : Bool -> KasT α} {G : α -> Shared -> Prop}
  (h1 : kk K p i < kk K p j -> (k true).kasWp cmp G s) (h2 : kk K p j < kk K p i -> (k false).kasWp cmp G s) : (KasT.ask (p.getD i 0) (p.getD j 0) k).kasWp cmp G s := by
 refine X.ask _ _ _ (P.lt hi) (P.lt hj) (fun e => hn (P.inj hi hj e)) ?_
 by_cases z : kk K p i < kk K p j
 ·rw [decide_eq_true z]; exact h1 z
 ·rw [decide_eq_false z]
  refine h2 ?_
  have : kk K p i ≠ kk K p j := fun e => hn (P.inj hi hj (X.inj _ _ (P.lt hi) (P.lt hj) e))
  exact Int.lt_iff_le_and_ne.mpr ⟨Int.not_lt.mp z, this.symm⟩
noncomputable def Mo (f : Nat -> Int) (m : Nat) : Prop := ∀ i j, i < j -> j < m -> f i < f j
noncomputable def Up (K : Nat -> Int) (p : Array Nat) (m : Nat) : Prop := Mo (kk K p) m
noncomputable def Dn (K : Nat -> Int) (p : Array Nat) (m : Nat) : Prop := Mo (fun i => - kk K p i) m
theorem Mo.next {f : Nat -> Int} {m : Nat} (h : Mo f m) (h1 : 0 < m -> f (m - 1) < f m) : Mo f (m + 1) := fun i j hij hj => by
 rcases Nat.lt_or_ge j m with q | q
 ·exact h i j hij q
 ·have e : j = m := Nat.le_antisymm (Nat.le_of_lt_succ hj) q
  subst e
  have hp : 0 < j := Nat.lt_of_le_of_lt (Nat.zero_le _) hij
  rcases Nat.lt_or_eq_of_le (Nat.le_sub_one_of_lt hij) with q | q
  ·exact Int.lt_trans (h i (j - 1) q (Nat.sub_lt hp Nat.one_pos)) (h1 hp)
  ·rw [q]; exact h1 hp
theorem Mo.one (f : Nat -> Int) : Mo f 1 := fun i j h1 h2 => absurd (Nat.lt_of_le_of_lt (Nat.zero_le _) h1) (Nat.not_lt.mpr (Nat.le_of_lt_succ h2))
theorem at1 {a f n : Nat} (h : a + (f + 1) <= n) : a < n := Nat.lt_of_lt_of_le (Nat.lt_add_of_pos_right (Nat.succ_pos f)) h
theorem at2 {a n : Nat} (h : a < n) : a - 1 < n := Nat.lt_of_le_of_lt (Nat.sub_le a 1) h
theorem at3 {a : Nat} (h : 1 <= a) : a ≠ a - 1 := Nat.ne_of_gt (Nat.sub_lt h Nat.one_pos)
theorem at4 {a f n : Nat} (h : a + (f + 1) <= n) : a + 1 + f <= n := Nat.le_trans (Nat.le_of_eq (Nat.succ_add_eq_add_succ a f)) h
theorem cE5 (X : Ask n K s cmp) (P : Pe n p) {G : Nat -> Shared -> Prop} (hG : ∀ m, 1 <= m -> m <= n -> Up K p m -> G m s) : ∀ f a, 1 <= a -> a + f <= n -> Up K p a -> (kas_asc p f a).kasWp cmp G s
 | 0, a, h1, h2, u => hG a h1 h2 u
 | f + 1, a, h1, h2, u => X.go P (at1 h2) (at2 (at1 h2)) (at3 h1) (fun y_ => hG a h1 (Nat.le_of_lt (at1 h2)) u) fun z => cE5 X P hG f (a + 1) (Nat.le_add_left 1 a) (at4 h2) (u.next fun y_ => z)
theorem bP7 (X : Ask n K s cmp) (P : Pe n p) {G : Array Nat × Nat × Nat -> Shared -> Prop} (hG : ∀ m, 1 <= m -> m <= n -> Dn K p m -> G (p, m, 0) s) : ∀ f a, 1 <= a -> a + f <= n -> Dn K p a -> (kas_desc f p a 0).kasWp cmp G s
 | 0, a, h1, h2, u => hG a h1 h2 u
 | f + 1, a, h1, h2, u => X.go P (at1 h2) (at2 (at1 h2)) (at3 h1) (fun z => bP7 X P hG f (a + 1) (Nat.le_add_left 1 a) (at4 h2) (u.next fun y_ => Int.neg_lt_neg z)) fun z =>
   X.go P (at2 (at1 h2)) (at1 h2) (Ne.symm (at3 h1)) (fun y_ => hG a h1 (Nat.le_of_lt (at1 h2)) u) fun z' => absurd z (Int.lt_asymm z')
theorem cB7 (P : Pe n p) (i j : Nat) : Pe n (kas_rev p i j) := (mirror_perm _ _ _ _).trans P
theorem cB8 (P : Pe n p) {m : Nat} (hm : m <= n) {i : Nat} (z : i < m) : kk K (kas_rev p 0 m) i = kk K p (m - 1 - i) := by
 have e := getElem?_mirror_all (xs := p) (i := 0) (j := m) (by rw [P.size]; exact hm) i
 unfold kk kas_rev
 rw [Array.getD_eq_getD_getElem?, e, if_pos ⟨Nat.zero_le _, z⟩, Array.getD_eq_getD_getElem?, Nat.zero_add]
theorem cT0 (P : Pe n p) {m : Nat} (hm : m <= n) (d : Dn K p m) : Up K (kas_rev p 0 m) m := fun i j hij hj => by
 have h0 : 0 < m := Nat.lt_of_le_of_lt (Nat.zero_le _) hj
 have hj' : j <= m - 1 := Nat.le_sub_one_of_lt hj
 rw [cB8 P hm (Nat.lt_trans hij hj), cB8 P hm hj]
 exact Int.lt_of_neg_lt_neg (d _ _ (Nat.sub_lt_sub_left (Nat.lt_of_lt_of_le hij hj') hij) (Nat.lt_of_le_of_lt (Nat.sub_le _ _) (Nat.sub_lt h0 Nat.one_pos)))
theorem bY8 (X : Ask n K s cmp) (P : Pe n p) (hn : 1 <= n) {G : Nat × Array Nat -> Shared -> Prop} (hG : ∀ m p', 1 <= m -> m <= n -> Pe n p' -> Up K p' m -> G (m, p') s) : (kas_count n p).kasWp cmp G s := by
 have tail : ∀ m, 1 <= m -> m <= n -> Dn K p m -> (kas_tail3 m n p).kasWp cmp G s := fun m h1 h2 d => by
  unfold kas_tail3
  rw [KasT.kasWp_bind]
  exact cE5 X (cB7 P 0 m) (fun m' a1 a2 u => hG m' _ a1 a2 (cB7 P 0 m) u) _ m h1 (Nat.le_of_eq (Nat.add_sub_cancel' h2)) (cT0 P h2 d)
 unfold kas_count
 rw [KasT.kasWp_bind]
 have key : ∀ f a, 1 <= a -> a + f = n -> Up K p a -> (kas_asc p f a).kasWp cmp (fun m s' => (if (m == n) = true then KasT.ret (m, p) else if m > 1 then KasT.ask (p.getD 0 0) (p.getD (m - 1) 0) fun c => if c = true then KasT.ret (m, p) else kas_descPart m n (kas_rev p 0 m) else kas_descPart m n p).kasWp cmp G s') s := by
  intro f
  induction f with
  | zero =>
   intro a h1 h2 u
   have e : a = n := h2
   subst e
   show (if (a == a) = true then _ else _ : KasT _).kasWp cmp G s
   rw [if_pos (beq_self_eq_true a)]
   exact hG a p h1 (Nat.le_refl _) P u
  | succ f ih =>
   intro a h1 h2 u
   have h2' := Nat.le_of_eq h2
   refine X.go P (at1 h2') (at2 (at1 h2')) (at3 h1) (fun z => ?_) fun z => ih (a + 1) (Nat.le_add_left 1 a) ((Nat.succ_add_eq_add_succ a f).trans h2) (u.next fun y_ => z)
   show (if (a == n) = true then _ else _ : KasT _).kasWp cmp G s
   rw [if_neg (fun q => Nat.ne_of_lt (at1 h2') (beq_iff_eq.mp q))]
   by_cases w : a > 1
   ·rw [if_pos w]
    have w0 : 0 < a - 1 := Nat.sub_pos_of_lt w
    refine X.go P (Nat.lt_of_lt_of_le Nat.zero_lt_one hn) (at2 (at1 h2')) (Nat.ne_of_lt w0) (fun y_ => hG a p h1 (Nat.le_of_lt (at1 h2')) P u) fun z' => ?_
    exact absurd (u 0 (a - 1) w0 (Nat.sub_lt h1 Nat.one_pos)) (Int.lt_asymm z')
   ·rw [if_neg w]
    have e : a = 1 := Nat.le_antisymm (Nat.not_lt.mp w) h1
    subst e
    unfold kas_descPart
    rw [KasT.kasWp_bind]
    have d2 : Dn K p (1 + 1) := Mo.next (Mo.one _) fun y_ => Int.neg_lt_neg z
    have hn2 : 1 + 1 <= n := at1 h2'
    refine bP7 X P (fun m a1 a2 d => tail m a1 a2 d) _ (1 + 1) (by decide) (Nat.le_of_eq (Nat.add_sub_cancel' hn2)) d2
 exact key (n - 1) 1 (Nat.le_refl _) (Nat.add_sub_cancel' hn) (Mo.one _)
theorem aO3 (X : Ask n K s cmp) (P : Pe n p) {k : Nat} (hk : k < n) (u : Up K p k) {G : Nat -> Shared -> Prop} (hG : ∀ l, l <= k -> (∀ i, i < l -> kk K p i < kk K p k) -> (∀ i, l <= i -> i < k -> kk K p k < kk K p i) -> G l s) :
  ∀ f l r, l <= r -> r <= k -> r - l <= f -> (∀ i, i < l -> kk K p i < kk K p k) -> (∀ i, r <= i -> i < k -> kk K p k < kk K p i) -> (kas_place p k f l r).kasWp cmp G s
 | 0, l, r, h1, h2, h3, a, b => hG l (Nat.le_trans h1 h2) a fun i hi hik => b i (Nat.le_trans (Nat.le_of_sub_eq_zero (Nat.le_zero.mp h3)) hi) hik
 | f + 1, l, r, h1, h2, h3, a, b => by
  unfold kas_place
  by_cases z : l ≥ r
  ·rw [if_pos z]
   exact hG l (Nat.le_trans h1 h2) a fun i hi hik => b i (Nat.le_trans z hi) hik
  ·rw [if_neg z]
   have m1 : (l + r) / 2 < r := by omega
   have m2 : l <= (l + r) / 2 := by omega
   generalize (l + r) / 2 = c at m1 m2 ⊢
   have ck : c < k := Nat.lt_of_lt_of_le m1 h2
   refine X.go P hk (Nat.lt_trans ck hk) (Nat.ne_of_gt ck) (fun y => ?_) fun y => ?_
   ·refine aO3 X P hk u hG f l c m2 (Nat.le_of_lt ck) (Nat.le_of_lt_succ (Nat.lt_of_lt_of_le (Nat.sub_lt_sub_right m2 m1) h3)) a fun i hi hik => ?_
    rcases Nat.lt_or_eq_of_le hi with q | q
    ·exact Int.lt_trans y (u c i q hik)
    ·rw [<- q]; exact y
   ·refine aO3 X P hk u hG f (c + 1) r m1 h2 (Nat.le_of_lt_succ (Nat.lt_of_lt_of_le (Nat.sub_lt_sub_left (Nat.lt_of_le_of_lt m2 m1) (Nat.lt_succ_of_le m2)) h3)) (fun i hi => ?_) b
    rcases Nat.lt_or_eq_of_le (Nat.le_of_lt_succ hi) with q | q
    ·exact Int.lt_trans (u i c q ck) y
    ·rw [q]; exact y
theorem cD7 (P : Pe n p) {k l : Nat} (hk : k < n) (hl : l <= k) {i : Nat} (hi : i <= k) : kk K (bubble p k (k - l)) i = if i < l then kk K p i else if i = l then kk K p k else kk K p (i - 1) := by
 have e := getElem?_bubble (xs := p) (src := k) (by rw [P.size]; exact hk) (k - l) (Nat.sub_le _ _) i
 rw [Nat.sub_sub_self hl] at e
 unfold kk
 rw [Array.getD_eq_getD_getElem?, e]
 by_cases z : i = l
 ·rw [if_pos z, if_neg (fun q => Nat.ne_of_lt q z), if_pos z, Array.getD_eq_getD_getElem?]
 ·rw [if_neg z]
  by_cases y : i < l
  ·rw [if_pos y, if_neg (fun q => Nat.lt_asymm q.1 y), Array.getD_eq_getD_getElem?]
  ·rw [if_neg y, if_neg z, if_pos ⟨Nat.lt_of_le_of_ne (Nat.not_lt.mp y) (Ne.symm z), hi⟩, Array.getD_eq_getD_getElem?]
theorem cD9 (X : Ask n K s cmp) {G : Array Nat -> Shared -> Prop} (hG : ∀ p', Pe n p' -> Up K p' n -> G p' s) : ∀ f p k, Pe n p -> k + f = n -> Up K p k -> (kas_bin f p k).kasWp cmp G s
 | 0, p, k, P, h, u => hG p P ((show k = n from h) ▸ u)
 | f + 1, p, k, P, h, u => by
  have hk : k < n := at1 (Nat.le_of_eq h)
  unfold kas_bin
  rw [KasT.kasWp_bind]
  refine aO3 X P hk u (fun l hl a b => ?_) k 0 k (Nat.zero_le _) (Nat.le_refl _) (Nat.sub_le _ _) (fun i hi => absurd hi (Nat.not_lt_zero _)) fun i h1 h2 => absurd h2 (Nat.not_lt.mpr h1)
  refine cD9 X hG f _ (k + 1) ((bubble_perm _ _ _).trans P) ((Nat.succ_add_eq_add_succ k f).trans h) fun i j hij hj => ?_
  have hj : j <= k := Nat.le_of_lt_succ hj
  have hj0 : 0 < j := Nat.lt_of_le_of_lt (Nat.zero_le _) hij
  have jk : j - 1 < k := Nat.lt_of_lt_of_le (Nat.sub_lt hj0 Nat.one_pos) hj
  rw [cD7 P hk hl (Nat.le_trans (Nat.le_of_lt hij) hj), cD7 P hk hl hj]
  by_cases z1 : i < l
  ·rw [if_pos z1]
   by_cases z2 : j < l
   ·rw [if_pos z2]; exact u i j hij (Nat.lt_of_lt_of_le z2 hl)
   ·rw [if_neg z2]
    by_cases y2 : j = l
    ·rw [if_pos y2]; exact a i z1
    ·rw [if_neg y2]
     exact u i (j - 1) (Nat.lt_of_lt_of_le z1 (Nat.le_sub_one_of_lt (Nat.lt_of_le_of_ne (Nat.not_lt.mp z2) (Ne.symm y2)))) jk
  ·have lj : l < j := Nat.lt_of_le_of_lt (Nat.not_lt.mp z1) hij
   rw [if_neg z1, if_neg (Nat.lt_asymm lj), if_neg (Nat.ne_of_gt lj)]
   by_cases y1 : i = l
   ·rw [if_pos y1]; exact b _ (Nat.le_sub_one_of_lt lj) jk
   ·rw [if_neg y1]
    have i0 : 1 <= i := Nat.lt_of_le_of_lt (Nat.zero_le _) (Nat.lt_of_le_of_ne (Nat.not_lt.mp z1) (Ne.symm y1))
    exact u _ _ (Nat.sub_lt_sub_right i0 hij) jk
theorem cH4 (X : Ask n K s cmp) (hn : 1 <= n) {G : Array Nat -> Shared -> Prop} (hG : ∀ p', Pe n p' -> Up K p' n -> G p' s) : (kas_sort n).kasWp cmp G s := by
 unfold kas_sort
 rw [KasT.kasWp_bind]
 refine bY8 X (Array.Perm.refl _) hn fun m p' h1 h2 P u => ?_
 show (if m < n then _ else _ : KasT _).kasWp cmp G s
 by_cases z : m < n
 ·rw [if_pos z, Nat.max_eq_left h1]
  exact cD9 X hG _ p' m P (Nat.add_sub_cancel' (Nat.le_of_lt z)) u
 ·rw [if_neg z]
  have e : m = n := Nat.le_antisymm h2 (Nat.not_lt.mp z)
  exact hG p' P (e ▸ u)
end
end Mini
namespace Mini
open PySem PySem.W PyProof.Rows
section
variable {prog : Program} {w : World} {A : Around} {E : Value -> Shared -> Prop} {s : Shared} {h h' : Heap} {vs : List Value} {K : Nat -> Int}
noncomputable def cE9 (h : Heap) (k : Int) (v : Value) : Prop := ∃ b xs c t r, v = .ref b /\ h.get? b = some (cG9 xs c) /\ xs.toList = .int k t :: r
noncomputable def aC5 (h : Heap) (vs : List Value) (K : Nat -> Int) : Prop := ∀ i, i < vs.length -> cE9 h (K i) (vs.getD i .none)
theorem bI4 : ∀ {vs : List Value}, (∀ v ∈ vs, ∃ k, cE9 h k v) -> ∃ fs, KatTups h vs fs /\ fs.length = vs.length /\ ∀ f ∈ fs, ∃ k t, f = .int k t
 | [], _ => ⟨[], .nil, rfl, fun y_ q => nomatch q⟩
 | v :: vs, k => by
  obtain ⟨fs, h1, h2, h3⟩ := bI4 (vs := vs) fun v q => k v (.tail _ q)
  obtain ⟨i, b, xs, c, t, r, rfl, e1, e2⟩ := k v (.head _)
  refine ⟨.int i t :: fs, .cons e1 rfl rfl ?_ h1, congrArg Nat.succ h2, fun f q => ?_⟩
  ·rw [<- Array.getElem?_toList, e2]; rfl
  ·rcases List.mem_cons.mp q with rfl | q
   ·exact ⟨i, t, rfl⟩
   ·exact h3 f q
theorem cZ9 (ht : aC5 s.heap vs K) (inj : ∀ i j, i < vs.length -> j < vs.length -> K i = K j -> i = j) : Ask vs.length K s (kas_ask prog w A (tuples' true) vs) where
 inj := inj
 ask := fun i j C hi hj hn hc => by
  obtain ⟨b, xs, c, t, r, e, e1, e2⟩ := ht i hi
  obtain ⟨b', xs', c', t', r', e', e1', e2'⟩ := ht j hj
  unfold kas_ask
  rw [e, e']
  refine kat_lt e1 rfl e1' rfl ?_
  rw [e2, e2']
  refine kat_cons (wpAny_eqBool_int ?_)
  have z : (K i == K j) = false := beq_eq_false_iff_ne.mpr fun q => hn (inj i j hi hj q)
  rw [z]
  exact kat_no (oneLt_int hc)
theorem bV7 {v : Value} (hv : v ∈ vs) : ∃ i, i < vs.length /\ vs.getD i .none = v := by
 obtain ⟨i, hi, e⟩ := List.getElem_of_mem hv
 exact ⟨i, hi, by rw [List.getD_eq_getElem?_getD, List.getElem?_eq_getElem hi]; exact e⟩
theorem aH1 {a : Addr} {n : Nat} {P : PySem.Fin -> Shared -> Prop} (ho : s.heap.get? a = some (seqObj "list" vs.toArray n)) (ht : aC5 s.heap vs K) (inj : ∀ i j, i < vs.length -> j < vs.length -> K i = K j -> i = j) (h64 : vs.length < 64)
  (h : ∀ p : Array Nat, Pe vs.length p -> Up K p vs.length -> P (.done (.ret .none)) { s with heap := sortedHeap s.heap a vs (List.toArray (p.toList.map fun i => vs.getD i .none)) }) :
  wpAny (model prog w) A (Builtin.«list.sort» ⟨[.ref a], []⟩) P E s := by
 rw [list_sort_plain]
 have ha : a < s.heap.objs.size := Heap.lt_size ho
 refine wpAny_bind (listItems_at ho rfl ?_)
 refine wpAny_bind (listUpdate_at ho rfl ?_)
 obtain ⟨e1, ho1⟩ : ∃ e1, (s.heap.update a (Obj.mapSeq fun y_ => #[])).get? a = some (seqObj "list" #[] e1) := ⟨_, get?_update_seq ho (fun y_ => #[])⟩
 refine wpAny_bind (seqEpoch_at ho1 rfl ?_)
 refine wpAny_bind (wpAny_newTuple ?_)
 refine wpAny_bind (wpAny_newList ?_)
 refine wpAny_holding ?_
 have keep : ∀ b o, b ≠ a -> s.heap.get? b = some o -> (((s.heap.update a (Obj.mapSeq fun y_ => #[])).push (seqObj "tuple" vs.toArray 0)).push (seqObj "list" #[] 0)).get? b = some o := fun b o hb e =>
  Heap.get?_push_of_some _ (Heap.get?_push_of_some _ ((Heap.get?_update_ne _ _ _ _ hb).trans e))
 have ho6 : (((s.heap.update a (Obj.mapSeq fun y_ => #[])).push (seqObj "tuple" vs.toArray 0)).push (seqObj "list" #[] 0)).get? a = some (seqObj "list" #[] e1) := Heap.get?_push_of_some _ (Heap.get?_push_of_some _ ho1)
 show wpAny (model prog w) A _ P E { s with heap := ((s.heap.update a (Obj.mapSeq fun y_ => #[])).push (seqObj "tuple" vs.toArray 0)).push (seqObj "list" #[] 0) }
 have ht6 : aC5 (((s.heap.update a (Obj.mapSeq fun y_ => #[])).push (seqObj "tuple" vs.toArray 0)).push (seqObj "list" #[] 0)) vs K := fun i hi => by
  obtain ⟨b, xs, c, t, r, e, e1, e2⟩ := ht i hi
  refine ⟨b, xs, c, t, r, e, keep b _ (fun q => ?_) e1, e2⟩
  rw [q, ho] at e1
  exact absurd (Value.type.inj (congrArg Obj.cls (Option.some.inj e1))) (by decide)
 have h' : ∀ p : Array Nat, Pe vs.length p -> Up K p vs.length -> P (.done (.ret .none)) { s with heap := (((s.heap.update a (Obj.mapSeq fun y_ => #[])).push (seqObj "tuple" vs.toArray 0)).push (seqObj "list" #[] 0)).update a (Obj.mapSeq fun y_ => List.toArray (p.toList.map fun i => vs.getD i .none)) } := h
 clear h ht
 generalize ((s.heap.update a (Obj.mapSeq fun y_ => #[])).push (seqObj "tuple" vs.toArray 0)).push (seqObj "list" #[] 0) = h6 at ho6 ht6 h' ⊢
 clear ho1 ho ha
 dsimp only
 have hsz : vs.toArray.size = vs.length := by simp
 by_cases h2 : vs.toArray.size < 2
 ·rw [if_pos h2, if_pos h2]
  refine wpAny_bind (wpAny_pure ?_)
  rw [StateT.run_pure]
  refine wpAny_bind (wpAny_pure ?_)
  dsimp only
  refine wpAny_bind (seqEpoch_at ho6 rfl ?_)
  refine wpAny_bind (listUpdate_at ho6 rfl ?_ (hsz2 := by rw [Array.size_map]; show (pairsOf vs).size <= _; rw [pairsOf_size, sizeLine_eq]; omega))
  simp only [bne_self_eq_false, Bool.false_eq_true, if_false]
  have := h' (List.range vs.length).toArray (Array.Perm.refl _) (fun i j hij hj => by omega)
  have e : (arrOf (SortSt.mk' general' (vs.toArray.zip vs.toArray) #[] 7 none)).map (·.2) = List.toArray ((List.range vs.length).toArray.toList.map fun i => vs.getD i .none) := by
   have e2 := kas_range (vs.toArray.zip vs.toArray)
   have hz : (vs.toArray.zip vs.toArray).size = vs.length := by simp
   rw [hz] at e2
   exact kat_snds (vs := vs) (ks := vs) rfl (p := (List.range vs.length).toArray) (st := SortSt.mk' general' (vs.toArray.zip vs.toArray) #[] 7 none) e2.symm
  rw [<- e] at this
  exact wpAny_pure this
 ·rw [if_neg h2, if_neg h2]
  have h2' : 2 <= vs.length := by omega
  obtain ⟨fs, t1, t2, t3⟩ := bI4 (vs := vs) (h := h6) fun v hv => by
   obtain ⟨i, hi, e⟩ := bV7 hv
   exact ⟨K i, e ▸ ht6 i hi⟩
  refine wpAny_bind (kat_kind (T := .type "int") t1 (by omega) (fun v hv => ?_) rfl ?_)
  ·obtain ⟨k, t, rfl⟩ := t3 v hv
   exact .now
  have hn : (Value.type "int" != Value.type "tuple") = true := rfl
  rw [hn]
  refine wpAny_bind (wpAny_mono (kat_run (Q := fun st' s' => ∃ p : Array Nat, s' = { s with heap := h6 } /\ arrOf st' = p.map (kas_item (vs.toArray.zip vs.toArray)) /\ failedOf st' = none /\ Pe vs.length p /\ Up K p vs.length)
   (G := fun p s' => s' = { s with heap := h6 } /\ Pe vs.length p /\ Up K p vs.length) rfl h2' h64 (fun p st' s' y_ a2 a3 a4 => ⟨p, a4.1, a2, a3, a4.2⟩)
   (cH4 (cZ9 (s := { s with heap := h6 }) ht6 inj) (by omega) fun p' P u => ⟨rfl, P, u⟩)) ?_ fun y_ y_ e => e)
  rintro ⟨⟨⟩, st'⟩ s' ⟨p, rfl, har, hf, P, u⟩
  dsimp only
  have hout := kat_snds (vs := vs) (ks := vs) rfl har
  have hps : p.toList.length = vs.length := by rw [Array.length_toList, P.size]
  refine wpAny_bind (seqEpoch_at ho6 rfl ?_)
  refine wpAny_bind (listUpdate_at ho6 rfl ?_ (hsz2 := by rw [hout, List.size_toArray, List.length_map, hps, sizeLine_eq]; omega))
  rw [hf]
  simp only [bne_self_eq_false, Bool.false_eq_true, if_false]
  have := h' p P u
  rw [<- hout] at this
  exact wpAny_pure this
theorem aQ8 {l : Addr} {Q : Value -> Shared -> Prop} (hl : s.heap.IsList l vs.toArray) (ht : aC5 s.heap vs K) (inj : ∀ i j, i < vs.length -> j < vs.length -> K i = K j -> i = j) (h64 : vs.length < 64)
  (h : ∀ p : Array Nat, Pe vs.length p -> Up K p vs.length -> Q (.ref (s.heap.objs.size + 1)) { s with heap := sortedAll s.heap vs (List.toArray (p.toList.map fun i => vs.getD i .none)) }) :
  wpAny (model prog w) A (call (.builtin "sorted") [.ref l]) Q E s := by
 refine Calls.call_function_entry kind_sorted plain_sorted entry_sorted (args_sorted1 _) ?_
 unfold Builtin.«sorted»
 refine wpAny_bind (m := checkCount "sorted" 1 1 _) (wpAny_pure ?_)
 refine wpAny_bind (collect_list hl ?_)
 refine wpAny_bind (wpAny_newList ?_)
 have hsz : ((s.heap.push (seqObj "list" #[] 0)).update s.heap.objs.size (Obj.mapSeq (· ++ vs.toArray))).objs.size = s.heap.objs.size + 1 := by
  rw [Heap.size_update, size_push']
 have hoL : (((s.heap.push (seqObj "list" #[] 0)).update s.heap.objs.size (Obj.mapSeq (· ++ vs.toArray))).push (seqObj "list" vs.toArray 0)).get? (s.heap.objs.size + 1) = some (seqObj "list" vs.toArray 0) := by
  rw [<- hsz]; exact Heap.get?_push_size _ rfl
 show wpAny _ _ _ _ _ { s with heap := ((s.heap.push (seqObj "list" #[] 0)).update s.heap.objs.size (Obj.mapSeq (· ++ vs.toArray))).push (seqObj "list" vs.toArray 0) }
 rw [hsz]
 have ht' : aC5 (((s.heap.push (seqObj "list" #[] 0)).update s.heap.objs.size (Obj.mapSeq (· ++ vs.toArray))).push (seqObj "list" vs.toArray 0)) vs K := fun i hi => by
  obtain ⟨b, xs, c, t, r, e, e1, e2⟩ := ht i hi
  have hlt := Heap.lt_size e1
  exact ⟨b, xs, c, t, r, e, Heap.get?_push_of_some _ ((Heap.get?_update_ne _ _ _ _ (Nat.ne_of_lt hlt)).trans (Heap.get?_push_of_some _ e1)), e2⟩
 refine wpAny_bind (wpAny_holding (wpAny_call_entry slot_list_sort ⟨_, hoL, rfl⟩ entry_list_sort (aH1 (s := { s with heap := ((s.heap.push (seqObj "list" #[] 0)).update s.heap.objs.size (Obj.mapSeq (· ++ vs.toArray))).push (seqObj "list" vs.toArray 0) }) hoL ht' inj h64 fun p a1 a2 => ⟨_, rfl, ?_⟩) (args_list_sort _)))
 exact wpAny_pure ⟨_, rfl, h p a1 a2⟩
end
end Mini
namespace Mini
open PySem PySem.Calls
section
variable {prog : Program} {w : World} {A : Around} {E : Value -> Shared -> Prop} {s : Shared}
theorem aW3 {l : Addr} {ws : Array Value} {c : Nat} {k : Int} {t : Tok} {v : Value} {Q : Unit -> Shared -> Prop} (h1 : s.heap.get? l = some (e7 ws c)) (h0 : 0 <= k) (hf : k < 2 ^ 63) (hn : k < ws.size)
  (hQ : Q () { s with heap := s.heap.update l (Obj.mapSeq (·.setIfInBounds k.toNat v)) }) : wpAny (model prog w) A (setItem (.ref l) (.int k t) v) Q E s := by
 have hT : s.TypeIs (.ref l) "list" := ⟨_, h1, rfl⟩
 unfold setItem
 refine wpAny_holding ?_
 refine wpAny_bind (wpAny_sequenceKey hT (by decide) ?_)
 refine wpAny_bind (wpAny_callSpecial?_slot (name := Str.ofString "__setitem__") hT slot_list_setitem (wpAny_call_entry slot_list_setitem hT entry_list_setitem ?_ (args_list_setitem _ _ _)))
 show wpAny _ _ (Builtin.List.listSubscript? (.int k t) >>= _) _ _ s
 refine wpAny_bind (wpAny_listSubscript_int (fitsIndex_of h0 hf) ?_)
 clear hf
 obtain ⟨j, rfl⟩ := Int.eq_ofNat_of_zero_le h0
 have hj : j < ws.size := by omega
 show wpAny _ _ ((seqItemAt l j >>= fun r => pure (r.map (j, ·))) >>= _) _ _ s
 refine wpAny_bind (wpAny_bind (wpAny_seqItemAt h1 rfl (wpAny_pure ?_)))
 rw [Array.getElem?_eq_getElem hj]
 show wpAny _ _ (setSeqItemAt l j v >>= _) _ _ s
 refine wpAny_bind (wpAny_setSeqItemAt h1 rfl ?_)
 exact wpAny_pure ⟨.none, rfl, wpAny_pure hQ⟩
theorem aW2 {l : Addr} {ws : Array Value} {c : Nat} {k : Int} {t : Tok} {v : Value} {Q : Unit -> Shared -> Prop} (h1 : s.heap.get? l = some (e7 ws c)) (h0 : k < 0) (hf : -(2 ^ 63) <= k) (hn : 0 <= k + ws.size)
  (hQ : Q () { s with heap := s.heap.update l (Obj.mapSeq (·.setIfInBounds (k + ws.size).toNat v)) }) : wpAny (model prog w) A (setItem (.ref l) (.int k t) v) Q E s := by
 have hT : s.TypeIs (.ref l) "list" := ⟨_, h1, rfl⟩
 unfold setItem
 refine wpAny_holding ?_
 refine wpAny_bind (wpAny_sequenceKey hT (by decide) ?_)
 refine wpAny_bind (wpAny_callSpecial?_slot (name := Str.ofString "__setitem__") hT slot_list_setitem (wpAny_call_entry slot_list_setitem hT entry_list_setitem ?_ (args_list_setitem _ _ _)))
 show wpAny _ _ (Builtin.List.listSubscript? (.int k t) >>= _) _ _ s
 refine wpAny_bind (wpAny_listSubscript_int (fitsIndex_neg h0 hf) ?_)
 clear hf
 have hidx := seqIndex_neg (n := ws.size) h0 (by omega)
 have hj : (k + ws.size).toNat < ws.size := by omega
 obtain ⟨j, rfl⟩ : ∃ j : Nat, k = Int.negSucc j := by
  cases k with
  | ofNat n => exact absurd h0 (Int.not_lt.mpr (Int.ofNat_nonneg n))
  | negSucc n => exact ⟨n, rfl⟩
 show wpAny _ _ ((Builtin.List.listItems (.ref l) >>= fun xs => pure ((seqIndex? (Int.negSucc j) xs.size).bind fun i => xs[i]?.map (i, ·))) >>= _) _ _ s
 refine wpAny_bind (wpAny_bind ?_)
 show wpAny _ _ (seqItems? (.ref l) >>= _) _ _ s
 refine wpAny_bind (wpAny_seqItems h1 rfl (wpAny_pure (wpAny_pure ?_)))
 rw [hidx]
 simp only [Option.bind_some, Array.getElem?_eq_getElem hj, Option.map_some]
 show wpAny _ _ (setSeqItemAt l _ v >>= _) _ _ s
 refine wpAny_bind (wpAny_setSeqItemAt h1 rfl ?_)
 exact wpAny_pure ⟨.none, rfl, wpAny_pure hQ⟩
end
end Mini
namespace Mini
open PySem
noncomputable def frs (fs : List Env) : List Addr := fs.filterMap (·.frame)
structure FR (W : Wd) (h : Heap) (io : Io) (env : Env) (vis : List (Option Str)) (r : Lo) : Prop where
 kind : env.scope.kind = .function
 glob : env.globals = mainGlobals
 blt : env.builtins = builtinsNs
 nofoot : ¬ cU io env.locals
 fresh : W.base.get? env.locals = none
 loc : ∃ mp, h.Ns env.locals mp /\ ∀ (i : Nat) (x : Str) (v : V), vis[i]? = some (some x) -> r[i]? = some (some v) -> env.kindOf x = some .local -> ∃ u, mp x = some u /\ VR W h io v u
 cel : ∀ (i : Nat) (x : Str) (v : V), vis[i]? = some (some x) -> r[i]? = some (some v) -> (env.kindOf x = some .cell \/ env.kindOf x = some .free) -> ∃ c u, env.cells.lookup x = some c /\ h.IsCell c (some u) /\ VR W h io v u
 cells : ∀ (x : Str) (c : Addr), env.cells.lookup x = some c -> (∃ o, h.IsCell c o) /\ W.base.get? c = none /\ c ≠ env.locals
 celex : ∀ (i : Nat) (x : Str), vis[i]? = some (some x) -> (env.kindOf x = some .cell \/ env.kindOf x = some .free) -> ∃ c, env.cells.lookup x = some c
 apart : ∀ (x y : Str) (c : Addr), env.cells.lookup x = some c -> env.cells.lookup y = some c -> x = y
 inj : ∀ (i j : Nat) (x : Str), vis[i]? = some (some x) -> vis[j]? = some (some x) -> i = j
 len : r.length = vis.length
noncomputable def FF (W : Wd) (h : Heap) (io : Io) (fs : List Env) : Prop :=
 ∀ env ∈ fs, env.scope.kind ≠ .module /\ ∃ L o es n, env.frame = some L /\ W.base.get? L = none /\ ¬ cU io L /\ h.get? L = some o /\ o.data = .dict es n
structure AR (A : Around) (fs : List Env) (n : Nat) : Prop where
 frames : A.frames = some fs
 depth : A.depth + 4 * n <= 900
 units : A.units + 40 * n + 400 <= 9000
noncomputable def Same (s s' : Shared) : Prop := s'.gens = s.gens /\ s'.os = s.os
theorem Same.refl (s : Shared) : Same s s := ⟨rfl, rfl⟩
theorem Same.trans {a b c : Shared} (x : Same a b) (y : Same b c) : Same a c := ⟨y.1.trans x.1, y.2.trans x.2⟩
inductive NP (W : Wd) (own fr : List Addr) (s : Shared) (io : Io) (m : MH) {α β : Type} (P : Heap -> Io -> α -> β -> Prop) (R : Res α) (u : β) (s' : Shared) : Prop
 | mk (v : α) (m' : MH) (io' : Io) (e : R = .ok v m') (st : Step own fr s.heap io m s'.heap io' m') (hr : HR W s'.heap io' m') (p : P s'.heap io' v u) (sm : Same s s')
noncomputable def Kp (W : Wd) (h0 : Heap) (io : Io) (fs : List Env) (g B : Heap) : Prop :=
 ∀ b o, g.get? b = some o -> (cU io b \/ cA o \/ W.base.get? b = some o \/ ((∃ o', h0.get? b = some o') /\ b ∉ frs fs)) -> B.get? b = some o
noncomputable def Fly (W : Wd) (fs : List Env) (h0 : Heap) (io : Io) (g : Heap) (a : Addr) (c : Nat) (h' : Heap) : Prop :=
 ∃ B, Kp W h0 io fs g B /\ ((∃ a0, Heap.FlyingW B fs a (.ref (W.ca c)) a0 h' /\ g.UpToSlots h') \/ (∃ a0 L env, fs.head? = some env /\ env.frame = some L /\ Heap.HeldW B fs a (.ref (W.ca c)) a0 L h' /\ g.UpToSlots h') \/ (∃ args, B.StaysIn g /\ g.FunFrames B fs /\ Heap.MadeExcOf g h' a (.ref (W.ca c)) args))
inductive XP (W : Wd) (own : List Addr) (fs : List Env) (s : Shared) (io : Io) (m : MH) {α : Type} (R : Res α) (e : Value) (s' : Shared) : Prop
 | mk (c : Nat) (m' : MH) (io' : Io) (a : Addr) (g : Heap) (er : R = .exc c m') (ee : e = .ref a) (st : Step own (frs fs) s.heap io m g io' m') (hr : HR W g io' m') (fl : Fly W fs s.heap io' g a c s'.heap) (sm : Same s s')
noncomputable abbrev VP (W : Wd) : Heap -> Io -> V -> Value -> Prop := fun h io v u => VR W h io v u
noncomputable abbrev VsP (W : Wd) : Heap -> Io -> List V -> List Value -> Prop := fun h io v u => VRs W h io v u
noncomputable abbrev BP : Heap -> Io -> Bool -> Bool -> Prop := fun y_ y_ b c => b = c
section
variable {W : Wd} {h h' : Heap} {io io' : Io} {m m' : MH} {own fr : List Addr} {env : Env} {vis : List (Option Str)} {r : Lo} {fs : List Env} {s s' : Shared}
theorem bV0 {h h' : Heap} {L : Addr} {mp : Str -> Option Value} (x : h.Ns L mp) (k : ∀ o, h.get? L = some o -> ∃ sl, h'.get? L = some { o with slots := sl }) : h'.Ns L mp := by
 refine hide fun G_ g_ => ?_
 obtain ⟨o, es, ep, ho, hd, r⟩ := x
 refine g_ ?_
 clear g_ G_
 obtain ⟨sl, e⟩ := k o ho
 exact ⟨_, es, ep, e, hd, r⟩
theorem aM4 {h h' : Heap} {c : Addr} {v : Option Value} (x : h.IsCell c v) (k : ∀ o, h.get? c = some o -> ∃ sl, h'.get? c = some { o with slots := sl }) : h'.IsCell c v := by
 refine hide fun G_ g_ => ?_
 obtain ⟨o, ho, hd⟩ := x
 refine g_ ?_
 clear g_ G_
 obtain ⟨sl, e⟩ := k o ho
 exact ⟨_, e, hd⟩
theorem FR.step (F : FR W h io env vis r) (H : HR W h io m) (x : Step own fr h io m h' io' m') (hL : env.locals ∉ own) (hc : ∀ y c, env.cells.lookup y = some c -> c ∉ own) : FR W h' io' env vis r := by
 have sc : ∀ y c, env.cells.lookup y = some c -> ∀ o, h.get? c = some o -> ∃ sl, h'.get? c = some { o with slots := sl } := fun y c hy o ho => by
  refine hide fun G_ g_ => ?_
  obtain ⟨⟨v, oc, hoc, hd⟩, y_⟩ := F.cells y c hy
  refine g_ ?_
  clear g_ G_
  refine x.slots c o ho ?_ (hc y c hy)
  exact H.nofoot_of_cell hoc hd
 refine hide fun G_ g_ => ?_
 obtain ⟨mp, hn, hl⟩ := F.loc
 obtain ⟨oL, y_, y_, hoL, y_⟩ := id hn
 refine g_ ?_
 clear g_ G_
 refine ⟨F.kind, F.glob, F.blt, x.nofoot hoL F.nofoot, F.fresh, ⟨mp, bV0 hn fun o ho => x.slots _ o ho F.nofoot hL, fun i y v h1 h2 h3 => ?_⟩, fun i y v h1 h2 h3 => ?_, fun y c hy => ?_, F.celex, F.apart, F.inj, F.len⟩
 ·refine hide fun G_ g_ => ?_
  obtain ⟨u, e, k⟩ := hl i y v h1 h2 h3
  refine g_ ?_
  clear g_ G_
  exact ⟨u, e, k.step x⟩
 ·refine hide fun G_ g_ => ?_
  obtain ⟨c, u, e, k1, k2⟩ := F.cel i y v h1 h2 h3
  refine g_ ?_
  clear g_ G_
  exact ⟨c, u, e, aM4 k1 (sc y c e), k2.step x⟩
 ·refine hide fun G_ g_ => ?_
  obtain ⟨⟨o, k1⟩, k2, k3⟩ := F.cells y c hy
  refine g_ ?_
  clear g_ G_
  exact ⟨⟨o, aM4 k1 (sc y c hy)⟩, k2, k3⟩
theorem FR.step0 (F : FR W h io env vis r) (H : HR W h io m) (x : Step [] fr h io m h' io' m') : FR W h' io' env vis r := F.step H x (fun q => nomatch q) fun y_ y_ y_ q => nomatch q
theorem FF.step (F : FF W h io fs) (x : Step own fr h io m h' io' m') (ho : ∀ L ∈ frs fs, L ∉ own) : FF W h' io' fs := by
 intro env he
 refine hide fun G_ g_ => ?_
 obtain ⟨hk, L, o, es, n, h1, h2, h3, h4, h5⟩ := F env he
 refine g_ ?_
 clear g_ G_
 obtain ⟨sl, e⟩ := x.slots L o h4 h3 (ho L (List.mem_filterMap.mpr ⟨env, he, h1⟩))
 exact ⟨hk, L, _, es, n, h1, h2, x.nofoot h4 h3, e, h5⟩
theorem FF.step0 (F : FF W h io fs) (x : Step [] fr h io m h' io' m') : FF W h' io' fs := F.step x fun y_ y_ q => nomatch q
theorem FF.funFrames (F : FF W h io fs) : h.FunFrames W.base fs := by
 induction fs with
 | nil => trivial
 | cons env fs ih =>
  refine hide fun G_ g_ => ?_
  obtain ⟨hk, L, o, es, n, h1, h2, h3, h4, h5⟩ := F env (.head _)
  refine g_ ?_
  clear g_ G_
  exact ⟨hk, ⟨L, o, h1, h2, h4, fun vs q => by rw [h5] at q; cases q⟩, ih fun e he => F e (.tail _ he)⟩
theorem AR.cline {A : Around} {n : Nat} (x : AR A fs n) : A.units + 400 < cLine := by have := x.units; simp only [cLine]; omega
theorem XP.bind {α β : Type} {R : Res α} {f : α -> Mn β} {e : Value} {s₁ : Shared} {io₁ : Io} {m₁ : MH} (x : XP W own fs s₁ io₁ m₁ R e s') (st : Step own (frs fs) s.heap io m s₁.heap io₁ m₁) (sm : Same s s₁) : XP W own fs s io m (R.bind f) e s' := by
 refine hide fun G_ g_ => ?_
 obtain ⟨c, m', io', a, g, rfl, h2, h3, h4, ⟨B, h5, h6⟩, h7⟩ := x
 refine g_ ?_
 clear g_ G_
 exact ⟨c, m', io', a, g, rfl, h2, st.trans h3, h4, ⟨B, fun b o e q => h5 b o e (q.imp id (Or.imp id (Or.imp id fun ⟨⟨o', e'⟩, q⟩ => ⟨st.alive b o' e', q⟩))), h6⟩, sm.trans h7⟩
theorem XP.mono {α : Type} {R : Res α} {e : Value} {s₁ : Shared} {io₁ : Io} {m₁ : MH} (x : XP W own fs s₁ io₁ m₁ R e s') (st : Step own (frs fs) s.heap io m s₁.heap io₁ m₁) (sm : Same s s₁) : XP W own fs s io m R e s' := by
 refine hide fun G_ g_ => ?_
 obtain ⟨c, m', io', a, g, rfl, h2, h3, h4, ⟨B, h5, h6⟩, h7⟩ := x
 refine g_ ?_
 clear g_ G_
 exact ⟨c, m', io', a, g, rfl, h2, st.trans h3, h4, ⟨B, fun b o e q => h5 b o e (q.imp id (Or.imp id (Or.imp id fun ⟨⟨o', e'⟩, q⟩ => ⟨st.alive b o' e', q⟩))), h6⟩, sm.trans h7⟩
theorem NP.mono {α β : Type} {P : Heap -> Io -> α -> β -> Prop} {R : Res α} {u : β} {s₁ : Shared} {io₁ : Io} {m₁ : MH} (x : NP W own fr s₁ io₁ m₁ P R u s') (st : Step own fr s.heap io m s₁.heap io₁ m₁) (sm : Same s s₁) : NP W own fr s io m P R u s' := by
 refine hide fun G_ g_ => ?_
 obtain ⟨v, m', io', rfl, h2, h3, h4, h5⟩ := x
 refine g_ ?_
 clear g_ G_
 exact ⟨v, m', io', rfl, st.trans h2, h3, h4, sm.trans h5⟩
noncomputable def Si (W : Wd) (own : List Addr) (A : Around) (fs : List Env) {α β : Type} (P : Heap -> Io -> α -> β -> Prop) (t : Sem β) (s : Shared) (io : Io) (m : MH) (R : Res α) : Prop :=
 R ≠ .bad -> wpAny (model W.prog W.w) A t (NP W own (frs fs) s io m P R) (XP W own fs s io m R) s
section
variable {α α' β β' γ : Type} {A : Around} {P : Heap -> Io -> α -> β -> Prop} {P' : Heap -> Io -> α' -> β' -> Prop}
theorem Res.bind_ne {R : Res α} {f : α -> Mn α'} (h : R.bind f ≠ .bad) : R ≠ .bad := fun q => h (by rw [q]; rfl)
theorem Si.bind {t : Sem β} {k : β -> Sem β'} {R : Res α} {f : α -> Mn α'} (x : Si W own A fs P t s io m R)
  (y : ∀ u s₁ io₁ m₁ v, R = .ok v m₁ -> Step own (frs fs) s.heap io m s₁.heap io₁ m₁ -> HR W s₁.heap io₁ m₁ -> P s₁.heap io₁ v u -> Same s s₁ -> Si W own A fs P' (k u) s₁ io₁ m₁ (f v m₁)) :
  Si W own A fs P' (t >>= k) s io m (R.bind f) := by
 intro hne
 refine wpAny_bind (wpAny_mono (x (Res.bind_ne hne)) (fun u s₁ hp => ?_) fun e s₁ hp => hp.bind .refl (.refl _))
 refine hide fun G_ g_ => ?_
 obtain ⟨v, m₁, io₁, rfl, st, hr, hp, sm⟩ := hp
 refine g_ ?_
 clear g_ G_
 exact wpAny_mono (y u s₁ io₁ m₁ v rfl st hr hp sm hne) (fun y_ y_ z => z.mono st sm) fun y_ y_ z => z.mono st sm
theorem Si.pure {u : β} {v : α} (H : HR W s.heap io m) (p : P s.heap io v u) : Si W own A fs P (Pure.pure u) s io m (.ok v m) :=
 fun y_ => wpAny_pure ⟨v, m, io, rfl, .refl, H, p, .refl _⟩
theorem Si.bad {t : Sem β} : Si W own A fs P t s io m .bad := fun h => absurd rfl h
theorem Si.standAt {pos : Pos} {k : Unit -> Sem β} {R : Res α} (x : Si W own A fs P (k ()) s io m R) : Si W own A fs P (PySem.standAt pos >>= k) s io m R :=
 fun h => wpAny_bind (wpAny_standAt (x h))
theorem Si.holding {vs : List Value} {t : Sem β} {R : Res α} (x : Si W own A fs P t s io m R) : Si W own A fs P (holding vs t) s io m R := fun h => wpAny_holding (x h)
theorem aM6 {M : Model} {A : Around} {E : Value -> Shared -> Prop} {s : Shared} {vs : List Value} {t : Sem Value} {Q : Value -> Shared -> Prop} (h : wpAny M A t Q E s) : wpAny M A (operate vs t) Q E s :=
 fun Γ p hΓ => by rw [Sem.wp_operate]; exact h Γ p hΓ
theorem Si.operate {vs : List Value} {t : Sem Value} {P : Heap -> Io -> α -> Value -> Prop} {R : Res α} (x : Si W own A fs P t s io m R) : Si W own A fs P (operate vs t) s io m R := fun h => aM6 (x h)
end
end
end Mini
namespace Mini
open PySem
section
variable {M : Model} {A : Around} {E : Value -> Shared -> Prop} {s : Shared} {W : Wd} {fs : List Env} {env : Env}
theorem bD9 {base h : Heap} {outer : List Env} {L e : Addr} {cls : Value} {args : List Value} {Q : Unit -> Shared -> Prop}
  (hfr : A.frames = some (env :: outer)) (hf : env.frame = some L) (hkb : base.StaysIn h) (hl : h.FunFrames base (env :: outer)) (hx : Heap.MadeExcOf h s.heap e cls args)
  (hQ : ∀ h' t, Heap.HeldW base (env :: outer) e cls (.ref t) L h' -> s.heap.UpToSlots h' -> Q () { s with heap := h' }) : wpAny M A (noteFrame (.ref e) env) Q E s := by
 refine hide fun G_ g_ => ?_
 obtain ⟨t, he, htn, ht⟩ := hx.there
 refine g_ ?_
 clear g_ G_
 have fresh : ∀ b, h.get? b = none -> base.get? b = none := fun b hb => by
  cases hq : base.get? b with
  | none => rfl
  | some o' => have := hkb b o' hq; rw [hb] at this; cases this
 unfold noteFrame
 simp only [hf]
 refine wpAny_bind (wpAny_field (x := .none) he rfl rfl ?_)
 rw [if_neg (by decide)]
 refine wpAny_entryW (a0 := .ref t) hfr (hl.of_keeps fun b o hb y_ => ⟨o, hx.keeps b o hb, rfl⟩) hf he (fun b o hb => hx.keeps b o (hkb b o hb)) (fresh e hx.new) rfl (show 1 < 6 by decide) rfl fun h' hN => ?_
 refine hide fun G_ g_ => ?_
 obtain ⟨k1, k2, k3, k4⟩ := hN
 refine g_ ?_
 clear g_ G_
 exact hQ h' t ⟨k1, fresh e hx.new, k2, k3⟩ k4
theorem aJ0 {base : Heap} {l : List Env} {e L L' : Addr} {cls a0 : Value} {Q : Unit -> Shared -> Prop} (R : Heap.HeldW base l e cls a0 L' s.heap)
  (h : ∀ h', Heap.HeldW base l e cls a0 L h' -> s.heap.UpToSlots h' -> Q () { s with heap := h' }) : wpAny M A (setFlight (.ref e) (some L)) Q E s := by
 refine hide fun G_ g_ => ?_
 obtain ⟨hkb, hen, hl, oe, vs, T, oT, ts, he, hcls, hd, h1, hnT, hTe, hT, hdT, h3⟩ := R
 refine g_ ?_
 clear g_ G_
 have hsz3 : 3 < ts.size := (Array.getElem?_eq_some_iff.mp h3).1
 have other : ∀ b, b ≠ T -> (s.heap.update T (Obj.mapFields (·.setIfInBounds 3 ((some L).elim Value.none fun f => rawInt f)))).get? b = s.heap.get? b :=
  fun b hb => Heap.get?_update_other _ _ (Ne.symm hb)
 have noRecord : ∀ b o, s.heap.get? b = some o -> (∀ vs, o.data ≠ .fields vs) -> b ≠ T := fun b o hb hnf q => by
  rw [q, hT] at hb; injection hb with hb; subst hb; exact hnf ts hdT
 unfold setFlight
 refine wpAny_bind (wpAny_field he hd h1 ?_)
 rw [if_pos (show (Value.ref T != Value.none) = true from by simp)]
 refine wpAny_setField hT hdT hsz3 (h _ ⟨fun b o hbo => (other b fun q => by rw [q, hnT] at hbo; cases hbo).trans (hkb b o hbo), hen,
  hl.of_keeps fun b o hb hnf => ⟨o, (other b (noRecord b o hb hnf)).trans hb, rfl⟩, ?_⟩ fun b o hb hnf => ⟨o.slots, (other b (noRecord b o hb hnf)).trans hb⟩)
 exact ⟨oe, vs, T, _, _, (other e (Ne.symm hTe)).trans he, hcls, hd, h1, hnT, hTe, Heap.get?_update_self _ hT (Obj.isFreed_of_fields (Obj.data_mapFields hdT _)), Obj.data_mapFields hdT _, by simp [hsz3]⟩
theorem bA6 {h0 : Heap} {io : Io} {g : Heap} {a c : Nat} {Q : Unit -> Shared -> Prop} {L : Addr} (hA : A.frames = some (env :: fs)) (hf : env.frame = some L) (x : Fly W (env :: fs) h0 io g a c s.heap)
  (k : ∀ B h' a0, Kp W h0 io (env :: fs) g B -> Heap.HeldW B (env :: fs) a (.ref (W.ca c)) a0 L h' -> g.UpToSlots h' -> Q () { s with heap := h' }) : wpAny M A (noteFrame (.ref a) env) Q E s := by
 refine hide fun G_ g_ => ?_
 obtain ⟨B, kp, fly⟩ := x
 refine g_ ?_
 clear g_ G_
 rcases fly with ⟨a0, f1, f2⟩ | ⟨a0, L', env', f0, f0', f1, f2⟩ | ⟨args, f1, f2, f3⟩
 ·exact wpAny_looks_onW hA hf f1 fun h' q1 q2 => k B h' a0 kp q1 (f2.trans q2)
 ·cases f0
  rw [hf] at f0'; cases f0'
  exact wpAny_noteFrame_againW hf f1.2.2.2 (k B _ a0 kp f1 f2)
 ·exact bD9 hA hf f1 f2 f3 fun h' t q1 q2 => k B h' _ kp q1 ((Heap.UpToSlots.of_keeps f3.keeps).trans q2)
theorem aL2 {io : Io} {m : MH} {own : List Addr} {α : Type} {R : Res α} {e : Value} {s₀ : Shared} {L : Addr} (hA : A.frames = some (env :: fs)) (hf : env.frame = some L) (x : XP W own (env :: fs) s₀ io m R e s) :
  notedBy M A env (cameBackBy M A env (XP W own (env :: fs) s₀ io m R)) e s := by
 refine hide fun G_ g_ => ?_
 obtain ⟨c, m', io', a, g, h1, rfl, st, Hg, fly, sm⟩ := x
 refine g_ ?_
 clear g_ G_
 refine bA6 hA hf fly fun B h' a0 kp hh up => ?_
 refine hide fun G_ g_ => ?_
 obtain ⟨oe, vs, T, oT, ts, he, hcls, hd, hv, y_⟩ := id hh.2.2.2
 refine g_ ?_
 clear g_ G_
 unfold cameBackBy
 refine wpAny_bind (wpAny_field he hd hv ?_)
 rw [if_neg (show ¬ ((Value.ref T == Value.none) = true) from by simp)]
 rw [hf]
 first
  | refine wpAny_bind (wpAny_pure ?_)
  | skip
 refine aJ0 (L := L) hh fun h₂ hh₂ up₂ => ?_
 exact ⟨c, m', io', a, g, h1, rfl, st, Hg, ⟨B, kp, .inr (.inl ⟨a0, L, env, rfl, hf, hh₂, up.trans up₂⟩)⟩, sm⟩
end
end Mini
namespace Mini
open PySem
theorem aS3 : lid = 4194304 := rfl
section
variable {W : Wd} {own : List Addr} {A : Around} {fs : List Env} {s : Shared} {io : Io} {m : MH} {n : Nat}
theorem aU8 {α β : Type} {g : α -> Option β} {x : α} {xs : List α} {ds : List β} (h : aD5 g (x :: xs) = some ds) : ∃ d r, ds = d :: r /\ g x = some d /\ aD5 g xs = some r := by
 have h : (match g x, aD5 g xs with | some d, some ds => some (d :: ds) | _, _ => none) = some ds := h
 cases h1 : g x with
 | none => rw [h1] at h; cases h
 | some d =>
  cases h2 : aD5 g xs with
  | none => rw [h1, h2] at h; cases h
  | some r => rw [h1, h2] at h; cases h; exact ⟨d, r, rfl, rfl, rfl⟩
theorem cP {f : Nat} (one : ∀ (v : V) (u : Value) (d : PyData), rd f m v = some d -> VR W s.heap io v u -> (∃ as, Reads s.heap u d as) /\ d.canLay0 = true /\ d.depth <= f) : ∀ (xs : List V) (us : List Value) (ds : List PyData), aD5 (rd f m) xs = some ds -> VRs W s.heap io xs us -> (∃ as, ReadsAll s.heap us ds as) /\ PyData.canLayAll0 ds = true /\ PyData.depthAll ds <= f
 | [], us, ds, h, k => by
  cases k
  have h : some [] = some ds := h
  cases h
  exact ⟨⟨_, .nil⟩, rfl, by simp [PyData.depthAll]⟩
 | x :: xs, us, ds, h, k => by
  refine hide fun G_ g_ => ?_
  obtain ⟨d, r, rfl, h1, h2⟩ := aU8 h
  refine g_ ?_
  clear g_ G_
  refine VRs.dCons k fun y_ y_ k1 k2 => ?_
  ·
   refine hide fun G_ g_ => ?_
   obtain ⟨⟨as, r1⟩, c1, d1⟩ := one x _ d h1 k1
   obtain ⟨⟨bs, r2⟩, c2, d2⟩ := cP one xs _ r h2 k2
   refine g_ ?_
   clear g_ G_
   exact ⟨⟨_, .cons r1 r2⟩, by simp [PyData.canLayAll0, c1, c2], by simp only [PyData.depthAll]; omega⟩
set_option tactic.hygienic true in
theorem bA (H : HR W s.heap io m) : ∀ (f : Nat) (v : V) (u : Value) (d : PyData), rd f m v = some d -> VR W s.heap io v u -> (∃ as, Reads s.heap u d as) /\ d.canLay0 = true /\ d.depth <= f
 | 0, _, _, _, h, _ => nomatch (show none = some _ from h)
 | f + 1, v, u, d, h, k => by
  induction k using VR.elim with
  | none => have h : some PyData.none = some d := h; cases h; exact ⟨⟨_, .none⟩, rfl, by simp [PyData.depth]⟩
  | bool b => have h : some (PyData.bool b) = some d := h; cases h; exact ⟨⟨_, .bool b⟩, rfl, by simp [PyData.depth]⟩
  | int i t => have h : some (PyData.int i) = some d := h; cases h; exact ⟨⟨_, .int i t⟩, rfl, by simp [PyData.depth]⟩
  | str x t ok => have h : some (PyData.str x) = some d := h; cases h; exact ⟨⟨_, .str x t⟩, by simpa [PyData.canLay0] using ok, by simp [PyData.depth]⟩
  | tup h1 h4 =>
   have h := Option.map_eq_some_iff.mp (show (aD5 (rd f m) _).map PyData.tuple = some d from h)
   refine hide fun G_ g_ => ?_
   obtain ⟨ds, hds, rfl⟩ := h
   obtain ⟨⟨as, hr⟩, hc, hd⟩ := cP (bA H f) _ _ ds hds h4
   refine g_ ?_
   clear g_ G_
   exact ⟨⟨_, .tuple h1 rfl rfl hr⟩, by simpa [PyData.canLay0] using hc, by simp only [PyData.depth]; omega⟩
  | ref h1 =>
   rename_i k a d'
   have h : (match m[k]? with | some (.list xs) => (aD5 (rd f m) xs).map PyData.list | _ => none) = some d := h
   split at h
   ·rename_i xs hx
    simp only [Option.map_eq_some_iff] at h
    refine hide fun G_ g_ => ?_
    obtain ⟨ds, hds, rfl⟩ := h
    obtain ⟨y_, vs, n', g1, g4, y_⟩ := H.obj _ _ _ h1 hx
    obtain ⟨⟨as, hr⟩, hc, hd⟩ := cP (bA H f) _ _ ds hds g4
    refine g_ ?_
    clear g_ G_
    exact ⟨⟨_, .list g1 rfl rfl hr⟩, by simpa [PyData.canLay0] using hc, by simp only [PyData.depth]; omega⟩
   ·cases h
  | fn k => exact nomatch (show none = some d from h)
  | exc y_ y_ y_ => exact nomatch (show none = some d from h)
  | scr y_ y_ y_ y_ y_ => exact nomatch (show none = some d from h)
noncomputable abbrev BV : Heap -> Io -> Bool -> Value -> Prop := fun y_ y_ b u => u = .bool b
theorem aX1 (k : Nat) : ((k : Int) != 0) = (k != 0) := by
 rw [Bool.eq_iff_iff]; simp
theorem bC2 {xs : List V} {vs : Array Value} (e : vs.toList.length = xs.length) : (!vs.isEmpty) = !xs.isEmpty := by
 rw [Array.length_toList] at e
 cases xs with
 | nil => have : vs = #[] := Array.eq_empty_of_size_eq_zero e; subst this; rfl
 | cons x xs =>
  have : vs.isEmpty = false := by
   rw [Array.isEmpty_eq_false_iff]; intro q; subst q; simp at e
  rw [this]; rfl
set_option tactic.hygienic true in
theorem aF7 (H : HR W s.heap io m) {v : V} {u : Value} (k : VR W s.heap io v u) : Si W own A fs BP (truthy u) s io m (fB v m) := by
 induction k using VR.elim with
 | none => exact fun y_ => wpAny_pure (a := false) ⟨false, m, io, rfl, .refl, H, rfl, .refl _⟩
 | bool b => exact fun y_ => wpAny_truthy_bool ⟨b, m, io, rfl, .refl, H, rfl, .refl _⟩
 | int i t => exact fun y_ => P.truthy_int ⟨_, m, io, rfl, .refl, H, rfl, .refl _⟩
 | str x t ok =>
  simp only [fB]
  split
  ·rename_i hl
   exact fun y_ => P.truthy_str (by rw [aS3] at hl; omega) ⟨_, m, io, rfl, .refl, H, (aX1 _).symm, rfl, rfl⟩
  ·exact Si.bad
 | tup h1 h4 =>
  simp only [fB]
  split
  ·rename_i hl
   have e := h4.length
   exact fun y_ => PyProof.Rows.truthy_tuple ⟨_, h1, rfl, _, rfl⟩ (by rw [aS3] at hl; rw [Array.length_toList] at e; omega) ⟨_, m, io, rfl, .refl, H, (bC2 e).symm, rfl, rfl⟩
  ·exact Si.bad
 | ref h1 =>
  simp only [fB]
  split
  ·rename_i xs hx
   refine hide fun G_ g_ => ?_
   obtain ⟨y_, vs, n', g1, g4, g5⟩ := H.obj _ _ _ h1 hx
   refine g_ ?_
   clear g_ G_
   have e := g4.length
   exact fun y_ => wpAny_truthy_list ⟨_, g1, rfl, _, rfl⟩ (by rw [aS3] at g5; rw [Array.length_toList] at e; omega) ⟨_, m, io, rfl, .refl, H, (bC2 e).symm, rfl, rfl⟩
  ·exact Si.bad
 | fn k => exact Si.bad
 | exc y_ y_ y_ => exact Si.bad
 | scr y_ y_ y_ y_ y_ => exact Si.bad
theorem aN {h : Heap} (o : Obj) : ∀ b o', h.get? b = some o' -> (h.push o).get? b = some o' := fun y_ y_ e => Heap.get?_push_of_some o e
theorem aP (h : Heap) : h.get? h.objs.size = none := by
 cases q : h.get? h.objs.size with
 | none => rfl
 | some o => exact absurd (Heap.lt_size q) (Nat.lt_irrefl _)
theorem aW8 {fr : List Addr} (H : HR W s.heap io m) {vs : Array Value} {xs : List V} {k tk : Nat} (hv : VRs W s.heap io xs vs.toList) (hl : xs.length <= lid) :
  NP W own fr s io m (VP W) (alloc (.list xs) m) (.ref s.heap.objs.size) { s with heap := s.heap.push (e7 vs k), toks := tk } := by
 have st : Step own fr s.heap io m (s.heap.push (e7 vs k)) (io ++ [(s.heap.objs.size, s.heap.objs.size)]) (m ++ [.list xs]) := dJ H (aN _) (aP _) (aP _)
 refine ⟨_, _, _, rfl, st, H.alloc (aN _) (aP _) (aP _) ⟨rfl, vs, k, Heap.get?_push_size _ rfl, hv.step st, hl⟩, .ref (d := s.heap.objs.size) ?_, rfl, rfl⟩
 rw [<- H.len]; simp
theorem cU4 {fr : List Addr} (H : HR W s.heap io m) {vs : Array Value} {xs : List V} {k tk : Nat} (hv : VRs W s.heap io xs vs.toList) :
  NP W own fr s io m (VP W) (.ok (.tup xs) m) (.ref s.heap.objs.size) { s with heap := s.heap.push (cG9 vs k), toks := tk } := by
 have st : Step own fr s.heap io m (s.heap.push (cG9 vs k)) io m := .of_keeps H (aN _)
 exact ⟨_, _, _, rfl, st, H.of_keeps (aN _), .tup (Heap.get?_push_size _ rfl) (hv.step st), rfl, rfl⟩
theorem a9 {fr : List Addr} (H : HR W s.heap io m) {v : V} {u : Value} {tk : Nat} (hv : VR W s.heap io v u) : NP W own fr s io m (VP W) (.ok v m) u { s with toks := tk } :=
 ⟨v, m, io, rfl, .refl, H, hv, rfl, rfl⟩
theorem cJ5 {fr : List Addr} (H : HR W s.heap io m) {k tk : Nat} :
  NP W own fr s io m (VP W) (alloc (.dict [] 0) m) (.ref s.heap.objs.size) { s with heap := s.heap.push (cY3 [] k), toks := tk } := by
 have st : Step own fr s.heap io m (s.heap.push (cY3 [] k)) (io ++ [(s.heap.objs.size, s.heap.objs.size)]) (m ++ [.dict [] 0]) := dJ H (aN _) (aP _) (aP _)
 refine ⟨_, _, _, rfl, st, H.alloc (aN _) (aP _) (aP _) ⟨rfl, _, _, k, Heap.get?_push_size _ rfl, ⟨rfl, rfl, rfl⟩, rfl, .nil, .nil, by simp [lid]⟩, .ref (d := s.heap.objs.size) ?_, rfl, rfl⟩
 rw [<- H.len]; simp
theorem eC {x y : Str} (hx : PyData.strOk x = true) (hy : PyData.strOk y = true) : PyData.strOk (x ++ y) = true := by
 unfold PyData.strOk at *
 rw [Str.cps_append]
 simp only [Array.all_append, hx, hy, Bool.and_self]
theorem aM {k : Nat} (h : k <= lid) : k <= sizeLine := by rw [aS3] at h; show k <= 2 ^ 24; omega
set_option tactic.hygienic true in
theorem aM5 {i : Int} (h : i.natAbs < 1073741824) : Builtin.Int.intBits i <= 64 := by
 unfold Builtin.Int.intBits
 split
 ·omega
 ·rename_i h0
  have h1 : i.natAbs ≠ 0 := by
   intro q
   have : i = 0 := by omega
   subst this; simp at h0
  have := (Nat.log2_lt h1 (k := 30)).mpr (by omega)
  omega
theorem bQ4 {Pr : Operator -> V -> V -> Prop} (a1 : ∀ i j, Pr .Add (.int i) (.int j)) (a2 : ∀ i j, Pr .Sub (.int i) (.int j)) (a3 : ∀ i j, Pr .Mult (.int i) (.int j)) (a4 : ∀ i j, Pr .FloorDiv (.int i) (.int j)) (a5 : ∀ i j, Pr .Mod (.int i) (.int j))
  (a6 : ∀ x y, Pr .Add (.str x) (.str y)) (a8 : ∀ p q, Pr .Add (.ref p) (.ref q)) (bad : ∀ op a b, bF6 op a b = (fun y_ => .bad) -> Pr op a b) (op : Operator) (a b : V) : Pr op a b := by
 cases op <;> first | (exact bad _ _ _ rfl) | skip
 all_goals cases a <;> first | (exact bad _ _ _ rfl) | skip
 all_goals cases b <;> first | (exact a1 _ _) | (exact a2 _ _) | (exact a3 _ _) | (exact a4 _ _) | (exact a5 _ _) | (exact a6 _ _) | (exact a8 _ _) | (exact bad _ _ _ rfl)
set_option tactic.hygienic true in
theorem cO4 (H : HR W s.heap io m) {op : Operator} {v x : V} {u y : Value} (k : VR W s.heap io v u) (l : VR W s.heap io x y) :
  Si W own A fs (VP W) (binaryOp op u y) s io m (bF6 op v x m) := by
 revert k l
 refine bQ4 (Pr := fun op v x => VR W s.heap io v u -> VR W s.heap io x y -> Si W own A fs (VP W) (binaryOp op u y) s io m (bF6 op v x m)) ?_ ?_ ?_ ?_ ?_ ?_ ?_ ?_ op v x
 ·intro i j k l; cases k; cases l; exact fun y_ => P.add_int (a9 H (.int _ _))
 ·intro i j k l; cases k; cases l; exact fun y_ => P.sub_int (a9 H (.int _ _))
 ·intro i j k l; cases k; cases l
  show Si W own A fs (VP W) _ s io m (if i.natAbs < 1073741824 \/ j.natAbs < 1073741824 then .ok (.int (i * j)) m else .bad)
  split
  ·rename_i hc
   intro y_
   refine P.mul_int (a9 H (.int _ _)) ?_
   rcases hc with hc | hc
   ·exact IntMulOk.of_left (aM5 hc)
   ·exact IntMulOk.of_right (aM5 hc)
  ·exact Si.bad
 ·intro i j k l; cases k; cases l
  show Si W own A fs (VP W) _ s io m (if 0 < j /\ j.natAbs < 1073741824 then .ok (.int (i / j)) m else .bad)
  split
  ·rename_i hj
   rw [<- Int.fdiv_eq_ediv_of_nonneg _ (Int.le_of_lt hj.1)]
   exact fun y_ => PyProof.Rows.floordiv_int (Int.ne_of_gt hj.1) (a9 H (.int _ _)) (.inl (PyProof.noPylong_small hj.2))
  ·exact Si.bad
 ·intro i j k l; cases k; cases l
  show Si W own A fs (VP W) _ s io m (if 0 < j then .ok (.int (i % j)) m else .bad)
  split
  ·rename_i hj
   rw [<- Int.fmod_eq_emod_of_nonneg _ (Int.le_of_lt hj)]
   exact fun y_ => PyProof.Rows.mod_int (Int.ne_of_gt hj) (a9 H (.int _ _))
  ·exact Si.bad
 ·intro x y k l
  refine VR.dStr k fun y_ k1 => ?_; refine VR.dStr l fun y_ l1 => ?_
  show Si W own A fs (VP W) _ s io m (if x.length + y.length <= lid then .ok (.str (x ++ y)) m else .bad)
  split
  ·rename_i hl
   exact fun y_ => PyProof.Rows.add_str (fun t' tk => a9 H (.str _ _ (eC k1 l1))) (aM hl)
  ·exact Si.bad
 ·intro p q k l
  refine VR.dRef k fun y_ y_ h1 => ?_; refine VR.dRef l fun y_ y_ g1 => ?_
  show Si W own A fs (VP W) _ s io m (match m[p]?, m[q]? with | some (.list x), some (.list y) => if x.length + y.length <= lid then alloc (.list (x ++ y)) m else .bad | _, _ => .bad)
  split
  ·rename_i x y hx hy
   refine hide fun G_ g_ => ?_
   obtain ⟨y_, vs, n', a1, a4, a5⟩ := H.obj _ _ _ h1 hx
   obtain ⟨y_, ws, n2, b1, b4, b5⟩ := H.obj _ _ _ g1 hy
   refine g_ ?_
   clear g_ G_
   split
   ·rename_i hl
    have e1 := a4.length
    have e2 := b4.length
    rw [Array.length_toList] at e1 e2
    exact fun y_ => P.add_list a1 b1 (aW8 H (by rw [Array.toList_append]; exact a4.append b4) (by simpa using hl)) (aM (by omega))
   ·exact Si.bad
  ·exact Si.bad
 ·intro op a b e k l; rw [e]; exact Si.bad
theorem fQ {fr : List Addr} (H : HR W s.heap io m) {b : Bool} {tk : Nat} : NP W own fr s io m BV (.ok b m) (.bool b) { s with toks := tk } := ⟨b, m, io, rfl, .refl, H, rfl, rfl, rfl⟩
theorem aW9 {M : Model} {A : Around} {E : Value -> Shared -> Prop} {s : Shared} {a b : Value} {Q : Value -> Shared -> Prop} (h : wpAny M A (compareOp .In a b) (fun v s' => ∃ c, v = .bool c /\ Q (.bool (!c)) s') E s) :
  wpAny M A (compareOp .NotIn a b) Q E s := by
 intro Γ p hΓ
 have h1 := h Γ p hΓ
 show Sem.wp M Γ (contains b a >>= fun c => pure (Value.bool (!c))) _ _ p s
 have h2 : Sem.wp M Γ (contains b a >>= fun c => pure (Value.bool c)) (fun v y_ s' => ∃ c, v = .bool c /\ Q (.bool (!c)) s') (fun e y_ s' => E e s') p s := h1
 rw [Sem.wp_bind'] at h2 ⊢
 refine Sem.wp_mono M Γ _ (fun c p' s' h' => ?_) (fun y_ y_ y_ x => x) p s h2
 refine hide fun G_ g_ => ?_
 obtain ⟨c', e, q⟩ := h'
 refine g_ ?_
 clear g_ G_
 cases e
 exact q
theorem Si.not {t t' : Sem Value} {R : Res Bool} (x : Si W own A fs BV t s io m R)
  (k : ∀ (E : Value -> Shared -> Prop) (Q : Value -> Shared -> Prop), wpAny (model W.prog W.w) A t (fun v s' => ∃ c, v = .bool c /\ Q (.bool (!c)) s') E s -> wpAny (model W.prog W.w) A t' Q E s) : Si W own A fs BV t' s io m (R.bind fun c => ret (!c)) := by
 intro hne
 refine k _ _ (wpAny_mono (x (Res.bind_ne hne)) (fun u s' p => ?_) fun e s' p => p.bind .refl (.refl _))
 refine hide fun G_ g_ => ?_
 obtain ⟨v, m', io', rfl, a1, a2, a3, a4⟩ := p
 refine g_ ?_
 clear g_ G_
 exact ⟨v, a3, _, m', io', rfl, a1, a2, rfl, a4⟩
end
end Mini
namespace Mini
open PySem
noncomputable def aE0 : Sum Int Str -> Value -> Bool
 | .inl i, v => Value.isInt i v
 | .inr x, v => Value.isStrOf x v
theorem bR {k : Sum Int Str} {v : Value} (h : aE0 k v = true) : (∃ i t, k = .inl i /\ v = .int i t) \/ (∃ x t, k = .inr x /\ v = .str x t) := by
 cases k with
 | inl j => obtain ⟨u, e⟩ := Value.isInt_shape (k := j) (v := v) h; exact .inl ⟨j, u, rfl, e⟩
 | inr x => obtain ⟨u, e⟩ := Value.isStrOf_shape (x := x) (v := v) h; exact .inr ⟨x, u, rfl, e⟩
theorem bD7 {prog : Program} {w : World} {A : Around} {E : Value -> Shared -> Prop} {s : Shared} {a b : Sum Int Str} {u v : Value} {Q : Bool -> Shared -> Prop} (hu : aE0 a u = true) (hv : aE0 b v = true) (h : Q (decide (a = b)) s) :
  wpAny (model prog w) A (PySem.eqBool u v) Q E s := by
 rcases bR hu with ⟨i, t, rfl, rfl⟩ | ⟨x, t, rfl, rfl⟩ <;> rcases bR hv with ⟨j, t', rfl, rfl⟩ | ⟨y, t', rfl, rfl⟩
 ·have e : decide (Sum.inl (β := Str) i = .inl j) = (i == j) := by
   by_cases q : i = j <;> simp [q]
  rw [e] at h
  exact wpAny_eqBool_int h
 ·have e : decide (Sum.inl (β := Str) i = .inr y) = false := by simp
  rw [e] at h
  unfold eqBool
  show wpAny _ _ (richCompare .Eq (Value.int i t) (Value.str y t') >>= truthOfDropped) Q E s
  exact wpAny_bind (EqMixed.eq_int_str (wpAny_truthy_bool h))
 ·have e : decide (Sum.inr (α := Int) x = .inl j) = false := by simp
  rw [e] at h
  unfold eqBool
  show wpAny _ _ (richCompare .Eq (Value.str x t) (Value.int j t') >>= truthOfDropped) Q E s
  exact wpAny_bind (EqMixed.eq_str_int (wpAny_truthy_bool h))
 ·have e : decide (Sum.inr (α := Int) x = .inr y) = decide (x = y) := by
   by_cases q : x = y <;> simp [q]
  rw [e] at h
  exact wpAny_eqBool_str h
theorem bV5 {prog : Program} {w : World} {A : Around} {E : Value -> Shared -> Prop} {s : Shared} {k : Sum Int Str} {v : Value} {Q : Int -> Shared -> Prop} (hv : aE0 k v = true) (h : Q (bQ9 w k) { s with toks := s.toks + 1 }) :
  wpAny (model prog w) A (PySem.pyHash v) Q E s := by
 rcases bR hv with ⟨i, t, rfl, rfl⟩ | ⟨x, t, rfl, rfl⟩
 ·exact wpAny_pyHash_int h
 ·exact wpAny_pyHash_str h
theorem cK2 (v : Value) (a b : Sum Int Str) (ha : aE0 a v = true) (hb : aE0 b v = true) : a = b := by
 rcases bR ha with ⟨i, t, rfl, rfl⟩ | ⟨x, t, rfl, rfl⟩ <;> rcases bR hb with ⟨j, u, rfl, e⟩ | ⟨y, u, rfl, e⟩ <;> cases e <;> rfl
theorem aX3 (k : Sum Int Str) (v : Value) (h : aE0 k v = true) : carriedByValue v = true := by
 rcases bR h with ⟨i, t, rfl, rfl⟩ | ⟨x, t, rfl, rfl⟩ <;> rfl
theorem bV4 (k : Sum Int Str) (x : Str) (t : Tok) (v : Value) (h : aE0 k (.str x t) = true) : aE0 k v = v.isStr x := by
 rcases bR h with ⟨i, u, rfl, e⟩ | ⟨y, u, rfl, e⟩
 ·cases e
 ·cases e; cases v <;> rfl
noncomputable def aG7 (prog : Program) (w : World) : KeyKind prog w (Sum Int Str) where
 is := aE0
 hash := bQ9 w
 inj := cK2
 byValue := aX3
 pyHash := bV5
 eqBool := bD7
 «strs» := bV4
section
variable {W : Wd} {h : Heap} {io : Io}
theorem aX7 {ks : List (Sum Int Str)} {vs : List Value} (x : VRs W h io (ks.map fun x => match x with | .inl i => V.int i | .inr s => V.str s) vs) : ItemsAre (aG7 W.prog W.w) ks vs := by
 induction ks generalizing vs with
 | nil => cases x; exact .nil
 | cons k ks ih =>
  refine VRs.dCons x fun y_ y_ h1 r => ?_
  ·
   refine .cons ?_ (ih r)
   cases k with
   | inl i => cases h1; simp [aG7, aE0, Value.isInt]
   | inr s => refine VR.dStr h1 fun y_ y_ => ?_; simp [aG7, aE0, Value.isStrOf]
theorem aA4 {ks : List (Sum Int Str)} {u : Value} (x : VR W h io (Ky.tup ks).val u) : ∃ a, u = .ref a /\ IsTupleKey (aG7 W.prog W.w) h ks a := by
 refine VR.dTup x fun y_ y_ y_ h1 h2 => ?_
 ·exact ⟨_, rfl, _, _, _, h1, rfl, rfl, aX7 h2⟩
section
variable {K : Type} [DecidableEq K] (knd : KeyKind W.prog W.w K) (emb : K -> Ky)
structure Emb : Prop where
 inj : ∀ a b, emb a = emb b -> a = b
 is : ∀ {h : Heap} {io : Io} k u, VR W h io (emb k).val u -> knd.is k u = true
 hash : ∀ k, aS5 W.w (emb k) = knd.hash k
 aF2 : ∀ {h h' : Heap} {io : Io} k u, VR W h io (emb k).val u -> VR W h' io (emb k).val u
variable {knd emb}
theorem ERs.keysOf (E : Emb knd emb) {kvs : List (Ky × V)} {es : List DictEntry} (x : ERs W h io kvs es) (hk : ∀ p ∈ kvs, ∃ k, p.1 = emb k) : ∀ e ∈ es, ∃ k, knd.is k e.key = true /\ e.hash = knd.hash k := by
 induction x using ERs.ind with
 | nil => intro e he; cases he
 | cons h1 h2 y_ ih =>
  intro e he
  cases he with
  | head =>
   obtain ⟨k, e⟩ := hk _ (.head _)
   simp only at e
   subst e
   exact ⟨k, E.is k _ h1, E.hash k⟩
  | tail y_ he => exact ih (fun p hp => hk p (.tail _ hp)) e he
theorem ERs.find (E : Emb knd emb) {kvs : List (Ky × V)} {es : List DictEntry} (x : ERs W h io kvs es) (hk : ∀ p ∈ kvs, ∃ k, p.1 = emb k) (k : K) :
  (∃ v u, b9 (emb k) kvs = some v /\ (es.find? fun e => knd.is k e.key).map (·.val) = some u /\ VR W h io v u) \/ (b9 (emb k) kvs = none /\ (es.find? fun e => knd.is k e.key).map (·.val) = none) := by
 induction x using ERs.ind with
 | nil => exact .inr ⟨rfl, rfl⟩
 | @cons k' v key u kvs es h1 h2 y_ ih =>
  obtain ⟨j, e⟩ := hk _ (.head _)
  simp only at e
  subst e
  have hj := E.is j _ h1
  by_cases q : j = k
  ·subst q
   exact .inl ⟨v, u, by simp [b9], by simp [List.find?, hj], h2⟩
  ·have n1 : ¬ emb j = emb k := fun z => q (E.inj _ _ z)
   have n2 : knd.is k key = false := by
    cases z : knd.is k key with
    | false => rfl
    | true => exact absurd (knd.inj _ _ _ hj z) q
   simp only [b9, n1, if_false, List.find?_cons, n2]
   exact ih fun p hp => hk p (.tail _ hp)
theorem ERs.mapOf (E : Emb knd emb) {kvs : List (Ky × V)} {a : Addr} {o : Obj} {es : Array DictEntry} {n : Nat} (h1 : h.get? a = some o) (h2 : o.ExactDict) (h3 : o.data = .dict es n) (x : ERs W h io kvs es.toList) (hk : ∀ p ∈ kvs, ∃ k, p.1 = emb k) :
  h.MapOf knd a (findBy knd.is es) := ⟨o, es, n, h1, h2, h3, fun e he => x.keysOf E hk e (Array.mem_toList_iff.mpr he), fun y_ => rfl⟩
theorem ERs.findBy (E : Emb knd emb) {kvs : List (Ky × V)} {es : Array DictEntry} (x : ERs W h io kvs es.toList) (hk : ∀ p ∈ kvs, ∃ k, p.1 = emb k) (k : K) :
  (∃ v u, b9 (emb k) kvs = some v /\ findBy knd.is es k = some u /\ VR W h io v u) \/ (b9 (emb k) kvs = none /\ PySem.findBy knd.is es k = none) := by
 have := x.find E hk k
 unfold PySem.findBy
 obtain ⟨l⟩ := es
 rw [List.find?_toArray]
 exact this
theorem ERs.pairs (E : Emb knd emb) {kvs : List (Ky × V)} {es : List DictEntry} (x : ERs W h io kvs es) (hk : ∀ p ∈ kvs, ∃ k, p.1 = emb k) :
  ∃ l : List (K × Value), Pairs knd es l /\ l.map (fun p => emb p.1) = kvs.map (·.1) /\ VRs W h io (kvs.map (·.2)) (l.map (·.2)) := by
 induction x using ERs.ind with
 | nil => exact ⟨[], .nil, rfl, .nil⟩
 | @cons k' v key u kvs es h1 h2 y_ ih =>
  obtain ⟨j, e⟩ := hk _ (.head _)
  simp only at e
  subst e
  refine hide fun G_ g_ => ?_
  obtain ⟨l, p1, p2, p3⟩ := ih fun p hp => hk p (.tail _ hp)
  refine g_ ?_
  clear g_ G_
  exact ⟨(j, u) :: l, .cons (E.is j _ h1) rfl p1, by simp [p2], .cons h2 p3⟩
end
set_option tactic.hygienic true in
theorem cM {k : Ky} {v : V} : ∀ {kvs : List (Ky × V)}, b9 k kvs = none -> put k v kvs = kvs ++ [(k, v)]
 | [], _ => rfl
 | (k', v') :: r, h => by
  simp only [b9] at h
  split at h
  ·cases h
  ·rename_i q
   simp only [put, q, if_false, List.cons_append, cM h]
set_option tactic.hygienic true in
theorem aS2 {k : Ky} : ∀ {kvs : List (Ky × V)}, b9 k kvs = none -> ∀ p ∈ kvs, p.1 ≠ k
 | [], _, _, hp => nomatch hp
 | (k', v') :: r, h, p, hp => by
  simp only [b9] at h
  split at h
  ·cases h
  ·rename_i q
   cases hp with
   | head => exact q
   | tail y_ hp => exact aS2 h p hp
set_option tactic.hygienic true in
theorem cL {k : Ky} {v : V} : ∀ {kvs : List (Ky × V)} {u : V}, b9 k kvs = some u -> (kvs.map (·.1)).Nodup -> put k v kvs = kvs.map fun p => if p.1 = k then (p.1, v) else p
 | [], _, h, _ => by simp [b9] at h
 | (k', v') :: r, u, h, hn => by
  simp only [List.map_cons, List.nodup_cons] at hn
  simp only [b9] at h
  split at h
  ·rename_i q
   subst q
   simp only [put, if_true, List.map_cons]
   congr 1
   have e : ∀ p ∈ r, (if p.1 = k' then (p.1, v) else p) = p := fun p hp => by
    rw [if_neg]; intro z; exact hn.1 (z ▸ List.mem_map_of_mem hp)
   rw [List.map_congr_left e, List.map_id']
  ·rename_i q
   simp only [put, q, if_false, List.map_cons, cL h hn.2]
theorem aO1 {k : Ky} {v : V} {kvs : List (Ky × V)} (hn : (kvs.map (·.1)).Nodup) : ((put k v kvs).map (·.1)).Nodup := by
 cases h : b9 k kvs with
 | none =>
  rw [cM h, List.map_append]
  refine List.nodup_append.mpr ⟨hn, by simp, ?_⟩
  intro x hx y hy e
  refine hide fun G_ g_ => ?_
  obtain ⟨p, hp, rfl⟩ := List.mem_map.mp hx
  refine g_ ?_
  clear g_ G_
  simp at hy
  subst hy
  exact aS2 h p hp e
 | some u =>
  rw [cL h hn, List.map_map]
  have e : ((fun x : Ky × V => x.1) ∘ fun p : Ky × V => if p.1 = k then (p.1, v) else p) = fun p => p.1 := by
   funext p; simp only [Function.comp]; split <;> rfl
  rw [e]; exact hn
theorem aK9 {k : Ky} {v : V} : ∀ (kvs : List (Ky × V)), (put k v kvs).length <= kvs.length + 1
 | [] => by simp [put]
 | (k', v') :: r => by
  simp only [put]
  split
  ·simp
  ·simpa using aK9 r
theorem aF8 {x : V} {k : Ky} (h : eB x = some k) : k.val = x := by
 cases x with
 | int i => simp [eB] at h; subst h; rfl
 | str i => simp [eB] at h; subst h; rfl
 | tup xs =>
  simp only [eB, Option.map_eq_some_iff] at h
  refine hide fun G_ g_ => ?_
  obtain ⟨ks, hks, rfl⟩ := h
  refine g_ ?_
  clear g_ G_
  refine congrArg V.tup ?_
  induction xs generalizing ks with
  | nil => have hks : some [] = some _ := hks; cases hks; rfl
  | cons x xs ih =>
   refine hide fun G_ g_ => ?_
   obtain ⟨d, r, rfl, h1, h2⟩ := aU8 hks
   refine g_ ?_
   clear g_ G_
   simp only [List.map_cons, List.cons.injEq]
   refine ⟨?_, ih r h2⟩
   cases x <;> simp [atom] at h1 <;> subst h1 <;> rfl
 | _ => simp [eB] at h
theorem fO {k : Ky} {kvs : List (Ky × V)} (h : aU k kvs = true) : ∀ p ∈ kvs, p.1.sort = k.sort := fun p hp => by
 have := List.all_eq_true.mp h p hp
 simpa using this
theorem intEmb : Emb (W := W) (intKind W.prog W.w) Ky.int where
 inj := fun a b e => ky_i e
 is := fun k u x => by cases x; simp [intKind, Value.isInt]
 hash := fun y_ => rfl
 aF2 := fun k u x => by cases x; exact .int _ _
theorem strEmb : Emb (W := W) (strKind W.prog W.w) Ky.str where
 inj := fun a b e => ky_s e
 is := fun k u x => by refine VR.dStr x fun y_ y_ => ?_; simp [strKind, Value.isStrOf]
 hash := fun y_ => rfl
 aF2 := fun k u x => by refine VR.dStr x fun y_ ok => ?_; exact .str _ _ ok
theorem aE5 {kvs : List (Ky × V)} {i : Int} (h : aU (.int i) kvs = true) : ∀ p ∈ kvs, ∃ k, p.1 = Ky.int k := fun p hp => by
 have := fO h p hp
 cases q : p.1 with
 | int k => exact ⟨k, rfl⟩
 | _ => rw [q] at this; simp [Ky.sort] at this
theorem aN2 {kvs : List (Ky × V)} {i : Str} (h : aU (.str i) kvs = true) : ∀ p ∈ kvs, ∃ k, p.1 = Ky.str k := fun p hp => by
 have := fO h p hp
 cases q : p.1 with
 | str k => exact ⟨k, rfl⟩
 | _ => rw [q] at this; simp [Ky.sort] at this
theorem aN1 {kvs : List (Ky × V)} {i : List (Sum Int Str)} (h : aU (.tup i) kvs = true) : ∀ p ∈ kvs, ∃ k, p.1 = Ky.tup k := fun p hp => by
 have := fO h p hp
 cases q : p.1 with
 | tup k => exact ⟨k, rfl⟩
 | _ => rw [q] at this; simp [Ky.sort] at this
noncomputable abbrev TK := List (Sum Int Str) × Addr × Value
noncomputable abbrev tkd (W : Wd) := tupleKind (aG7 W.prog W.w)
theorem ERs.heapKeys {kvs : List (Ky × V)} {es : List DictEntry} (x : ERs W h io kvs es) (hk : ∀ p ∈ kvs, ∃ k, p.1 = Ky.tup k) :
  ∃ l : List TK, es = l.map (entryOfKey (tkd W)) /\ (∀ y ∈ l, (tkd W).is h y.1 y.2.1) /\ l.map (fun p => Ky.tup p.1) = kvs.map (·.1) /\ VRs W h io (kvs.map (·.2)) (l.map (·.2.2)) /\ (∀ y ∈ l, VR W h io (Ky.tup y.1).val (.ref y.2.1)) := by
 induction x using ERs.ind with
 | nil => exact ⟨[], rfl, (fun y_ h => nomatch h), rfl, .nil, fun y_ h => nomatch h⟩
 | @cons k' v key u kvs es h1 h2 y_ ih =>
  obtain ⟨j, e⟩ := hk _ (.head _)
  simp only at e
  subst e
  refine hide fun G_ g_ => ?_
  obtain ⟨l, p1, p2, p3, p4, p5⟩ := ih fun p hp => hk p (.tail _ hp)
  obtain ⟨a, rfl, ka⟩ := aA4 h1
  refine g_ ?_
  clear g_ G_
  refine ⟨(j, a, u) :: l, by rw [p1]; rfl, fun y hy => ?_, by simp [p3], .cons h2 p4, fun y hy => ?_⟩
  ·cases hy with
   | head => exact ka
   | tail y_ hy => exact p2 y hy
  ·cases hy with
   | head => exact h1
   | tail y_ hy => exact p5 y hy
theorem fA {k : List (Sum Int Str)} : ∀ {l : List TK} {kvs : List (Ky × V)}, l.map (fun p => Ky.tup p.1) = kvs.map (·.1) -> VRs W h io (kvs.map (·.2)) (l.map (·.2.2)) ->
  (∃ v a u, b9 (.tup k) kvs = some v /\ atKey l k = some (a, u) /\ VR W h io v u) \/ (b9 (.tup k) kvs = none /\ atKey l k = none)
 | [], kvs, e, _ => by
  have : kvs = [] := by cases kvs with | nil => rfl | cons => simp at e
  subst this
  exact .inr ⟨rfl, rfl⟩
 | (j, a, u) :: l, kvs, e, x => by
  cases kvs with
  | nil => simp at e
  | cons q kvs =>
   obtain ⟨k', v⟩ := q
   simp only [List.map_cons, List.cons.injEq] at e
   obtain ⟨e1, e2⟩ := e
   subst e1
   obtain ⟨x1, x2⟩ := VRs.cc x
   ·
    by_cases z : j = k
    ·subst z
     exact .inl ⟨v, a, u, by simp [b9], by simp [atKey], x1⟩
    ·have z' : ¬ Ky.tup j = Ky.tup k := fun w => z (ky_t w)
     simp only [b9, z', if_false]
     have : atKey ((j, a, u) :: l) k = atKey l k := by simp [atKey, z]
     rw [this]
     exact fA e2 x2
theorem eJ {l : List TK} {kvs : List (Ky × V)} (e : l.map (fun p => Ky.tup p.1) = kvs.map (·.1)) (hn : (kvs.map (·.1)).Nodup) : (l.map (·.1)).Nodup := by
 rw [<- e] at hn
 have : (l.map (·.1)).map Ky.tup = l.map fun p => Ky.tup p.1 := by rw [List.map_map]; rfl
 rw [<- this] at hn
 exact List.Pairwise.of_map Ky.tup (fun a b h e => h (congrArg _ e)) hn
end
structure WOk (W : Wd) : Prop where
 sys : ∃ o, W.base.get? sysModules = some o
 nolimit : W.base.NoLimit
section
variable {W : Wd} {own : List Addr} {A : Around} {fs : List Env} {s : Shared} {io : Io} {m : MH} {n : Nat}
theorem HR.notSys (ok : WOk W) (H : HR W s.heap io m) {b : Addr} (f : cU io b) : (b == sysModules) = false := by
 have h1 := H.fresh b f
 obtain ⟨o, ho⟩ := ok.sys
 cases q : b == sysModules with
 | false => rfl
 | true => rw [beq_iff_eq.mp q, ho] at h1; cases h1
theorem cM2 {E : Value -> Shared -> Prop} {Q : Value -> Shared -> Prop} (ok : WOk W) (H : HR W s.heap io m) (R : AR A fs n) {i : Nat} {p : Addr × Addr} {kvs : List (Ky × V)} {e : Nat} (hi : io[i]? = some p) (hm : m[i]? = some (.dict kvs e)) {x : V} {u : Value} (hx : VR W s.heap io x u) {k : Ky} (hk : eB x = some k) (hs : aU k kvs = true)
  (h : ∀ tk, Q (.bool (b9 k kvs).isSome) { s with toks := tk }) : wpAny (model W.prog W.w) A (compareOp .In u (.ref p.1)) Q E s := by
 refine hide fun G_ g_ => ?_
 obtain ⟨y_, o, es, n', g1, g2, g3, g4, g5, y_⟩ := H.obj _ _ _ hi hm
 refine g_ ?_
 clear g_ G_
 have ns := H.notSys ok ⟨p, List.mem_of_getElem? hi, .inl rfl⟩
 have hv := aF8 hk
 subst hv
 cases k with
 | int j =>
  have hh := aE5 hs
  refine wpAny_in_of (intEmb.is j u hx) ns (g4.mapOf intEmb g1 g2 g3 hh) ?_
  rcases g4.findBy intEmb hh j with ⟨v, u', e1, e2, _⟩ | ⟨e1, e2⟩
  ·rw [e2]; have := h (s.toks + 1); rw [e1] at this; exact this
  ·rw [e2]; have := h (s.toks + 1); rw [e1] at this; exact this
 | str j =>
  have hh := aN2 hs
  refine wpAny_in_of (strEmb.is j u hx) ns (g4.mapOf strEmb g1 g2 g3 hh) ?_
  rcases g4.findBy strEmb hh j with ⟨v, u', e1, e2, _⟩ | ⟨e1, e2⟩
  ·rw [e2]; have := h (s.toks + 1); rw [e1] at this; exact this
  ·rw [e2]; have := h (s.toks + 1); rw [e1] at this; exact this
 | tup j =>
  have hh := aN1 hs
  refine hide fun G_ g_ => ?_
  obtain ⟨l, p1, p2, p3, p4, p5⟩ := g4.heapKeys hh
  obtain ⟨a, rfl, ka⟩ := aA4 hx
  refine g_ ?_
  clear g_ G_
  refine wpAny_in_heap (knd := tkd W) (xs := l) (k := j) (show A.in1.units < cLine by have := R.cline; simp only [Around.in1_units]; omega) ka ns ⟨o, es, n', g1, g2, g3, p1, p2, eJ p3 g5⟩ ?_
  rcases fA (k := j) p3 p4 with ⟨v, a', u', e1, e2, _⟩ | ⟨e1, e2⟩
  ·rw [e2]; have := h (s.toks + (tkd W).draws j); rw [e1] at this; exact this
  ·rw [e2]; have := h (s.toks + (tkd W).draws j); rw [e1] at this; exact this
theorem bX3 {E : Value -> Shared -> Prop} {Q : Value -> Shared -> Prop} (H : HR W s.heap io m) (R : AR A fs n) {i : Nat} {p : Addr × Addr} {kvs : List (Ky × V)} {e : Nat} (hi : io[i]? = some p) (hm : m[i]? = some (.dict kvs e)) {x : V} {u : Value} (hx : VR W s.heap io x u) {k : Ky} (hk : eB x = some k) (hs : aU k kvs = true) {v : V} (hl : b9 k kvs = some v)
  (h : ∀ u' tk, VR W s.heap io v u' -> Q u' { s with toks := tk }) : wpAny (model W.prog W.w) A (getItem (.ref p.1) u) Q E s := by
 refine hide fun G_ g_ => ?_
 obtain ⟨y_, o, es, n', g1, g2, g3, g4, g5, y_⟩ := H.obj _ _ _ hi hm
 refine g_ ?_
 clear g_ G_
 have hv := aF8 hk
 subst hv
 cases k with
 | int j =>
  have hh := aE5 hs
  rcases g4.findBy intEmb hh j with ⟨v', u', e1, e2, e3⟩ | ⟨e1, e2⟩
  ·rw [hl] at e1; cases e1
   exact wpAny_getItem_of (intEmb.is j u hx) (g4.mapOf intEmb g1 g2 g3 hh) e2 (h _ _ e3)
  ·rw [hl] at e1; cases e1
 | str j =>
  have hh := aN2 hs
  rcases g4.findBy strEmb hh j with ⟨v', u', e1, e2, e3⟩ | ⟨e1, e2⟩
  ·rw [hl] at e1; cases e1
   exact wpAny_getItem_of (strEmb.is j u hx) (g4.mapOf strEmb g1 g2 g3 hh) e2 (h _ _ e3)
  ·rw [hl] at e1; cases e1
 | tup j =>
  have hh := aN1 hs
  refine hide fun G_ g_ => ?_
  obtain ⟨l, p1, p2, p3, p4, p5⟩ := g4.heapKeys hh
  obtain ⟨a, rfl, ka⟩ := aA4 hx
  refine g_ ?_
  clear g_ G_
  rcases fA (k := j) p3 p4 with ⟨v', a', u', e1, e2, e3⟩ | ⟨e1, e2⟩
  ·rw [hl] at e1; cases e1
   exact wpAny_getItem_heap (knd := tkd W) (xs := l) (k := j) (show A.in1.units < cLine by have := R.cline; simp only [Around.in1_units]; omega) ka ⟨o, es, n', g1, g2, g3, p1, p2, eJ p3 g5⟩ e2 (h _ _ e3)
  ·rw [hl] at e1; cases e1
section
variable {h : Heap} {K : Type} [DecidableEq K] {knd : KeyKind W.prog W.w K} {emb : K -> Ky}
theorem ERs.of_pairs (E : Emb knd emb) {es : List DictEntry} {l : List (K × Value)} {kvs : List (Ky × V)} (hk : ∀ e ∈ es, ∃ k, knd.is k e.key = true /\ e.hash = knd.hash k) (hp : Pairs knd es l) (e : kvs.map (·.1) = l.map (fun p => emb p.1))
  (x : VRs W h io (kvs.map (·.2)) (l.map (·.2))) (hv : ∀ k u, emb k ∈ kvs.map (·.1) -> knd.is k u = true -> VR W h io (emb k).val u) : ERs W h io kvs es := by
 induction hp generalizing kvs with
 | nil =>
  have : kvs = [] := by cases kvs with | nil => rfl | cons => simp at e
  subst this; exact .nil
 | @cons en kv es l p1 p2 p3 ih =>
  cases kvs with
  | nil => simp at e
  | cons q kvs =>
   obtain ⟨k', v⟩ := q
   simp only [List.map_cons, List.cons.injEq] at e
   obtain ⟨e1, e2⟩ := e
   refine hide fun G_ g_ => ?_
   obtain ⟨j, j1, j2⟩ := hk en (.head _)
   refine g_ ?_
   clear g_ G_
   have : j = kv.1 := knd.inj _ _ _ j1 p1
   subst this
   obtain ⟨x1, x2⟩ := VRs.cc x
   ·
    refine hide fun G_ g_ => ?_
    obtain ⟨hs, ky, vl⟩ := en
    refine g_ ?_
    clear g_ G_
    simp only at j1 j2 p1 p2
    subst j2 p2
    subst e1
    rw [<- E.hash]
    exact .cons (hv _ _ (by simp) p1) x1 (ih (fun e he => hk e (.tail _ he)) e2 x2 fun k u hm hi => hv k u (by simp only [List.map_cons, List.mem_cons]; exact .inr hm) hi)
theorem cP0 {l : List (K × Value)} {kvs : List (Ky × V)} (E : Emb knd emb) (e : kvs.map (·.1) = l.map fun p => emb p.1) (k : K) : l.any (fun kv => decide (kv.1 = k)) = (b9 (emb k) kvs).isSome := by
 induction l generalizing kvs with
 | nil =>
  have : kvs = [] := by cases kvs with | nil => rfl | cons => simp at e
  subst this; rfl
 | cons p l ih =>
  cases kvs with
  | nil => simp at e
  | cons q kvs =>
   obtain ⟨k', v⟩ := q
   simp only [List.map_cons, List.cons.injEq] at e
   obtain ⟨e1, e2⟩ := e
   subst e1
   by_cases z : p.1 = k
   ·simp [z, b9]
   ·have z' : ¬ emb p.1 = emb k := fun w => z (E.inj _ _ w)
    simp only [List.any_cons, z, decide_false, Bool.false_or, b9, z', if_false]
    exact ih e2
theorem aK4 (E : Emb knd emb) {l : List (K × Value)} {kvs : List (Ky × V)} (e : kvs.map (·.1) = l.map fun p => emb p.1) (x : VRs W h io (kvs.map (·.2)) (l.map (·.2))) (hn : (kvs.map (·.1)).Nodup) (k : K) {v : V} {u : Value} (y : VR W h io v u) :
  (put (emb k) v kvs).map (·.1) = (stored l k u).map (fun p => emb p.1) /\ VRs W h io ((put (emb k) v kvs).map (·.2)) ((stored l k u).map (·.2)) := by
 unfold stored
 rw [cP0 E e k]
 cases q : b9 (emb k) kvs with
 | none =>
  rw [cM q, if_neg (by simp)]
  exact ⟨by simp [e], by simp only [List.map_append, List.map_cons, List.map_nil]; exact x.snoc y⟩
 | some z =>
  rw [cL q hn, if_pos (by rfl)]
  clear q hn
  induction l generalizing kvs with
  | nil =>
   have : kvs = [] := by cases kvs with | nil => rfl | cons => simp at e
   subst this; exact ⟨rfl, .nil⟩
  | cons p l ih =>
   cases kvs with
   | nil => simp at e
   | cons q kvs =>
    obtain ⟨k', v'⟩ := q
    simp only [List.map_cons, List.cons.injEq] at e
    obtain ⟨e1, e2⟩ := e
    subst e1
    obtain ⟨x1, x2⟩ := VRs.cc x
    ·
     obtain ⟨i1, i2⟩ := ih e2 x2
     by_cases w : p.1 = k
     ·have w' : emb p.1 = emb k := by rw [w]
      simp only [List.map_cons, w, w', if_true]
      exact ⟨by rw [i1], .cons y i2⟩
     ·have w' : ¬ emb p.1 = emb k := fun c => w (E.inj _ _ c)
      simp only [List.map_cons, w, w', if_false]
      exact ⟨by rw [i1], .cons x1 i2⟩
end
theorem cI {h h' : Heap} {d : Addr} (hs : Heap.SameBut d h h') : ∀ b o, b ≠ d -> h.get? b = some o -> h'.get? b = some o := fun b y_ hb e => (hs.2 b hb).trans e
theorem eY {fr : List Addr} (H : HR W s.heap io m) {i : Nat} {p : Addr × Addr} {kvs kvs' : List (Ky × V)} {e : Nat} (hi : io[i]? = some p) (hm : m[i]? = some (.dict kvs e)) {h' : Heap} {tk : Nat} (hs : Heap.SameBut p.1 s.heap h')
  {o' : Obj} {es' : Array DictEntry} {n' : Nat} (h1 : h'.get? p.1 = some o') (h2 : o'.ExactDict) (h3 : o'.data = .dict es' n') (h4 : Step own fr s.heap io m h' io (m.set i (.dict kvs' (e + 1))) -> ERs W h' io kvs' es'.toList) (h5 : (kvs'.map (·.1)).Nodup) (h6 : kvs'.length <= lid) :
  NP W own fr s io m (fun y_ y_ (_ _ : Unit) => True) (.ok () (m.set i (.dict kvs' (e + 1)))) () { s with heap := h', toks := tk } := by
 obtain ⟨hpp, y_⟩ := H.obj _ _ _ hi hm
 have hk : ∀ b o, b ≠ p.1 -> b ≠ p.2 -> s.heap.get? b = some o -> h'.get? b = some o := fun b o q y_ ho => cI hs b o q ho
 have hd : ∀ kv ep, MObj.dict kvs e = .dict kv ep -> ∃ kvs2 e2, MObj.dict kvs' (e + 1) = .dict kvs2 e2 /\ ep < e2 := fun kv ep q => by cases q; exact ⟨kvs', e + 1, rfl, by omega⟩
 have st : Step own fr s.heap io m h' io (m.set i (.dict kvs' (e + 1))) := aE4 H hi hm hk ⟨_, h1⟩ ⟨_, hpp ▸ h1⟩ hd
 exact ⟨(), _, io, rfl, st, H.set hi hm hk hd ⟨_, h1⟩ ⟨_, hpp ▸ h1⟩ ⟨hpp, o', es', n', h1, h2, h3, h4 st, h5, h6⟩, trivial, rfl, rfl⟩
theorem aR4 {k : Ky} {v : V} {kvs : List (Ky × V)} {k' : Ky} (h : k' ∈ (put k v kvs).map (·.1)) : k' = k \/ k' ∈ kvs.map (·.1) := by
 induction kvs with
 | nil => simp [put] at h; exact .inl h
 | cons q r ih =>
  simp only [put] at h
  split at h
  ·exact .inr h
  ·simp only [List.map_cons, List.mem_cons] at h
   rcases h with h | h
   ·exact .inr (by simp [h])
   ·rcases ih h with h | h
    ·exact .inl h
    ·exact .inr (by simp only [List.map_cons, List.mem_cons]; exact .inr h)
theorem ERs.key_ok {h : Heap} {kvs : List (Ky × V)} {es : List DictEntry} (x : ERs W h io kvs es) {k : Ky} (hk : k ∈ kvs.map (·.1)) : ∃ u, VR W h io k.val u := by
 induction x using ERs.ind with
 | nil => cases hk
 | cons h1 y_ y_ ih =>
  simp only [List.map_cons, List.mem_cons] at hk
  rcases hk with rfl | hk
  ·exact ⟨_, h1⟩
  ·exact ih hk
theorem bG2 {h : Heap} {j : List (Sum Int Str)} {v : V} {y : Value} (hv : VR W h io v y) : ∀ {l : List TK} {kvs : List (Ky × V)}, l.map (fun p => Ky.tup p.1) = kvs.map (·.1) -> VRs W h io (kvs.map (·.2)) (l.map (·.2.2)) ->
  VRs W h io ((kvs.map fun p => if p.1 = Ky.tup j then (p.1, v) else p).map (·.2)) ((l.map (putAt j y)).map (·.2.2)) := by
 intro l
 induction l with
 | nil => intro kvs p3 _; have : kvs = [] := by { cases kvs with | nil => rfl | cons => simp at p3 }; subst this; exact .nil
 | cons q l ih =>
  intro kvs p3 p4
  cases kvs with
  | nil => simp at p3
  | cons r kvs =>
   obtain ⟨k', v'⟩ := r
   simp only [List.map_cons, List.cons.injEq] at p3
   obtain ⟨z1, z2⟩ := p3
   subst z1
   obtain ⟨x1, x2⟩ := VRs.cc p4
   ·
    simp only [List.map_cons]
    refine .cons ?_ (ih z2 x2)
    by_cases w : q.1 = j
    ·simp only [w, if_true, putAt]; exact hv
    ·have w' : ¬ Ky.tup q.1 = Ky.tup j := fun c => w (ky_t c)
     simp only [w', if_false, putAt, w]; exact x1
theorem bU1 (H : HR W s.heap io m) (R : AR A fs n) {i : Nat} {p : Addr × Addr} {kvs : List (Ky × V)} {e : Nat} (hi : io[i]? = some p) (hm : m[i]? = some (.dict kvs e)) {x v : V} {u y : Value} (hx : VR W s.heap io x u) (hv : VR W s.heap io v y) {k : Ky} (hk : eB x = some k) (hs : aU k kvs = true) (hl : kvs.length < lid) :
  Si W own A fs (fun y_ y_ (_ _ : Unit) => True) (setItem (.ref p.1) u y) s io m (.ok () (m.set i (.dict (put k v kvs) (e + 1)))) := by
 refine hide fun G_ g_ => ?_
 obtain ⟨y_, o, es, n', g1, g2, g3, g4, g5, g6⟩ := H.obj _ _ _ hi hm
 refine g_ ?_
 clear g_ G_
 have hv' := aF8 hk
 subst hv'
 have hl' : (put k v kvs).length <= lid := Nat.le_trans (aK9 kvs) hl
 intro y_
 cases k with
 | int j =>
  have hh := aE5 hs
  refine hide fun G_ g_ => ?_
  obtain ⟨l, l1, l2, l3⟩ := g4.pairs intEmb hh
  refine g_ ?_
  clear g_ G_
  have ll : l.length = kvs.length := by have := congrArg List.length l2; simpa using this
  refine wpAny_setItem_pairs (kvs := l) (intEmb.is j u hx) ⟨o, es, n', g1, g2, g3, fun e he => g4.keysOf intEmb hh e (Array.mem_toList_iff.mpr he), l1, ?_⟩ (fun h' hd hsb => ?_) (aM (by omega))
  ·refine List.Pairwise.of_map (S := (· ≠ ·)) Ky.int (fun a b h e => h (congrArg Ky.int e)) ?_
   rw [List.map_map]
   exact (by rw [<- l2] at g5; exact g5)
  ·refine hide fun G_ g_ => ?_
   obtain ⟨o', es', n2, d1, d2, d3, d4, d5, d6⟩ := hd
   refine g_ ?_
   clear g_ G_
   refine eY H hi hm hsb d1 d2 d3 (fun st => ?_) (aO1 g5) hl'
   obtain ⟨a1, a2⟩ := aK4 (W := W) intEmb l2.symm l3 g5 j hv
   exact ERs.of_pairs intEmb (fun e he => d4 e (Array.mem_toList_iff.mp he)) d5 a1 (a2.step st) fun k u y_ hi => by
    obtain ⟨t, rfl⟩ := Value.isInt_shape (k := k) (v := u) hi; exact .int _ _
 | str j =>
  have hh := aN2 hs
  refine hide fun G_ g_ => ?_
  obtain ⟨l, l1, l2, l3⟩ := g4.pairs strEmb hh
  refine g_ ?_
  clear g_ G_
  have ll : l.length = kvs.length := by have := congrArg List.length l2; simpa using this
  refine wpAny_setItem_pairs (kvs := l) (strEmb.is j u hx) ⟨o, es, n', g1, g2, g3, fun e he => g4.keysOf strEmb hh e (Array.mem_toList_iff.mpr he), l1, ?_⟩ (fun h' hd hsb => ?_) (aM (by omega))
  ·refine List.Pairwise.of_map (S := (· ≠ ·)) Ky.str (fun a b h e => h (congrArg Ky.str e)) ?_
   rw [List.map_map]
   exact (by rw [<- l2] at g5; exact g5)
  ·refine hide fun G_ g_ => ?_
   obtain ⟨o', es', n2, d1, d2, d3, d4, d5, d6⟩ := hd
   refine g_ ?_
   clear g_ G_
   refine eY H hi hm hsb d1 d2 d3 (fun st => ?_) (aO1 g5) hl'
   obtain ⟨a1, a2⟩ := aK4 (W := W) strEmb l2.symm l3 g5 j hv
   exact ERs.of_pairs strEmb (fun e he => d4 e (Array.mem_toList_iff.mp he)) d5 a1 (a2.step st) fun k u hm hi => by
    obtain ⟨t, rfl⟩ := Value.isStrOf_shape (x := k) (v := u) hi
    have : ∃ u, VR W s.heap io (Ky.str k).val u := by
     rcases aR4 hm with q | q
     ·cases q; exact ⟨_, hx⟩
     ·exact g4.key_ok q
    obtain ⟨u', hu⟩ := this
    refine VR.dStr hu fun y_ okk => ?_; exact .str _ _ okk
 | tup j =>
  have hh := aN1 hs
  refine hide fun G_ g_ => ?_
  obtain ⟨l, p1, p2, p3, p4, p5⟩ := g4.heapKeys hh
  obtain ⟨a, rfl, ka⟩ := aA4 hx
  refine g_ ?_
  clear g_ G_
  have ll : l.length = kvs.length := by have := congrArg List.length p3; simpa using this
  have lnd := eJ p3 g5
  refine wpAny_setItem_heap (knd := tkd W) (xs := l) (k := j) (show A.in1.units < cLine by have := R.cline; show A.units + 1 < cLine; omega) ka ⟨o, es, n', g1, g2, g3, p1, p2, lnd⟩ (fun h' hd hsb => ?_) (aM (by omega))
  refine hide fun G_ g_ => ?_
  obtain ⟨o', es', n2, d1, d2, d3, d4, d5, d6⟩ := hd
  refine g_ ?_
  clear g_ G_
  refine eY H hi hm hsb d1 d2 d3 (fun st => ?_) (aO1 g5) hl'
  rw [d4]
  have build : ∀ {l : List TK} {kvs : List (Ky × V)}, l.map (fun p => Ky.tup p.1) = kvs.map (·.1) -> VRs W h' io (kvs.map (·.2)) (l.map (·.2.2)) -> (∀ y ∈ l, VR W h' io (Ky.tup y.1).val (.ref y.2.1)) -> ERs W h' io kvs (l.map (entryOfKey (tkd W))) := by
   intro l
   induction l with
   | nil => intro kvs e x _; have : kvs = [] := by { cases kvs with | nil => rfl | cons => simp at e }; subst this; exact .nil
   | cons q l ih =>
    intro kvs e x y
    cases kvs with
    | nil => simp at e
    | cons r kvs =>
     obtain ⟨k', v'⟩ := r
     simp only [List.map_cons, List.cons.injEq] at e
     obtain ⟨e1, e2⟩ := e
     subst e1
     obtain ⟨x1, x2⟩ := VRs.cc x
     ·exact .cons (y q (.head _)) x1 (ih e2 x2 fun z hz => y z (.tail _ hz))
  rcases fA (k := j) p3 p4 with ⟨v', a', u', e1, e2, e3⟩ | ⟨e1, e2⟩
  ·rw [storedH_old e2, cL e1 g5]
   refine build ?_ ?_ ?_
   ·rw [List.map_map, List.map_map]
    have f1 : ((fun p : TK => Ky.tup p.1) ∘ putAt j y) = fun p : TK => Ky.tup p.1 := by funext q; simp only [Function.comp, putAt]; split <;> rfl
    have f2 : ((fun p : Ky × V => p.1) ∘ fun p : Ky × V => if p.1 = Ky.tup j then (p.1, v) else p) = fun p => p.1 := by funext q; simp only [Function.comp]; split <;> rfl
    rw [f1, f2]; exact p3
   ·exact bG2 (hv.step st) p3 (p4.step st)
   ·intro y' hy'
    refine hide fun G_ g_ => ?_
    obtain ⟨z, hz, rfl⟩ := List.mem_map.mp hy'
    refine g_ ?_
    clear g_ G_
    have := (p5 z hz).step st
    unfold putAt; split <;> exact this
  ·rw [storedH_new e2, cM e1]
   refine build (by simp [p3]) ?_ ?_
   ·simp only [List.map_append, List.map_cons, List.map_nil]
    exact (p4.step st).snoc (hv.step st)
   ·intro y' hy'
    rcases List.mem_append.mp hy' with hy' | hy'
    ·exact (p5 y' hy').step st
    ·rw [List.mem_singleton.mp hy']; exact hx.step st
end
end Mini
namespace Mini
open PySem PySem.W
theorem aC1 {α : Type} {a : α} {C : Prop} (h : (none : Option α) = some a) : C := by cases h
section
variable {W : Wd} {own : List Addr} {A : Around} {fs : List Env} {s : Shared} {io : Io} {m : MH} {n : Nat}
theorem aU0 {f : Nat} {v x : V} {b : Bool} (h : eqX (f + 1) m v x = some b) : (∃ d e, rd dN m v = some d /\ rd dN m x = some e /\ b = PyData.eqv d e) \/ eqN m (eqX f m) v x = some b := by
 have h : (match rd dN m v, rd dN m x with | some a, some c => some (PyData.eqv a c) | _, _ => eqN m (eqX f m) v x) = some b := h
 cases h1 : rd dN m v with
 | none => rw [h1] at h; exact .inr h
 | some d =>
  cases h2 : rd dN m x with
  | none => rw [h1, h2] at h; exact .inr h
  | some e => rw [h1, h2] at h; cases h; exact .inl ⟨d, e, rfl, rfl, rfl⟩
theorem bR5 {g : V -> V -> Option Bool} {x y : V} {xs ys : List V} {b : Bool} (h : bF4 g (x :: xs) (y :: ys) = some b) : ∃ c d, g x y = some c /\ bF4 g xs ys = some d /\ b = (c && d) := by
 have h : (match g x y with | some a => (match bF4 g xs ys with | some b => some (a && b) | none => none) | none => none) = some b := h
 cases h1 : g x y with
 | none => rw [h1] at h; cases h
 | some c =>
  cases h2 : bF4 g xs ys with
  | none => rw [h1, h2] at h; cases h
  | some d => rw [h1, h2] at h; cases h; exact ⟨c, d, rfl, rfl, rfl⟩
inductive EqN (m : MH) (g : V -> V -> Option Bool) (b : Bool) : V -> V -> Prop
 | list {p q : Nat} {xs ys : List V} : m[p]? = some (.list xs) -> m[q]? = some (.list ys) -> p ≠ q -> xs.length = ys.length -> bF4 g xs ys = some b -> EqN m g b (.ref p) (.ref q)
 | dict {p q e e' : Nat} {ks ls : List (Ky × V)} : m[p]? = some (.dict ks e) -> m[q]? = some (.dict ls e') -> p ≠ q -> ks.length = ls.length -> aB3 ks = true -> aB3 ls = true -> aE1 m ls ks = some b -> EqN m g b (.ref p) (.ref q)
theorem bC1 {g : V -> V -> Option Bool} {v x : V} {b : Bool} (h : eqN m g v x = some b) : EqN m g b v x := by
 cases v with
 | ref p =>
  cases x with
  | ref q =>
   have h : (match m[p]? with
    | some (.list xs) => (match m[q]? with | some (.list ys) => (if p ≠ q /\ xs.length = ys.length then bF4 g xs ys else none) | _ => none)
    | some (.dict ks _) => (match m[q]? with | some (.dict ls _) => (if p ≠ q /\ ks.length = ls.length /\ (aB3 ks && aB3 ls) = true then aE1 m ls ks else none) | _ => none)
    | _ => none) = some b := h
   cases mp : m[p]? with
   | none => rw [mp] at h; cases h
   | some o =>
   cases mq : m[q]? with
   | none => rw [mp, mq] at h; cases o <;> cases h
   | some o' =>
   rw [mp, mq] at h
   cases o with
   | inst y_ y_ => cases h
   | list xs =>
    cases o' with
    | inst y_ y_ => cases h
    | dict y_ y_ => cases h
    | list ys =>
     have h : (if p ≠ q /\ xs.length = ys.length then bF4 g xs ys else none) = some b := h
     by_cases e : p ≠ q /\ xs.length = ys.length
     ·rw [if_pos e] at h; exact .list mp mq e.1 e.2 h
     ·rw [if_neg e] at h; cases h
   | dict ks ep =>
    cases o' with
    | inst y_ y_ => cases h
    | list y_ => cases h
    | dict ls ep' =>
     have h : (if p ≠ q /\ ks.length = ls.length /\ (aB3 ks && aB3 ls) = true then aE1 m ls ks else none) = some b := h
     by_cases e : p ≠ q /\ ks.length = ls.length /\ (aB3 ks && aB3 ls) = true
     ·rw [if_pos e] at h; exact .dict mp mq e.1 e.2.1 (Bool.and_eq_true_iff.mp e.2.2).1 (Bool.and_eq_true_iff.mp e.2.2).2 h
     ·rw [if_neg e] at h; cases h
  | _ => exact aC1 h
 | _ => exact aC1 h
theorem bJ9 (H : HR W s.heap io m) : ∀ (f : Nat) {v x : V} {u : Value} {b : Bool}, VR W s.heap io v u -> VR W s.heap io x u -> eqX f m v x = some b -> b = true
 | 0, _, _, _, _, _, _, h => aC1 h
 | f + 1, v, x, u, b, k, l, h => by
  have apart : ∀ {p q : Nat}, p ≠ q -> VR W s.heap io (.ref p) u -> VR W s.heap io (.ref q) u -> b = true := fun e k l => by
   obtain ⟨_, _, rfl, hp⟩ := k; obtain ⟨y_, y_, e', hq⟩ := l; exact absurd (Value.ref.inj e') (H.apart _ _ _ _ e hp hq).1
  rcases aU0 h with ⟨d, e, h1, h2, rfl⟩ | h
  ·obtain ⟨⟨as, r1⟩, c1, y_⟩ := bA H _ _ _ _ h1 k
   obtain ⟨⟨bs, r2⟩, c2, y_⟩ := bA H _ _ _ _ h2 l
   cases SeqAt.Reads.unique _ _ _ _ _ c1 r1 r2
   exact SeqAt.eqv_refl _ c1
  ·cases bC1 h with
   | list y_ y_ e y_ y_ => exact apart e k l
   | dict y_ y_ e y_ y_ y_ y_ => exact apart e k l
theorem cP9 {g : V -> V -> Option Bool} (hg : ∀ {x y : V} {u w : Value} {b : Bool}, VR W s.heap io x u -> VR W s.heap io y w -> g x y = some b -> SeqAt.EqAt A s u w b) : ∀ {xs ys : List V} {us ws : List Value} {b : Bool}, VRs W s.heap io xs us -> VRs W s.heap io ys ws -> bF4 g xs ys = some b ->
  ∃ e : Nat -> Bool, (∀ j (h1 : j < us.length) (h2 : j < ws.length), SeqAt.EqAt A s us[j] ws[j] (e j)) /\ (List.range us.length).all e = b /\ us.length = ws.length := by
 intro xs
 induction xs with
 | nil =>
  intro ys us ws b x1 x2 h
  cases x1
  induction x2 using VRs.elim with
  | nil => cases h; exact ⟨fun y_ => true, fun j h1 => absurd h1 (Nat.not_lt_zero _), rfl, rfl⟩
  | cons y_ y_ => exact aC1 h
 | cons x xs ih =>
  intro ys us ws b x1 x2 h
  refine VRs.dCons x1 fun y_ y_ h1 h2 => ?_
  induction x2 using VRs.elim with
  | nil => exact aC1 h
  | cons k1 k2 =>
   obtain ⟨c, d, e1, e2, rfl⟩ := bR5 h
   obtain ⟨e, q1, q2, q3⟩ := ih h2 k2 e2
   refine ⟨fun j => Nat.rec c (fun j y_ => e j) j, fun j j1 j2 => ?_, ?_, congrArg (· + 1) q3⟩
   ·cases j with
    | zero => exact hg h1 k1 e1
    | succ j => exact q1 j (Nat.lt_of_succ_lt_succ j1) (Nat.lt_of_succ_lt_succ j2)
   ·rw [List.length_cons, List.range_succ_eq_map, List.all_cons, List.all_map, <- q2]; rfl
theorem bC8 {ls : List (Ky × V)} : ∀ {kb : List (Int × Value)}, kb.map (fun p => Ky.int p.1) = ls.map (·.1) -> VRs W s.heap io (ls.map (·.2)) (kb.map (·.2)) -> ∀ k : Int,
  (∃ v u, b9 (.int k) ls = some v /\ valueAt kb k = some u /\ VR W s.heap io v u) \/ (b9 (.int k) ls = none /\ valueAt kb k = none) := by
 induction ls with
 | nil => intro kb e x k; cases kb with
  | nil => exact .inr ⟨rfl, rfl⟩
  | cons y_ y_ => cases e
 | cons q r ih =>
  intro kb e x k
  cases kb with
  | nil => cases e
  | cons q' r' =>
   obtain ⟨k1, v1⟩ := q
   obtain ⟨k2, u2⟩ := q'
   have e1 : Ky.int k2 = k1 := (List.cons.inj e).1
   subst e1
   obtain ⟨x1, x2⟩ := VRs.cc x
   by_cases hk : k2 = k
   ·subst hk
    exact .inl ⟨v1, u2, by simp [b9], by simp [valueAt], x1⟩
   ·have hk' : ¬ Ky.int k2 = Ky.int k := fun e => hk (ky_i e)
    have a1 : b9 (.int k) ((Ky.int k2, v1) :: r) = b9 (.int k) r := if_neg hk'
    have a2 : valueAt ((k2, u2) :: r') k = valueAt r' k := by simp [valueAt, List.find?_cons, hk]
    rw [a1, a2]
    exact ih (List.cons.inj e).2 x2 k
theorem bP5 (H : HR W s.heap io m) (hu : A.units + dN < cLine) {ls : List (Ky × V)} {kb : List (Int × Value)} (e : kb.map (fun p => Ky.int p.1) = ls.map (·.1)) (hv : VRs W s.heap io (ls.map (·.2)) (kb.map (·.2))) :
  ∀ {ks : List (Ky × V)} {ka : List (Int × Value)} {b : Bool}, ka.map (fun p => Ky.int p.1) = ks.map (·.1) -> VRs W s.heap io (ks.map (·.2)) (ka.map (·.2)) -> aE1 m ls ks = some b -> KeqHits A s kb ka b := by
 intro ks
 induction ks with
 | nil => intro ka b e1 x h; cases ka with
  | nil => cases h; exact .nil
  | cons y_ y_ => cases e1
 | cons q r ih =>
  intro ka b e1 x h
  cases ka with
  | nil => cases e1
  | cons q' r' =>
   obtain ⟨k1, v1⟩ := q
   obtain ⟨k2, u2⟩ := q'
   have e2 : Ky.int k2 = k1 := (List.cons.inj e1).1
   subst e2
   obtain ⟨x1, x2⟩ := VRs.cc x
   have h : (match b9 (.int k2) ls with | none => some false | some u => (match rd dN m v1 with | some x => (match rd dN m u with | some y => (match aE1 m ls r with | some b => some (PyData.eqv x y && b) | none => none) | none => none) | none => none)) = some b := h
   rcases bC8 e hv k2 with ⟨v, u, l1, l2, l3⟩ | ⟨l1, l2⟩
   ·rw [l1] at h
    dsimp only at h
    cases h1 : rd dN m v1 with
    | none => rw [h1] at h; cases h
    | some d1 =>
     cases h2 : rd dN m v with
     | none => rw [h1, h2] at h; cases h
     | some d2 =>
      cases h3 : aE1 m ls r with
      | none => rw [h1, h2, h3] at h; cases h
      | some c =>
       rw [h1, h2, h3] at h; cases h
       obtain ⟨⟨as, r1⟩, c1, p1⟩ := bA H _ _ _ _ h1 x1
       obtain ⟨⟨bs, r2⟩, c2, p2⟩ := bA H _ _ _ _ h2 l3
       refine .hit l2 (SeqAt.eqAt_reads _ _ _ _ _ _ _ _ r1 r2 c1 c2 ?_) (ih (List.cons.inj e1).2 x2 h3)
       have : min d1.depth d2.depth <= dN := Nat.le_trans (Nat.min_le_left _ _) p1
       omega
   ·rw [l1] at h; cases h; exact .miss l2
theorem bL4 {p p' : Program} {w w' : World} {es : List DictEntry} {l : List (Int × Value)} (h : Pairs (intKind p w) es l) : Pairs (intKind p' w') es l := by
 induction h with
 | nil => exact .nil
 | cons h1 h2 y_ ih => exact .cons h1 h2 ih
theorem e8 (H : HR W s.heap io m) {k : Nat} {p : Addr × Addr} {kvs : List (Ky × V)} {e : Nat} (hi : io[k]? = some p) (hm : m[k]? = some (.dict kvs e)) (hk : aB3 kvs = true) :
  ∃ l : List (Int × Value), (∀ prog w, s.heap.DictOf (intKind prog w) p.1 l) /\ l.map (fun p => Ky.int p.1) = kvs.map (·.1) /\ VRs W s.heap io (kvs.map (·.2)) (l.map (·.2)) := by
 obtain ⟨y_, o, es, c, h1, h2, h3, h4, h5, h6⟩ := H.obj _ _ _ hi hm
 have hall := aE5 (i := 0) hk
 obtain ⟨l, p1, p2, p3⟩ := h4.pairs intEmb hall
 have nd : (l.map (·.1)).Nodup := by
  have q : ((l.map (·.1)).map Ky.int).Nodup := by rw [List.map_map]; exact (show List.map (fun p => Ky.int p.1) l = _ from p2) ▸ h5
  exact (List.pairwise_map.mp q).imp fun h e => h (congrArg Ky.int e)
 exact ⟨l, fun prog w => ⟨o, es, c, h1, h2, h3, fun e he => h4.keysOf intEmb hall e (Array.mem_toList_iff.mpr he), bL4 p1, nd⟩, p2, p3⟩
structure EqAll (A : Around) (s : Shared) (u y : Value) (b : Bool) : Prop where
 eq : SeqAt.RcAt A s u y b
 ne : SeqAt.RcNeAt A s u y (!b)
theorem bP1 (ok : WOk W) (H : HR W s.heap io m) (hu : A.units + 1 + dN < cLine) {g : V -> V -> Option Bool} (hg : ∀ {x y : V} {u w : Value} {b : Bool}, VR W s.heap io x u -> VR W s.heap io y w -> g x y = some b -> SeqAt.EqAt A.in1 s u w b)
  {v x : V} {u y : Value} {b : Bool} (k : VR W s.heap io v u) (l : VR W s.heap io x y) (h : EqN m g b v x) : EqAll A s u y b := by
 have hA : A.units < cLine := Nat.lt_of_le_of_lt (Nat.le_trans (Nat.le_succ _) (Nat.le_add_right _ _)) hu
 have zips : ∀ {xs ys : List V} {vs vs' : Array Value}, VRs W s.heap io xs vs.toList -> VRs W s.heap io ys vs'.toList -> bF4 g xs ys = some b -> ∃ e : Nat -> Bool, (∀ j (h1 : j < vs.size) (h2 : j < vs'.size), SeqAt.EqAt A.in1 s vs[j] vs'[j] (e j)) /\ (List.range vs.size).all e = b /\ vs.size = vs'.size := fun h4 g4 h => by
  obtain ⟨e, q1, q2, q3⟩ := cP9 hg h4 g4 h
  exact ⟨e, fun j j1 j2 => q1 j j1 j2, q2, q3⟩
 cases h with
 | list mp mq e hl z =>
  refine VR.dRef k fun a d hp => ?_
  refine VR.dRef l fun a' d' hq => ?_
  refine hide fun G_ g_ => ?_
  obtain ⟨y_, vs, c, h1, h4, y_⟩ := H.obj _ _ _ hp mp
  obtain ⟨y_, vs', c', g1, g4, y_⟩ := H.obj _ _ _ hq mq
  obtain ⟨e, he, q2, q3⟩ := zips h4 g4 z
  have r1 := SeqAt.RcAt.lists (e := e) ⟨_, h1, rfl, c, rfl⟩ ⟨_, g1, rfl, c', rfl⟩ q3 hA he
  have r2 := SeqAt.RcNeAt.lists (e := e) ⟨_, h1, rfl, c, rfl⟩ ⟨_, g1, rfl, c', rfl⟩ q3 hA he
  rw [q2] at r1 r2
  exact g_ ⟨r1, r2⟩
 | dict mp mq e hl i1 i2 z =>
  refine VR.dRef k fun a d hp => ?_
  refine VR.dRef l fun a' d' hq => ?_
  have n1 := H.notSys ok ⟨_, List.mem_of_getElem? hp, .inl rfl⟩
  have n2 := H.notSys ok ⟨_, List.mem_of_getElem? hq, .inl rfl⟩
  refine hide fun G_ g_ => ?_
  obtain ⟨ka, d1, d2, d3⟩ := e8 H hp mp i1
  obtain ⟨kb, e1, e2, e3⟩ := e8 H hq mq i2
  have la : ka.length = _ := (List.length_map (fun p => Ky.int p.1)).symm.trans ((congrArg List.length d2).trans (List.length_map _))
  have lb : kb.length = _ := (List.length_map (fun p => Ky.int p.1)).symm.trans ((congrArg List.length e2).trans (List.length_map _))
  have hits := bP5 (A := A.in1) H hu e2 e3 d2 d3 z
  have zz : (ka.length == kb.length && b) = b := by rw [la, lb, hl, beq_self_eq_true, Bool.true_and]
  exact g_ ⟨fun prog w E Q hQ => keq_eq n1 n2 (d1 prog w) (e1 prog w) hA (fun y_ => hits) (zz.symm ▸ hQ), fun prog w E Q hQ => keq_ne n1 n2 (d1 prog w) (e1 prog w) hA (fun y_ => hits) (zz.symm ▸ hQ)⟩
theorem bO9 (ok : WOk W) (H : HR W s.heap io m) : ∀ (f : Nat) {A : Around}, A.units + f + dN + 2 < cLine -> ∀ {v x : V} {u y : Value} {b : Bool}, VR W s.heap io v u -> VR W s.heap io x y -> eqX f m v x = some b -> SeqAt.EqAt A s u y b
 | 0, _, _, _, _, _, _, _, _, _, h => aC1 h
 | f + 1, A, hu, v, x, u, y, b, k, l, h => by
  by_cases hs : u = y
  ·subst hs
   rw [bJ9 H (f + 1) k l h]
   exact SeqAt.EqAt.same u
  ·rcases aU0 h with ⟨d, e, h1, h2, rfl⟩ | h
   ·obtain ⟨⟨as, r1⟩, c1, p1⟩ := bA H _ _ _ _ h1 k
    obtain ⟨⟨bs, r2⟩, c2, p2⟩ := bA H _ _ _ _ h2 l
    refine SeqAt.eqAt_reads _ _ _ _ _ _ _ _ r1 r2 c1 c2 ?_
    have : min d.depth e.depth <= dN := Nat.le_trans (Nat.min_le_left _ _) p1
    omega
   ·have h := bC1 h
    have hq := bP1 (A := A) ok H (by omega) (g := eqX f m) (fun a b c => bO9 ok H f (A := A.in1) (by show A.units + 1 + f + dN + 2 < cLine; omega) a b c) k l h
    have rr : ∀ {a a' : Addr}, u = .ref a -> y = .ref a' -> SeqAt.EqAt A s u y b := fun e1 e2 => by
     subst e1; subst e2
     exact SeqAt.EqAt.of_refs (fun q => hs (by rw [q])) hq.eq
    cases h with
    | list y_ y_ y_ y_ y_ => obtain ⟨_, _, e1, _⟩ := k; obtain ⟨y_, y_, e2, y_⟩ := l; exact rr e1 e2
    | dict y_ y_ y_ y_ y_ y_ y_ => obtain ⟨_, _, e1, _⟩ := k; obtain ⟨y_, y_, e2, y_⟩ := l; exact rr e1 e2
theorem aU1 (v x : V) : (∃ d e, rd dN m v = some d /\ rd dN m x = some e /\ eqV v x m = .ok (PyData.eqv d e) m) \/ (∃ c, eqN m (eqX 8 m) v x = some c /\ eqV v x m = .ok c m) \/ eqV v x m = .bad := by
 have e : eqV v x m = (match rd dN m v, rd dN m x with | some a, some c => .ok (PyData.eqv a c) m | _, _ => (match eqN m (eqX 8 m) v x with | some c => .ok c m | none => .bad)) := rfl
 rw [e]
 have key : (∃ c, eqN m (eqX 8 m) v x = some c /\ (match eqN m (eqX 8 m) v x with | some c => (.ok c m : Res Bool) | none => .bad) = .ok c m) \/ (match eqN m (eqX 8 m) v x with | some c => (.ok c m : Res Bool) | none => .bad) = .bad := by
  cases eqN m (eqX 8 m) v x with
  | none => exact .inr rfl
  | some c => exact .inl ⟨c, rfl, rfl⟩
 cases h1 : rd dN m v with
 | none => exact .inr key
 | some d =>
  cases h2 : rd dN m x with
  | none => exact .inr key
  | some e => exact .inl ⟨d, e, rfl, rfl, rfl⟩
theorem cX4 (ok : WOk W) (H : HR W s.heap io m) (R : AR A fs n) {v x : V} {u y : Value} (k : VR W s.heap io v u) (l : VR W s.heap io x y) :
  Si W own A fs BV (compareOp .Eq u y) s io m (aA2 .Eq v x m) := by
 show Si W own A fs BV (compareOp .Eq u y) s io m (eqV v x m)
 have hc := R.cline
 rcases aU1 (m := m) v x with ⟨d, e, h1, h2, q⟩ | ⟨c, h1, q⟩ | q
 ·rw [q]
  obtain ⟨⟨as, r1⟩, c1, d1⟩ := bA H _ _ _ _ h1 k
  obtain ⟨⟨bs, r2⟩, c2, d2⟩ := bA H _ _ _ _ h2 l
  intro y_
  refine SeqAt.compareEq_reads r1 r2 c1 c2 ?_ ⟨_, m, io, rfl, .refl, H, rfl, .refl _⟩
  have h3 : min d.depth e.depth <= 12 := Nat.le_trans (Nat.min_le_left _ _) d1
  omega
 ·rw [q]
  intro y_
  exact (bP1 (A := A) ok H (by show A.units + 1 + 12 < cLine; omega) (fun a b c => bO9 ok H 8 (A := A.in1) (by show A.units + 1 + 8 + 12 + 2 < cLine; omega) a b c) k l (bC1 h1)).eq _ _ _ _ ⟨_, m, io, rfl, .refl, H, rfl, .refl _⟩
 ·rw [q]; exact Si.bad
theorem cU6 (ok : WOk W) (H : HR W s.heap io m) (R : AR A fs n) {v x : V} {u y : Value} (k : VR W s.heap io v u) (l : VR W s.heap io x y) :
  Si W own A fs BV (compareOp .NotEq u y) s io m (aA2 .NotEq v x m) := by
 show Si W own A fs BV (compareOp .NotEq u y) s io m ((eqV v x m).bind fun c => ret (!c))
 have hc := R.cline
 rcases aU1 (m := m) v x with ⟨d, e, h1, h2, q⟩ | ⟨c, h1, q⟩ | q
 ·rw [q]
  obtain ⟨⟨as, r1⟩, c1, d1⟩ := bA H _ _ _ _ h1 k
  obtain ⟨⟨bs, r2⟩, c2, d2⟩ := bA H _ _ _ _ h2 l
  intro y_
  refine SeqAt.compareNe_reads r1 r2 c1 c2 ?_ ⟨_, m, io, rfl, .refl, H, rfl, .refl _⟩
  have h3 : min d.depth e.depth <= 12 := Nat.le_trans (Nat.min_le_left _ _) d1
  omega
 ·rw [q]
  intro y_
  exact (bP1 (A := A) ok H (by show A.units + 1 + 12 < cLine; omega) (fun a b c => bO9 ok H 8 (A := A.in1) (by show A.units + 1 + 8 + 12 + 2 < cLine; omega) a b c) k l (bC1 h1)).ne _ _ _ _ ⟨_, m, io, rfl, .refl, H, rfl, .refl _⟩
 ·rw [q]; exact Si.bad
end
end Mini
namespace Mini
open PySem
section
variable {W : Wd} {h h' : Heap} {fs : List Env} {s s' : Shared} {io io' : Io} {m m' : MH} {own fr : List Addr} {A : Around} {n : Nat}
theorem bF2 (H : HR W s.heap io m) {i : Nat} {p : Addr × Addr} {kvs : List (Ky × V)} {e : Nat} (hi : io[i]? = some p) (hm : m[i]? = some (.dict kvs e)) (hk : aB3 kvs = true) :
  Si W own A fs (VP W) (call (.builtin "dict.clear") [.ref p.1]) s io m (.ok .none (m.set i (.dict [] (e + 1)))) := by
 refine hide fun G_ g_ => ?_
 obtain ⟨y_, o, es, n', g1, g2, y_⟩ := H.obj _ _ _ hi hm
 obtain ⟨y_, y_, y_, y_, y_, y_, y_, y_, y_, g6⟩ := H.obj _ _ _ hi hm
 obtain ⟨l, l1, l2, l3⟩ := e8 H hi hm hk
 refine g_ ?_
 clear g_ G_
 intro y_
 have ll : l.length = kvs.length := by have := congrArg List.length l2; simpa using this
 refine call_meetsIn PySem.F.slot_dict_clear ⟨_, g1, g2.1⟩ PySem.F.entry_dict_clear (PySem.F.args_dict_clear_1 _) (meets_dict_clear (knd := intKind W.prog W.w) (d := p.1)) ⟨l, l1 _ _, aM (by omega), fun h' hd hsb => ?_⟩
 refine hide fun G_ g_ => ?_
 obtain ⟨o', es', n2, d1, d2, d3, d4, d5, d6⟩ := hd
 have e0 : es'.toList = [] := by cases h : es'.toList with
  | nil => rfl
  | cons a r => rw [h] at d5; cases d5
 obtain ⟨y_, m2, io2, e2, st, H2, y_, sm⟩ := eY (own := own) (fr := frs fs) (tk := s.toks) (kvs' := []) H hi hm hsb d1 d2 d3 (fun st => by rw [e0]; exact .nil) List.nodup_nil (Nat.zero_le _)
 refine g_ ?_
 cases e2
 exact ⟨.none, _, _, rfl, st, H2, .none, sm⟩
end
end Mini
namespace Mini
open PySem PySem.W PyProof.Rows
section
variable {W : Wd} {A : Around} {fs : List Env} {s : Shared} {io : Io} {m : MH}
theorem bP6 (ok : WOk W) (H : HR W s.heap io m) {i : Nat} {p : Addr × Addr} {kvs : List (Ky × V)} {e : Nat} (hi : io[i]? = some p) (hm : m[i]? = some (.dict kvs e)) (hk : aB3 kvs = true) :
  Si W [] A fs (VP W) (call (.type "dict") [.ref p.1]) s io m (alloc (.dict kvs 0) m) := by
 refine hide fun G_ g_ => ?_
 obtain ⟨y_, y_, y_, y_, y_, y_, y_, y_, g5, g6⟩ := H.obj _ _ _ hi hm
 obtain ⟨l, l1, l2, l3⟩ := e8 H hi hm hk
 refine g_ ?_
 clear g_ G_
 intro y_
 have ll : l.length = kvs.length := by have := congrArg List.length l2; simpa using this
 refine kt_call_dict (knd := intKind W.prog W.w) (H.notSys ok ⟨_, List.mem_of_getElem? hi, .inl rfl⟩) (l1 _ _) (aM (by omega)) fun h' hd hsb => ?_
 refine hide fun G_ g_ => ?_
 obtain ⟨o', es', n2, d1, d2, d3, d4, d5, d6⟩ := hd
 refine g_ ?_
 clear g_ G_
 have hkeep : ∀ b o, s.heap.get? b = some o -> h'.get? b = some o := fun b o hb => cI hsb b o (fun q => absurd (Heap.lt_size hb) (by rw [q]; exact Nat.lt_irrefl _)) (aN _ b o hb)
 have st : Step [] (frs fs) s.heap io m h' (io ++ [(s.heap.objs.size, s.heap.objs.size)]) (m ++ [.dict kvs 0]) := dJ H hkeep (aP _) (aP _)
 refine ⟨_, _, _, rfl, st, H.alloc hkeep (aP _) (aP _) ⟨rfl, o', es', n2, d1, d2, d3, ?_, g5, g6⟩, .ref (d := s.heap.objs.size) ?_, rfl, rfl⟩
 ·exact ERs.of_pairs intEmb (fun e he => d4 e (Array.mem_toList_iff.mp he)) d5 l2.symm (l3.step st) fun k u y_ hi => by
   obtain ⟨t, rfl⟩ := Value.isInt_shape (k := k) (v := u) hi; exact .int _ _
 ·rw [<- H.len]; simp
end
end Mini
namespace Mini
open PySem
section
variable {W : Wd} {own : List Addr} {A : Around} {fs : List Env} {s : Shared} {io : Io} {m : MH} {n : Nat}
set_option tactic.hygienic true in
theorem cD1 (ok : WOk W) (H : HR W s.heap io m) (R : AR A fs n) {v x : V} {u y : Value} (k : VR W s.heap io v u) (l : VR W s.heap io x y) :
  Si W own A fs BV (compareOp .In u y) s io m (inV v x m) := by
 have hc := R.cline
 unfold inV
 split
 ·refine VR.dTup l fun y_ y_ y_ g1 g2 => ?_
  split
  ·rename_i ds d h1 h2
   refine hide fun G_ g_ => ?_
   obtain ⟨⟨as, r1⟩, c1, d1⟩ := cP (bA H _) _ _ _ h1 g2
   obtain ⟨⟨bs, r2⟩, c2, d2⟩ := bA H _ _ _ _ h2 k
   refine g_ ?_
   clear g_ G_
   intro y_
   refine SeqAt.in_tuple_reads (.tuple g1 rfl rfl r1) r2 c1 c2 ?_ ⟨_, m, io, rfl, .refl, H, rfl, .refl _⟩
   have h3 : min (PyData.depthAll ds) d.depth <= 12 := Nat.le_trans (Nat.min_le_left _ _) d1
   omega
  ·exact Si.bad
 ·refine VR.dStr l fun t okk => ?_
  split
  ·rename_i z
   refine VR.dStr k fun t' okz => ?_
   split
   ·rename_i c hz
    have e : z = ⟨#[c]⟩ := by
     obtain ⟨⟨z'⟩⟩ := z
     simp only at hz
     subst hz; rfl
    subst e
    intro y_
    refine P.in_str ?_
    rw [StrLaws.found_one]
    exact ⟨_, m, io, rfl, .refl, H, rfl, .refl _⟩
   ·exact Si.bad
  ·exact Si.bad
 ·refine VR.dRef l fun y_ y_ g1 => ?_
  split
  ·rename_i ys hy
   refine hide fun G_ g_ => ?_
   obtain ⟨y_, vs, n', a1, a2, y_⟩ := H.obj _ _ _ g1 hy
   refine g_ ?_
   clear g_ G_
   split
   ·rename_i ds d h1 h2
    refine hide fun G_ g_ => ?_
    obtain ⟨⟨as, r1⟩, c1, d1⟩ := cP (bA H _) _ _ _ h1 a2
    obtain ⟨⟨bs, r2⟩, c2, d2⟩ := bA H _ _ _ _ h2 k
    refine g_ ?_
    clear g_ G_
    intro y_
    refine SeqAt.in_list_reads (.list a1 rfl rfl r1) r2 c1 c2 ?_ ⟨_, m, io, rfl, .refl, H, rfl, .refl _⟩
    have h3 : min (PyData.depthAll ds) d.depth <= 12 := Nat.le_trans (Nat.min_le_left _ _) d1
    omega
   ·exact Si.bad
  ·rename_i kvs e hy
   split
   ·rename_i ky hk
    split
    ·rename_i hs
     exact fun y_ => cM2 ok H R g1 hy k hk hs fun tk => ⟨_, m, io, rfl, .refl, H, rfl, rfl, rfl⟩
    ·exact Si.bad
   ·exact Si.bad
  ·exact Si.bad
 ·exact Si.bad
theorem aP5 (ok : WOk W) (H : HR W s.heap io m) (R : AR A fs n) {op : CmpOp} {v x : V} {u y : Value} (k : VR W s.heap io v u) (l : VR W s.heap io x y) :
  Si W own A fs BV (compareOp op u y) s io m (aA2 op v x m) := by
 cases op with
 | Eq => exact cX4 ok H R k l
 | NotEq => exact cU6 ok H R k l
 | In => exact cD1 ok H R k l
 | NotIn => exact (cD1 ok H R k l).not fun y_ y_ h => aW9 h
 | Is => exact Si.bad
 | IsNot => exact Si.bad
 | Lt =>
  simp only [aA2]
  split
  ·cases k; cases l; exact fun y_ => P.lt_int ⟨_, m, io, rfl, .refl, H, rfl, rfl, rfl⟩
  ·exact Si.bad
 | LtE =>
  simp only [aA2]
  split
  ·cases k; cases l; exact fun y_ => P.le_int ⟨_, m, io, rfl, .refl, H, rfl, rfl, rfl⟩
  ·exact Si.bad
 | Gt =>
  simp only [aA2]
  split
  ·cases k; cases l; exact fun y_ => P.gt_int ⟨_, m, io, rfl, .refl, H, rfl, rfl, rfl⟩
  ·exact Si.bad
 | GtE =>
  simp only [aA2]
  split
  ·cases k; cases l; exact fun y_ => P.ge_int ⟨_, m, io, rfl, .refl, H, rfl, rfl, rfl⟩
  ·exact Si.bad
set_option tactic.hygienic true in
theorem cE4 {α : Type} {xs : List α} {i : Int} {v : α} (h : at_ xs i = some v) : ∃ k, seqIndex? i xs.length = some k /\ xs[k]? = some v := by
 unfold at_ at h
 unfold seqIndex?
 split at h
 ·rename_i h0
  have hlt := (List.getElem?_eq_some_iff.mp h).1
  refine ⟨i.toNat, ?_, h⟩
  simp only [show ¬ i < 0 by omega, if_false]
  rw [if_pos]
  simp only [Bool.and_eq_true, decide_eq_true_eq]; omega
 ·split at h
  ·rename_i h0 h1
   have hlt := (List.getElem?_eq_some_iff.mp h).1
   refine ⟨(i + xs.length).toNat, ?_, h⟩
   simp only [show i < 0 by omega, if_true]
   rw [if_pos]
   simp only [Bool.and_eq_true, decide_eq_true_eq]; omega
  ·cases h
set_option tactic.hygienic true in
theorem aW0 (slice : Expr) (o i : Value) : ∃ ops, subscripted slice false o i = operate ops (getItem o i) := by
 cases slice <;> first | (exact ⟨_, rfl⟩) | skip
 rename_i st _
 cases st <;> exact ⟨_, rfl⟩
theorem aB9 {value slice : Expr} {u y : Value} {T id : String} {α : Type} {P : Heap -> Io -> α -> Value -> Prop} {R : Res α} (x : Si W own A fs P (getItem u y) s io m R) (hT : s.TypeIs u T) (hl : typeLookup (.type T) "__getitem__" = pure (some (.builtin id))) :
  Si W own A fs P (PyProof.Rows.subscriptTail value slice u y) s io m R := by
 intro hne
 obtain ⟨ops, e⟩ := aW0 slice u y
 exact PyProof.Rows.tail_any hT hl (x hne) e
theorem VRs.get_arr {h : Heap} {xs : List V} {vs : Array Value} (x : VRs W h io xs vs.toList) {k : Nat} {v : V} (hk : xs[k]? = some v) : ∃ u, vs[k]? = some u /\ VR W h io v u := by
 refine hide fun G_ g_ => ?_
 obtain ⟨u, e, r⟩ := x.get hk
 refine g_ ?_
 clear g_ G_
 exact ⟨u, by rw [<- Array.getElem?_toList]; exact e, r⟩
theorem VRs.size {h : Heap} {xs : List V} {vs : Array Value} (x : VRs W h io xs vs.toList) : vs.size = xs.length := by
 have := x.length; rw [Array.length_toList] at this; exact this
theorem aQ7 {x : Str} {c k : Nat} (ok : PyData.strOk x = true) (h : x.cps[k]? = some c) : PyData.strOk ⟨#[c]⟩ = true := by
 unfold PyData.strOk at *
 have := Array.all_eq_true.mp ok k (Array.getElem?_eq_some_iff.mp h).1
 rw [(Array.getElem?_eq_some_iff.mp h).2] at this
 simpa using this
set_option tactic.hygienic true in
theorem cM4 (H : HR W s.heap io m) (R : AR A fs n) {value slice : Expr} {v x : V} {u y : Value} (k : VR W s.heap io v u) (l : VR W s.heap io x y) :
  Si W own A fs (VP W) (PyProof.Rows.subscriptTail value slice u y) s io m (aI8 v x m) := by
 unfold aI8
 split
 ·rename_i xs
  refine VR.dTup k fun a vs n' g1 g2 => ?_
  split
  ·rename_i k
   cases l
   split
   ·rename_i hk
    cases q : at_ xs k with
    | none => exact Si.bad
    | some z =>
     refine hide fun G_ g_ => ?_
     obtain ⟨j, e1, e2⟩ := cE4 q
     obtain ⟨z', f1, f2⟩ := g2.get_arr e2
     refine g_ ?_
     clear g_ G_
     refine aB9 (T := "tuple") (fun y_ => P.getItem_tuple g1 (by omega) (by omega) (by rw [g2.size]; exact e1) f1 (a9 (tk := s.toks) H f2)) ⟨_, g1, rfl⟩ F.slot_tuple_getitem.lookup
   ·exact Si.bad
  ·exact Si.bad
 ·rename_i z
  refine VR.dStr k fun t okz => ?_
  split
  ·rename_i k
   cases l
   split
   ·rename_i hk
    cases q : at_ z.cps.toList k with
    | none => exact Si.bad
    | some c =>
     refine hide fun G_ g_ => ?_
     obtain ⟨j, e1, e2⟩ := cE4 q
     refine g_ ?_
     clear g_ G_
     rw [Array.getElem?_toList] at e2
     refine aB9 (T := "str") (fun y_ => P.getItem_str (c := c) (by simp; omega) ?_ (a9 H (.str _ _ (aQ7 okz e2)))) rfl F.slot_str_getitem.lookup
     rw [Array.length_toList] at e1
     show (seqIndex? k z.cps.size).bind _ = _
     rw [e1]; exact e2
   ·exact Si.bad
  ·exact Si.bad
 ·refine VR.dRef k fun y_ y_ g1 => ?_
  split
  ·rename_i xs hx
   refine hide fun G_ g_ => ?_
   obtain ⟨y_, vs, n', a1, a2, a3⟩ := H.obj _ _ _ g1 hx
   refine g_ ?_
   clear g_ G_
   split
   ·rename_i k
    cases l
    split
    ·rename_i hk
     cases q : at_ xs k with
     | none => exact Si.bad
     | some z =>
      refine aB9 (T := "list") (fun y_ => ?_) ⟨_, a1, rfl⟩ slot_list_getitem.lookup
      unfold at_ at q
      split at q
      ·rename_i h0
       refine hide fun G_ g_ => ?_
       obtain ⟨z', f1, f2⟩ := a2.get_arr q
       refine g_ ?_
       clear g_ G_
       exact wpAny_getItem_list ⟨_, a1, rfl, _, rfl⟩ h0 (by omega) f1 (a9 (tk := s.toks) H f2)
      ·split at q
       ·rename_i h0 h1
        refine hide fun G_ g_ => ?_
        obtain ⟨z', f1, f2⟩ := a2.get_arr q
        refine g_ ?_
        clear g_ G_
        exact wpAny_getItem_list_neg ⟨_, a1, rfl, _, rfl⟩ (by omega) (by rw [a2.size]; omega) (by omega) (by rw [a2.size]; exact f1) (a9 (tk := s.toks) H f2)
       ·cases q
    ·exact Si.bad
   ·exact Si.bad
  ·rename_i kvs e hx
   refine hide fun G_ g_ => ?_
   obtain ⟨y_, o, es, n', a1, a2, a3, y_⟩ := H.obj _ _ _ g1 hx
   refine g_ ?_
   clear g_ G_
   split
   ·rename_i ky hk
    split
    ·rename_i hs
     cases q : b9 ky kvs with
     | none => exact Si.bad
     | some z =>
      exact aB9 (T := "dict") (fun y_ => bX3 H R g1 hx l hk hs q fun u' tk hu => a9 H hu) ⟨_, a1, a2.1⟩ slot_dict_getitem.lookup
    ·exact Si.bad
   ·exact Si.bad
  ·exact Si.bad
 ·rename_i ns
  refine VR.dScr k fun l' o vs n' h1 h2 h3 h4 h5 => ?_
  split
  ·rename_i k
   cases l
   split
   ·rename_i hk
    cases q : (ns[k.toNat]?).map V.int with
    | none => exact Si.bad
    | some z =>
     have q' : (ns.map V.int)[k.toNat]? = some z := by rw [List.getElem?_map]; exact q
     refine hide fun G_ g_ => ?_
     obtain ⟨z', f1, f2⟩ := (h4.vrs (W := W) (h := s.heap) (io := io)).get_arr q'
     refine g_ ?_
     clear g_ G_
     have hlt : k.toNat < ns.length := by have := (List.getElem?_eq_some_iff.mp q').1; simpa using this
     refine aB9 (T := "list") (fun y_ => wpAny_getItem_list ⟨_, H.keep _ _ h1, h2, _, h3⟩ hk (by rw [aS3] at h5; omega) f1 (a9 (tk := s.toks) H f2)) ⟨_, H.keep _ _ h1, h2⟩ slot_list_getitem.lookup
   ·exact Si.bad
  ·exact Si.bad
 ·exact Si.bad
end
end Mini
namespace Mini
open PySem
theorem bP8 {h l n : Nat} (e : h - l = n) (k : h <= n) : l = 0 /\ h = n \/ n = 0 := by omega
theorem bU5 {α : Type} (xs : List α) (a : Nat) : ∀ c, (List.range c).filterMap (fun k => xs[a + k]?) = (xs.drop a).take c := by
 intro c
 induction c with
 | zero => simp
 | succ c ih =>
  rw [List.range_succ, List.filterMap_append, ih, List.take_add_one]
  congr 1
  rw [List.getElem?_drop, List.filterMap_cons, List.filterMap_nil]
  cases xs[a + c]? <;> rfl
theorem bK1 {α : Type} (xs : List α) {a b : Nat} (hb : b <= xs.length) : (List.range (b - a)).filterMap (fun k => xs[a + k]?) = (xs.take b).drop a := by
 rw [bU5, List.drop_take]
noncomputable def cC5 (n : Nat) (lo : Option Int) : Nat := match lo with | some i => cY n i | Option.none => 0
noncomputable def aO8 (n : Nat) (hi : Option Int) : Nat := match hi with | some i => cY n i | Option.none => n
theorem aD4 {α : Type} (xs : List α) (lo hi : Option Int) : cut xs lo hi = (xs.take (aO8 xs.length hi)).drop (cC5 xs.length lo) := rfl
theorem aO7 (n : Nat) (hi : Option Int) : aO8 n hi <= n := by
 unfold aO8 cY; split
 ·split <;> omega
 ·exact Nat.le_refl _
theorem cO2 (n : Nat) (i : Int) : (max 0 (min (if i < 0 then i + n else i) (n : Int))) = (cY n i : Int) := by
 unfold cY
 by_cases h : 0 <= i
 ·rw [if_neg (Int.not_lt.mpr h), if_pos h]
  rcases Int.le_total i (n : Int) with z | z
  ·rw [Int.min_eq_left z, Int.max_eq_right h, Nat.min_eq_left (Int.toNat_le.mpr z), Int.toNat_of_nonneg h]
  ·rw [Int.min_eq_right z, Int.max_eq_right (Int.natCast_nonneg n), Nat.min_eq_right ((Int.le_toNat h).mpr z)]
 ·have h' : i < 0 := Int.not_le.mp h
  rw [if_pos h', if_neg h, Int.min_eq_left (Int.le_of_lt (by have := Int.add_lt_add_right h' (n : Int); rwa [Int.zero_add] at this)), Int.toNat_eq_max, Int.max_comm]
theorem aU4 (lo hi : Option Int) (n : Nat) : sliceBounds lo hi none n = ((cC5 n lo : Int), (aO8 n hi : Int), 1) := by
 unfold sliceBounds cC5 aO8
 cases lo <;> cases hi <;> simp [cO2]
theorem aR2 (a b : Nat) : sliceRange (a : Int) (b : Int) 1 = (List.range (b - a)).map fun k => a + k := by
 unfold sliceRange
 have e : (if (1 : Int) > 0 then (if (a : Int) < b then ((b : Int) - a + 1 - 1) / 1 else 0) else (if (a : Int) > b then ((a : Int) - b - 1 - 1) / (-1) else 0)).toNat = b - a := by
  rw [if_pos (by decide)]
  by_cases h : (a : Int) < b
  ·rw [if_pos h, Int.ediv_one, Int.add_sub_cancel]; exact Int.toNat_sub b a
  ·rw [if_neg h]; exact (Nat.sub_eq_zero_of_le (Int.ofNat_le.mp (Int.not_lt.mp h))).symm
 simp only [e]
 refine List.map_congr_left fun k y_ => by omega
theorem bU6 (items : Array Value) (lo hi : Option Int) : (slicePick items lo hi none).toList = cut items.toList lo hi := by
 unfold slicePick
 rw [aU4, aD4]
 simp only [aR2, List.filterMap_map]
 rw [Array.length_toList]
 rw [<- bK1 items.toList (b := aO8 items.size hi) (a := cC5 items.size lo) (by rw [Array.length_toList]; exact aO7 _ _)]
 congr 1
 funext k
 simp only [Function.comp, Array.getElem?_toList]
set_option tactic.hygienic true in
theorem cH3 (x : Str) (t : Tok) (l u : Option (Int × Tok)) {Q : Value -> Shared -> Prop} {s : Shared} (h : ∀ t' tk, Q (.str ⟨(cut x.cps.toList (l.map (·.1)) (u.map (·.1))).toArray⟩ t') { s with toks := tk }) (hsz : x.length <= sizeLine) : (sliceMade x t l u none).post Q s := by
 have e1 : slicePicked x l u none = (List.range (aO8 x.length (u.map (·.1)) - cC5 x.length (l.map (·.1)))).map fun k => cC5 x.length (l.map (·.1)) + k := by
  unfold slicePicked
  have : Builtin.Str.strSliceIndices (l.map (·.1)) (u.map (·.1)) ((Option.map (·.1) (none : Option (Int × Tok))).getD 1) x.length = sliceRange (sliceBounds (l.map (·.1)) (u.map (·.1)) none x.length).1 (sliceBounds (l.map (·.1)) (u.map (·.1)) none x.length).2.1 1 := by
   cases l <;> cases u <;> rfl
  rw [this, aU4]
  exact aR2 _ _
 have e2 : (slicePicked x l u none).filterMap (x.cps[·]?) = cut x.cps.toList (l.map (·.1)) (u.map (·.1)) := by
  rw [e1, List.filterMap_map, aD4, Array.length_toList]
  rw [<- bK1 x.cps.toList (b := aO8 x.cps.size (u.map (·.1))) (a := cC5 x.cps.size (l.map (·.1))) (by rw [Array.length_toList]; exact aO7 _ _)]
  refine congrArg (fun f => List.filterMap f _) ?_
  funext k
  simp only [Function.comp, Array.getElem?_toList]
  rfl
 unfold sliceMade
 split
 ·rename_i hc
  have hlen : (slicePicked x l u none).length = x.length := by simpa using hc
  have : cut x.cps.toList (l.map (·.1)) (u.map (·.1)) = x.cps.toList := by
   rw [aD4, Array.length_toList]
   rw [e1] at hlen
   simp only [List.length_map, List.length_range] at hlen
   have h1 := aO7 x.length (u.map (·.1))
   have h2 : cC5 x.cps.size (l.map (·.1)) = 0 /\ aO8 x.cps.size (u.map (·.1)) = x.cps.size \/ x.cps.size = 0 := by
    exact bP8 hlen h1
   rcases h2 with ⟨h2, h3⟩ | h2
   ·rw [h2, h3, <- Array.length_toList, List.drop_zero, List.take_length]
   ·have : x.cps.toList = [] := List.eq_nil_of_length_eq_zero (by rw [Array.length_toList]; exact h2)
    rw [this]; simp
  have h' := h t s.toks
  rw [this] at h'
  exact h'
 ·rw [e2]
  refine ⟨?_, h _ _⟩
  show (cut x.cps.toList (l.map (·.1)) (u.map (·.1))).toArray.size <= sizeLine
  rw [List.size_toArray, aD4, List.length_drop, List.length_take, Array.length_toList]
  exact Nat.le_trans (Nat.sub_le _ _) (Nat.le_trans (Nat.min_le_right _ _) hsz)
section
variable {W : Wd} {own : List Addr} {A : Around} {fs : List Env} {s : Shared} {io : Io} {m : MH} {n : Nat}
theorem VRs.cut {h : Heap} {xs : List V} {vs : List Value} (x : VRs W h io xs vs) (lo hi : Option Int) : VRs W h io (Mini.cut xs lo hi) (Mini.cut vs lo hi) := by
 rw [aD4, aD4, x.length]; exact (x.take _).drop _
theorem bE8 {α : Type} (xs : List α) (lo hi : Option Int) : (Mini.cut xs lo hi).length <= xs.length := by
 rw [aD4, List.length_drop, List.length_take]; exact Nat.le_trans (Nat.sub_le _ _) (Nat.min_le_right _ _)
theorem bI8 {x : Str} (ok : PyData.strOk x = true) (lo hi : Option Int) : PyData.strOk ⟨(Mini.cut x.cps.toList lo hi).toArray⟩ = true := by
 unfold PyData.strOk at *
 rw [List.all_toArray, List.all_eq_true]
 intro c hc
 rw [aD4] at hc
 have := List.mem_of_mem_take (List.mem_of_mem_drop hc)
 exact Array.all_eq_true_iff_forall_mem.mp ok c (Array.mem_toList_iff.mp this)
theorem aW7 {v : V} {u : Value} {o : Option Int} (k : VR W s.heap io v u) (h : aE2 v = some o) : IsPart u o := by
 unfold aE2 at h
 split at h
 ·cases h; cases k; exact .none
 ·cases k
  split at h
  ·cases h; exact .int _ _
  ·cases h
 ·cases h
theorem aK7 {value slice : Expr} {u y : Value} {T id : String} {α : Type} {P : Heap -> Io -> α -> Value -> Prop} {R : Res α} (hT : s.TypeIs u T) (hl : typeLookup (.type T) "__getitem__" = pure (some (.builtin id)))
  (x : wpAny (model W.prog W.w) A (getItem u y) (NP W own (frs fs) s io m P R) (XP W own fs s io m R) s) : Si W own A fs P (PyProof.Rows.subscriptTail value slice u y) s io m R := aB9 (fun y_ => x) hT hl
theorem aR7 {v : V} {u : Value} {o : Option Int} (k : VR W s.heap io v u) (h : aE2 v = some o) : ∃ q : Option (Int × Tok), u = partValue q /\ q.map (·.1) = o := by
 cases aW7 k h with
 | none => exact ⟨none, rfl, rfl⟩
 | int i t => exact ⟨some (i, t), rfl, rfl⟩
theorem aG1 {α : Type} {xs l : List α} {lo hi : V} (h : eF xs lo hi .none = some l) : ∃ a b, aE2 lo = some a /\ aE2 hi = some b /\ l = Mini.cut xs a b := by
 have h : (match aE2 lo, aE2 hi with | some a, some b => some (cut xs a b) | _, _ => none) = some l := h
 cases h1 : aE2 lo with
 | none => rw [h1] at h; cases h
 | some a =>
  cases h2 : aE2 hi with
  | none => rw [h1, h2] at h; cases h
  | some b => rw [h1, h2] at h; cases h; exact ⟨a, b, rfl, rfl, rfl⟩
set_option tactic.hygienic true in
theorem bJ7 (H : HR W s.heap io m) {value slice : Expr} {v lo hi st : V} {u ul uh us : Value} {sl : Addr} (k : VR W s.heap io v u) (kl : VR W s.heap io lo ul) (kh : VR W s.heap io hi uh) (ks : VR W s.heap io st us) (hs : s.heap.IsSliceOf sl ul uh us) :
  Si W own A fs (VP W) (PyProof.Rows.subscriptTail value slice u (.ref sl)) s io m (aA8 v lo hi st m) := by
 unfold aA8
 split
 ·rename_i z
  refine VR.dStr k fun t okz => ?_
  split
  ·cases ks
   split
   ·rename_i hl
    cases q : eF z.cps.toList lo hi .none with
    | none => exact Si.bad
    | some l =>
     refine hide fun G_ g_ => ?_
     obtain ⟨a, b, h1, h2, rfl⟩ := aG1 q
     obtain ⟨ql, rfl, rfl⟩ := aR7 kl h1
     obtain ⟨qh, rfl, rfl⟩ := aR7 kh h2
     refine g_ ?_
     clear g_ G_
     refine aK7 (T := "str") rfl F.slot_str_getitem.lookup ?_
     refine hide fun G_ g_ => ?_
     obtain ⟨o, ho, hc, hd⟩ := hs
     refine g_ ?_
     clear g_ G_
     refine wpAny_getItem_str_slice (l := ql) (u := qh) (st := none) ⟨o, ho, hc, hd⟩ (by decide) ?_
     exact cH3 z t ql qh (fun t' tk => a9 H (.str _ _ (bI8 okz _ _))) (aM hl)
   ·exact Si.bad
  ·exact Si.bad
 ·rename_i ns
  refine VR.dScr k fun l' o vs n' h1 h2 h3 h4 h5 => ?_
  split
  ·cases ks
   cases q : eF (ns.map V.int) lo hi .none with
   | none => exact Si.bad
   | some l =>
    refine hide fun G_ g_ => ?_
    obtain ⟨a, b, e1, e2, rfl⟩ := aG1 q
    refine g_ ?_
    clear g_ G_
    have ll : vs.size = ns.length := by have := h4.length; rw [Array.length_toList] at this; exact this
    refine aK7 (T := "list") ⟨_, H.keep _ _ h1, h2⟩ slot_list_getitem.lookup ?_
    refine wpAny_getItem_list_slice ⟨_, H.keep _ _ h1, h2, _, h3⟩ hs (aW7 kl e1) (aW7 kh e2) .none (by simp) (aW8 H ?_ ?_) (aM (by omega))
    ·rw [bU6]; exact h4.vrs.cut _ _
    ·exact Nat.le_trans (bE8 _ _ _) (by simpa using h5)
  ·exact Si.bad
 ·exact Si.bad
end
end Mini
namespace Mini
open PySem PySem.W
structure Sit (W : Wd) (fs : List Env) (env : Env) (vis : List (Option Str)) (s : Shared) (io : Io) (m : MH) (r : Lo) : Prop where
 H : HR W s.heap io m
 F : FR W s.heap io env vis r
 G : FF W s.heap io fs
section
variable {W : Wd} {fs : List Env} {env : Env} {vis : List (Option Str)} {s s' : Shared} {io io' : Io} {m m' : MH} {r : Lo} {fr : List Addr} {A : Around} {n : Nat}
theorem Sit.step (Z : Sit W fs env vis s io m r) (H : HR W s'.heap io' m') (st : Step [] fr s.heap io m s'.heap io' m') : Sit W fs env vis s' io' m' r := ⟨H, Z.F.step0 Z.H st, Z.G.step0 st⟩
noncomputable def SiE (W : Wd) (A : Around) (fs : List Env) (env : Env) (vis : List (Option Str)) (t : Sem Value) (c : Lo -> Mn V) : Prop :=
 ∀ (s : Shared) (io : Io) (m : MH) (r : Lo), Sit W fs env vis s io m r -> Si W [] A fs (VP W) t s io m (c r m)
noncomputable def SiB (W : Wd) (A : Around) (fs : List Env) (env : Env) (vis : List (Option Str)) (t : Sem Bool) (c : Lo -> Mn Bool) : Prop :=
 ∀ (s : Shared) (io : Io) (m : MH) (r : Lo), Sit W fs env vis s io m r -> Si W [] A fs BP t s io m (c r m)
noncomputable def SiL (W : Wd) (A : Around) (fs : List Env) (env : Env) (vis : List (Option Str)) (t : Sem (List Value)) (c : Lo -> Mn (List V)) : Prop :=
 ∀ (s : Shared) (io : Io) (m : MH) (r : Lo), Sit W fs env vis s io m r -> Si W [] A fs (VsP W) t s io m (c r m)
variable {a b c : Expr} {pos : Pos} {ca cb cc : Lo -> Mn V}
theorem bP4 {v : Lt} {k : Const} {j : Nat} (h : (match v, k with | .none, .none => true | .bool b, .bool d => b == d | .int i, .int j => i == j | .str x, .str y => x == y && PyData.strOk x | _, _ => false) = true) : SiE W A fs env vis (eval (.Constant k j pos) env) (fun y_ => ret v.val) := by
 intro s io m r Z
 cases v <;> cases k <;> first | (exact absurd h Bool.false_ne_true) | skip
 ·exact fun y_ => wpAny_Constant_none (a9 (tk := s.toks) Z.H .none)
 ·rw [beq_iff_eq.mp h]
  exact fun y_ => wpAny_Constant_bool (a9 (tk := s.toks) Z.H (.bool _))
 ·rw [beq_iff_eq.mp h]
  exact fun y_ => wpAny_Constant_int (a9 Z.H (.int _ _))
 ·simp only [Bool.and_eq_true, beq_iff_eq] at h
  rw [<- h.1]
  exact fun y_ => wpAny_Constant_str (a9 Z.H (.str _ _ h.2))
theorem e_var {i : Nat} {x : Str} (hv : vis[i]? = some (some x)) (hk : env.kindOf x = some .local \/ env.kindOf x = some .cell \/ env.kindOf x = some .free) (hd : (x == ("__debug__" : Str)) = false) (hc : (x == ("__classdict__" : Str)) = false) :
    SiE W A fs env vis (eval (.Name x pos) env) (fun r => match r[i]? with | some (some v) => ret v | _ => bad) := by
  intro s io m r Z
  have key : ∀ o : Option (Option V), r[i]? = o -> Si W [] A fs (VP W) (eval (.Name x pos) env) s io m ((match o with | some (some v) => ret v | _ => bad : Mn V) m) := by
   intro o hr
   match o, hr with
   | none, _ => exact .bad
   | some none, _ => exact .bad
   | some (some v), hr =>
    intro y_
    refine wpAny_Name ?_ hd
    rcases hk with hk | hk | hk
    · refine hide fun G_ g_ => ?_
      obtain ⟨mp, hn, hl⟩ := Z.F.loc
      obtain ⟨u, e, k⟩ := hl i x v hv hr hk
      refine g_ ?_
      clear g_ G_
      exact wpAny_loadName_local Z.F.kind hk hn e (a9 (tk := s.toks) Z.H k)
    · refine hide fun G_ g_ => ?_
      obtain ⟨c, u, e, k1, k2⟩ := Z.F.cel i x v hv hr (.inl hk)
      refine g_ ?_
      clear g_ G_
      exact wpAny_loadName_cell Z.F.kind hk e k1 (a9 (tk := s.toks) Z.H k2)
    · refine hide fun G_ g_ => ?_
      obtain ⟨c, u, e, k1, k2⟩ := Z.F.cel i x v hv hr (.inr hk)
      refine g_ ?_
      clear g_ G_
      exact wpAny_loadName_free Z.F.kind hk e k1 (a9 (tk := s.toks) Z.H k2) hc
  exact key _ rfl
theorem e_bin {op : Operator} (ha : SiE W A fs env vis (eval a env) ca) (hb : SiE W A fs env vis (eval b env) cb) :
  SiE W A fs env vis (eval (.BinOp a op b pos) env) (fun r => bnd (ca r) fun x => bnd (cb r) fun y => bF6 op x y) := by
 intro s io m r Z
 rw [eval_BinOp]
 refine Si.bind (ha s io m r Z) fun u s₁ io₁ m₁ v y_ st H₁ k sm => ?_
 refine Si.bind (Si.holding (hb _ _ _ r (Z.step H₁ st))) fun u' s₂ io₂ m₂ v' y_ st₂ H₂ k₂ sm₂ => ?_
 exact .standAt (.operate (cO4 H₂ (VR.step st₂ k) k₂))
theorem e_not (ha : SiE W A fs env vis (eval a env) ca) : SiE W A fs env vis (eval (.UnaryOp .Not a pos) env) (fun r => bnd (ca r) fun x => bnd (fB x) fun b => ret (.bool (!b))) := by
 intro s io m r Z
 rw [arm_eval_UnaryOp]
 refine Si.bind (ha s io m r Z) fun u s₁ io₁ m₁ v y_ st H₁ k sm => .standAt (.holding ?_)
 refine Si.holding (t := truthy u >>= fun b => Pure.pure (Value.bool (!b))) ?_
 refine Si.bind (aF7 H₁ k) fun b s₂ io₂ m₂ b' y_ y_ H₂ k₂ y_ => ?_
 cases k₂
 exact .pure H₂ (.bool _)
theorem e_idx (R : AR A fs n) (ha : SiE W A fs env vis (eval a env) ca) (hb : SiE W A fs env vis (eval b env) cb) :
  SiE W A fs env vis (eval (.Subscript a b pos) env) (fun r => bnd (ca r) fun x => bnd (cb r) fun y => aI8 x y) := by
 intro s io m r Z
 rw [arm_eval_Subscript]
 refine Si.bind (ha s io m r Z) fun u s₁ io₁ m₁ v y_ st H₁ k sm => ?_
 refine Si.bind (Si.holding (hb _ _ _ r (Z.step H₁ st))) fun u' s₂ io₂ m₂ v' y_ st₂ H₂ k₂ sm₂ => ?_
 exact .standAt (cM4 H₂ R (VR.step st₂ k) k₂)
theorem bO {α β γ : Type} (x : Mn α) (f : α -> Mn β) (g : β -> Mn γ) : bnd (bnd x f) g = bnd x fun a => bnd (f a) g := by
 funext m
 show ((x m).bind f).bind g = (x m).bind fun a m => (f a m).bind g
 cases x m <;> rfl
theorem l_nil : SiL W A fs env vis (spliced (backTo pos (starEach [] env))) (fun y_ => ret []) := fun y_ y_ y_ y_ Z => .pure Z.H .nil
theorem cV0 {rest : List Expr} {cl : Lo -> Mn (List V)} (ha : SiE W A fs env vis (eval a env) ca) (hl : SiL W A fs env vis (spliced (backTo pos (starEach rest env))) cl) (he : starEach (a :: rest) env = (false, eval a env) :: starEach rest env) :
  SiL W A fs env vis (spliced (backTo pos (starEach (a :: rest) env))) (fun r => bnd (ca r) fun x => bnd (cl r) fun xs => ret (x :: xs)) := by
 intro s io m r Z
 rw [he]
 show Si W [] A fs (VsP W) (eval a env >>= fun v => (PySem.holding [v] (spliced (backTo pos (starEach rest env)))) >>= fun vs => Pure.pure (v :: vs)) s io m _
 refine Si.bind (ha s io m r Z) fun u s₁ io₁ m₁ v y_ st H₁ k sm => ?_
 refine Si.bind (Si.holding (hl _ _ _ r (Z.step H₁ st))) fun u' s₂ io₂ m₂ v' y_ st₂ H₂ k₂ sm₂ => ?_
 exact .pure H₂ (.cons (VR.step st₂ k) k₂)
theorem e_tup {es : List Expr} {j : Nat} {cl : Lo -> Mn (List V)} (hl : SiL W A fs env vis (spliced (backTo pos (starEach es env))) cl) (hn : ∀ r m vs m', cl r m = .ok vs m' -> vs.length <= lid) : SiE W A fs env vis (eval (.Tuple es j pos) env) (fun r => bnd (cl r) fun vs => ret (.tup vs)) := by
 intro s io m r Z
 rw [arm_eval_Tuple]
 refine .standAt (Si.bind (hl s io m r Z) fun u s₁ io₁ m₁ v e st H₁ k sm => ?_)
 exact fun y_ => wpAny_newTuple (cU4 (tk := s₁.toks) H₁ k) (by have := hn _ _ _ _ e; rw [<- k.length] at this; exact aM this)
theorem cX8 {es : List Expr} {cl : Lo -> Mn (List V)} (hl : SiL W A fs env vis (spliced (backTo pos (starEach es env))) cl) (hn : ∀ r m vs m', cl r m = .ok vs m' -> vs.length <= lid) : SiE W A fs env vis (eval (.List es pos) env) (fun r => bnd (cl r) fun vs => alloc (.list vs)) := by
 intro s io m r Z
 rw [arm_eval_List]
 refine .standAt (Si.bind (hl s io m r Z) fun u s₁ io₁ m₁ v e st H₁ k sm => ?_)
 exact fun y_ => wpAny_newList (aW8 (tk := s₁.toks) H₁ k (hn _ _ _ _ e)) (by have := hn _ _ _ _ e; rw [<- k.length] at this; exact aM this)
theorem b_one {op : BoolOp} (ha : SiE W A fs env vis (eval a env) ca) : SiE W A fs env vis (boolOp pos op (evalEach [a] env)) ca := ha
theorem cZ5 {op : BoolOp} {c : Bool} {rest : List Expr} {cb : Lo -> Mn V} (hop : (op = .And /\ c = true) \/ (op = .Or /\ c = false)) (ha : SiE W A fs env vis (eval a env) ca) (hb : SiE W A fs env vis (boolOp pos op (evalEach (b :: rest) env)) cb) :
  SiE W A fs env vis (boolOp pos op (evalEach (a :: b :: rest) env)) (fun r => bnd (ca r) fun x => bnd (fB x) fun t => if t == c then cb r else ret x) := by
 intro s io m r Z
 rcases hop with ⟨rfl, rfl⟩ | ⟨rfl, rfl⟩ <;>
 refine Si.bind (ha s io m r Z) fun u s₁ io₁ m₁ v y_ st H₁ k sm => .standAt ?_ <;>
 refine Si.bind (Si.holding (aF7 H₁ k)) fun t s₂ io₂ m₂ t' y_ st₂ H₂ k₂ sm₂ => ?_ <;>
 cases k₂ <;> cases t'
 ·exact .pure H₂ (VR.step st₂ k)
 ·exact hb _ _ _ r ((Z.step H₁ st).step H₂ st₂)
 ·exact hb _ _ _ r ((Z.step H₁ st).step H₂ st₂)
 ·exact .pure H₂ (VR.step st₂ k)
noncomputable def SiC (W : Wd) (A : Around) (fs : List Env) (env : Env) (vis : List (Option Str)) (t : Value -> Sem Value) (c : V -> Lo -> Mn V) : Prop :=
 ∀ (s : Shared) (io : Io) (m : MH) (r : Lo) (x : V) (u : Value), Sit W fs env vis s io m r -> VR W s.heap io x u -> Si W [] A fs (VP W) (t u) s io m (c x r m)
noncomputable def dA2 (W : Wd) (A : Around) (fs : List Env) (env : Env) (vis : List (Option Str)) (t : Value -> Sem Bool) (c : V -> Lo -> Mn V) : Prop :=
 ∀ (s : Shared) (io : Io) (m : MH) (r : Lo) (x : V) (u : Value), Sit W fs env vis s io m r -> VR W s.heap io x u -> Si W [] A fs BP (t u) s io m (bnd (c x r) fB m)
theorem aL8 {op : CmpOp} (hb : behindInMarks op b = false) : markedEach [op] [b] (evalEach [b] env) = [eval b env] := by
 show [markedBehindIn op b (eval b env)] = _
 rw [markedBehindIn_of_false hb]
theorem c_one (ok : WOk W) (R : AR A fs n) {op : CmpOp} (hm : behindInMarks op b = false) (hb : SiE W A fs env vis (eval b env) cb) :
  SiC W A fs env vis (fun u => compareChain pos u [op] (markedEach [op] [b] (evalEach [b] env))) (fun x r => bnd (cb r) fun y => bnd (aA2 op x y) fun c => ret (.bool c)) := by
 intro s io m r x u Z k
 show Si W [] A fs (VP W) (compareChain pos u [op] (markedEach [op] [b] (evalEach [b] env))) s io m _
 rw [aL8 hm]
 refine Si.bind (Si.holding (hb _ _ _ r Z)) fun u' s₂ io₂ m₂ v' y_ st₂ H₂ k₂ sm₂ => .standAt (.operate ?_)
 have := aP5 (own := []) ok H₂ R (op := op) (VR.step st₂ k) k₂
 intro hne
 refine wpAny_mono (this (Res.bind_ne hne)) (fun u s' p => ?_) fun e s' p => p.bind .refl (.refl _)
 refine hide fun G_ g_ => ?_
 obtain ⟨v, m', io', e, a1, a2, a3, a4⟩ := p
 refine g_ ?_
 clear g_ G_
 cases a3
 exact ⟨.bool v, m', io', by show (aA2 op x v' m₂).bind _ = _; rw [e]; rfl, a1, a2, .bool v, a4⟩
theorem cY9 (ok : WOk W) (R : AR A fs n) {op : CmpOp} {op' : CmpOp} {ops : List CmpOp} {b' : Expr} {rest : List Expr} {cc : V -> Lo -> Mn V} (hb : SiE W A fs env vis (eval b env) cb)
  (hc : SiC W A fs env vis (fun u => compareChain pos u (op' :: ops) (markedEach (op' :: ops) (b' :: rest) (evalEach (b' :: rest) env))) cc) :
  SiC W A fs env vis (fun u => compareChain pos u (op :: op' :: ops) (markedEach (op :: op' :: ops) (b :: b' :: rest) (evalEach (b :: b' :: rest) env))) (fun x r => bnd (cb r) fun y => bnd (aA2 op x y) fun c => if c then cc y r else ret (.bool false)) := by
 intro s io m r x u Z k
 show Si W [] A fs (VP W) (PySem.holding [u] (eval b env) >>= fun rv => PySem.standAt pos >>= fun y_ => PySem.holding [u, rv] (compareOp op u rv) >>= fun c => release [u, rv] [c] >>= fun y_ => PySem.holding [c, rv] (truthy c) >>= fun t => if t then compareChain pos rv (op' :: ops) (markedEach (op' :: ops) (b' :: rest) (evalEach (b' :: rest) env)) else Pure.pure c) s io m _
 refine Si.bind (Si.holding (hb _ _ _ r Z)) fun u' s₂ io₂ m₂ v' y_ st₂ H₂ k₂ sm₂ => .standAt ?_
 refine Si.bind (Si.holding (aP5 ok H₂ R (VR.step st₂ k) k₂)) fun u₃ s₃ io₃ m₃ v₃ y_ st₃ H₃ k₃ sm₃ => ?_
 cases k₃
 have : Si W [] A fs (VP W) (PySem.holding [.bool v₃, u'] (truthy (.bool v₃)) >>= fun t => if t then compareChain pos u' (op' :: ops) (markedEach (op' :: ops) (b' :: rest) (evalEach (b' :: rest) env)) else Pure.pure (.bool v₃)) s₃ io₃ m₃ ((if v₃ then cc v' r else ret (.bool false)) m₃) := by
  intro hne
  refine wpAny_bind (wpAny_holding (wpAny_truthy_bool ?_))
  cases v₃
  ·exact Si.pure (own := []) (A := A) (fs := fs) H₃ (.bool false) hne
  ·exact hc _ _ _ r v' u' ((Z.step H₂ st₂).step H₃ st₃) (VR.step st₃ k₂) hne
 exact fun hne => wpAny_bind (wpAny_release (this hne))
theorem t_one (ok : WOk W) (R : AR A fs n) {op : CmpOp} (hm : behindInMarks op b = false) (hb : SiE W A fs env vis (eval b env) cb) :
  dA2 W A fs env vis (fun u => testChain pos u [op] (markedEach [op] [b] (evalEach [b] env))) (fun x r => bnd (cb r) fun y => bnd (aA2 op x y) fun c => ret (.bool c)) := by
 intro s io m r x u Z k
 show Si W [] A fs BP (testChain pos u [op] (markedEach [op] [b] (evalEach [b] env))) s io m _
 rw [aL8 hm, bO]
 refine Si.bind (Si.holding (hb _ _ _ r Z)) fun u' s₂ io₂ m₂ v' y_ st₂ H₂ k₂ sm₂ => .standAt ?_
 rw [bO]
 refine Si.bind (Si.operate (aP5 ok H₂ R (VR.step st₂ k) k₂)) fun u₃ s₃ io₃ m₃ v₃ y_ st₃ H₃ k₃ sm₃ => .holding ?_
 cases k₃
 exact fun y_ => wpAny_truthy_bool ⟨v₃, m₃, io₃, rfl, .refl, H₃, rfl, .refl _⟩
theorem cR7 (ok : WOk W) (R : AR A fs n) {op : CmpOp} {op' : CmpOp} {ops : List CmpOp} {b' : Expr} {rest : List Expr} {cc : V -> Lo -> Mn V} (hb : SiE W A fs env vis (eval b env) cb)
  (hc : dA2 W A fs env vis (fun u => testChain pos u (op' :: ops) (markedEach (op' :: ops) (b' :: rest) (evalEach (b' :: rest) env))) cc) :
  dA2 W A fs env vis (fun u => testChain pos u (op :: op' :: ops) (markedEach (op :: op' :: ops) (b :: b' :: rest) (evalEach (b :: b' :: rest) env))) (fun x r => bnd (cb r) fun y => bnd (aA2 op x y) fun c => if c then cc y r else ret (.bool false)) := by
 intro s io m r x u Z k
 show Si W [] A fs BP (PySem.holding [u] (eval b env) >>= fun rv => PySem.standAt pos >>= fun y_ => PySem.holding [u, rv] (compareOp op u rv) >>= fun c => release [u, rv] [c] >>= fun y_ => PySem.holding [c, rv] (truthy c) >>= fun t => if t then testChain pos rv (op' :: ops) (markedEach (op' :: ops) (b' :: rest) (evalEach (b' :: rest) env)) else Pure.pure false) s io m _
 rw [bO]
 refine Si.bind (Si.holding (hb _ _ _ r Z)) fun u' s₂ io₂ m₂ v' y_ st₂ H₂ k₂ sm₂ => .standAt ?_
 rw [bO]
 refine Si.bind (Si.holding (aP5 ok H₂ R (VR.step st₂ k) k₂)) fun u₃ s₃ io₃ m₃ v₃ y_ st₃ H₃ k₃ sm₃ => ?_
 cases k₃
 have : Si W [] A fs BP (PySem.holding [.bool v₃, u'] (truthy (.bool v₃)) >>= fun t => if t then testChain pos u' (op' :: ops) (markedEach (op' :: ops) (b' :: rest) (evalEach (b' :: rest) env)) else Pure.pure false) s₃ io₃ m₃ (bnd (if v₃ then cc v' r else ret (.bool false)) fB m₃) := by
  intro hne
  refine wpAny_bind (wpAny_holding (wpAny_truthy_bool ?_))
  cases v₃
  ·exact Si.pure (own := []) (A := A) (fs := fs) (v := false) H₃ rfl hne
  ·exact hc _ _ _ r v' u' ((Z.step H₂ st₂).step H₃ st₃) (VR.step st₃ k₂) hne
 exact fun hne => wpAny_bind (wpAny_release (this hne))
theorem e_cmp {ops : List CmpOp} {bs : List Expr} {cc : V -> Lo -> Mn V} (ha : SiE W A fs env vis (eval a env) ca) (hc : SiC W A fs env vis (fun u => compareChain pos u ops (markedEach ops bs (evalEach bs env))) cc) :
  SiE W A fs env vis (eval (.Compare a ops bs pos) env) (fun r => bnd (ca r) fun x => cc x r) := by
 intro s io m r Z
 rw [arm_eval_Compare]
 exact Si.bind (ha s io m r Z) fun u s₁ io₁ m₁ v y_ st H₁ k sm => hc _ _ _ r v u (Z.step H₁ st) k
theorem t_cmp {ops : List CmpOp} {bs : List Expr} {cc : V -> Lo -> Mn V} {whole : Sem Value} (ha : SiE W A fs env vis (eval a env) ca) (hc : dA2 W A fs env vis (fun u => testChain pos u ops (markedEach ops bs (evalEach bs env))) cc) :
  SiB W A fs env vis (isTrue (.Compare a ops bs pos) env whole) (fun r => bnd (bnd (ca r) fun x => cc x r) fB) := by
 intro s io m r Z
 show Si W [] A fs BP _ s io m (bnd (bnd (ca r) fun x => cc x r) fB m)
 rw [bO]
 show Si W [] A fs BP (eval a env >>= fun u => testChain pos u ops (markedEach ops bs (evalEach bs env))) s io m _
 exact Si.bind (ha s io m r Z) fun u s₁ io₁ m₁ v y_ st H₁ k sm => hc _ _ _ r v u (Z.step H₁ st) k
theorem t_val (ha : SiE W A fs env vis (eval a env) ca) (hs : isTrue a env (eval a env) = (do let v <- eval a env; PySem.standAt a.pos; PySem.holding [v] (truthy v))) : SiB W A fs env vis (isTrue a env (eval a env)) (fun r => bnd (ca r) fB) := by
 intro s io m r Z
 rw [hs]
 exact Si.bind (ha s io m r Z) fun u s₁ io₁ m₁ v y_ st H₁ k sm => .standAt (.holding (aF7 H₁ k))
theorem t_not {ct : Lo -> Mn Bool} {whole : Sem Value} (ha : SiB W A fs env vis (isTrue a env (eval a env)) ct) : SiB W A fs env vis (isTrue (.UnaryOp .Not a pos) env whole) (fun r => bnd (ct r) fun b => ret (!b)) := by
 intro s io m r Z
 show Si W [] A fs BP (isTrue a env (eval a env) >>= fun b => Pure.pure (!b)) s io m _
 refine Si.bind (ha s io m r Z) fun u s₁ io₁ m₁ v y_ st H₁ k sm => ?_
 cases k
 exact .pure H₁ rfl
theorem t_nil {op : BoolOp} {c : Bool} (hop : (op = .And /\ c = true) \/ (op = .Or /\ c = false)) : SiB W A fs env vis (allTrue op [] env) (fun y_ => ret c) := by
 intro s io m r Z
 rcases hop with ⟨rfl, rfl⟩ | ⟨rfl, rfl⟩
 ·exact .pure (u := true) Z.H rfl
 ·exact .pure (u := false) Z.H rfl
theorem cR8 {op : BoolOp} {c : Bool} {rest : List Expr} {ct cts : Lo -> Mn Bool} (hop : (op = .And /\ c = true) \/ (op = .Or /\ c = false)) (ha : SiB W A fs env vis (isTrue a env (eval a env)) ct) (hb : SiB W A fs env vis (allTrue op rest env) cts) :
  SiB W A fs env vis (allTrue op (a :: rest) env) (fun r => bnd (ct r) fun b => if b == c then cts r else ret b) := by
 intro s io m r Z
 rcases hop with ⟨rfl, rfl⟩ | ⟨rfl, rfl⟩ <;>
 refine Si.bind (ha s io m r Z) fun t s₁ io₁ m₁ v y_ st H₁ k sm => ?_ <;>
 cases k <;> cases v
 ·exact .pure H₁ rfl
 ·exact hb _ _ _ r (Z.step H₁ st)
 ·exact hb _ _ _ r (Z.step H₁ st)
 ·exact .pure H₁ rfl
theorem t_all {op : BoolOp} {es : List Expr} {whole : Sem Value} {ct : Lo -> Mn Bool} (h : SiB W A fs env vis (allTrue op es env) ct) : SiB W A fs env vis (isTrue (.BoolOp op es pos) env whole) ct := h
noncomputable def SiO (W : Wd) (A : Around) (fs : List Env) (env : Env) (vis : List (Option Str)) (o : Option Expr) (c : Lo -> Mn V) : Prop := SiE W A fs env vis (valueOrNone (evalOpt o env)) c
theorem cU2 : SiO W A fs env vis none (fun y_ => ret .none) := fun y_ y_ y_ y_ Z => .pure Z.H .none
theorem cU1 (ha : SiE W A fs env vis (eval a env) ca) : SiO W A fs env vis (some a) ca := ha
noncomputable def SlP (W : Wd) (h : Heap) (io : Io) (p : V × V × V) (u : Value) : Prop := ∃ sl ul uh us, u = .ref sl /\ h.IsSliceOf sl ul uh us /\ VR W h io p.1 ul /\ VR W h io p.2.1 uh /\ VR W h io p.2.2 us
theorem bY5 {lo hi st : Option Expr} {cl ch cs : Lo -> Mn V} (hl : SiO W A fs env vis lo cl) (hh : SiO W A fs env vis hi ch) (hs : SiO W A fs env vis st cs) (Z : Sit W fs env vis s io m r) :
  Si W [] A fs (SlP W) (eval (.Slice lo hi st pos) env) s io m (bnd (cl r) (fun l => bnd (ch r) fun h => bnd (cs r) fun t => ret (l, h, t)) m) := by
 rw [arm_eval_Slice]
 refine Si.bind (hl _ _ _ r Z) fun ul s₁ io₁ m₁ vl y_ st₁ H₁ k₁ y_ => ?_
 have Z₁ := Z.step H₁ st₁
 refine Si.bind (Si.holding (hh _ _ _ r Z₁)) fun uh s₂ io₂ m₂ vh y_ st₂ H₂ k₂ y_ => ?_
 have Z₂ := Z₁.step H₂ st₂
 refine Si.bind (Si.holding (hs _ _ _ r Z₂)) fun us s₃ io₃ m₃ vs y_ st₃ H₃ k₃ y_ => ?_
 have st4 : Step [] (frs fs) s₃.heap io₃ m₃ (s₃.heap.push { cls := .type "slice", data := .fields #[ul, uh, us] }) io₃ m₃ := .of_keeps H₃ (aN _)
 exact fun y_ => wpAny_mono (Q := fun v s' => v = .ref s₃.heap.objs.size /\ s' = { s₃ with heap := s₃.heap.push { cls := .type "slice", data := .fields #[ul, uh, us] } }) (fun y_ y_ y_ => ⟨rfl, rfl⟩) (fun v s' q => by
  obtain ⟨rfl, rfl⟩ := q
  exact ⟨_, m₃, io₃, rfl, st4, H₃.of_keeps (aN _), ⟨_, ul, uh, us, rfl, .new _ _ _ _, ((VR.step st₂ k₁).step st₃).step st4, (VR.step st₃ k₂).step st4, VR.step st4 k₃⟩, .refl _⟩) fun y_ y_ q => q
theorem cN4 {lo hi st : Option Expr} {cl ch cs : Lo -> Mn V} {pos' : Pos} (ha : SiE W A fs env vis (eval a env) ca) (hl : SiO W A fs env vis lo cl) (hh : SiO W A fs env vis hi ch) (hs : SiO W A fs env vis st cs) :
  SiE W A fs env vis (eval (.Subscript a (.Slice lo hi st pos') pos) env) (fun r => bnd (ca r) fun x => bnd (cl r) fun l => bnd (ch r) fun h => bnd (cs r) fun t => aA8 x l h t) := by
 intro s io m r Z
 rw [arm_eval_Subscript]
 refine Si.bind (ha s io m r Z) fun u s₁ io₁ m₁ v y_ st₁ H₁ k₁ y_ => ?_
 have e : (bnd (cl r) fun l => bnd (ch r) fun h => bnd (cs r) fun t => aA8 v l h t) = bnd (bnd (cl r) fun l => bnd (ch r) fun h => bnd (cs r) fun t => ret (l, h, t)) fun p => aA8 v p.1 p.2.1 p.2.2 := by
  simp only [bO]; rfl
 rw [e]
 refine Si.bind (Si.holding (bY5 hl hh hs (Z.step H₁ st₁))) fun u' s₂ io₂ m₂ p y_ st₂ H₂ k₂ sm₂ => .standAt ?_
 refine hide fun G_ g_ => ?_
 obtain ⟨sl, ul, uh, us, rfl, q1, q2, q3, q4⟩ := k₂
 refine g_ ?_
 clear g_ G_
 exact bJ7 H₂ (VR.step st₂ k₁) q2 q3 q4 q1
end
end Mini
namespace Mini
open PySem PySem.W
structure Gl (W : Wd) (K : Frag) : Prop where
 ok : WOk W
 X : K.In W.base
 top : ∃ mg mb, W.base.Ns mainGlobals mg /\ W.base.Ns builtinsNs mb /\ (∀ x : Str, x ≠ "__name__" -> mb x = bootBuiltins x) /\ ∃ pp loose, TopRead pp loose mg mb W.base
section
variable {W : Wd} {K : Frag} {fs : List Env} {env : Env} {vis : List (Option Str)} {s s' : Shared} {io io' : Io} {m m' : MH} {r : Lo} {fr : List Addr} {A : Around} {n : Nat} {pos p : Pos}
theorem HR.get (H : HR W s.heap io m) (gl : Gl W K) {a : Addr} {o : Obj} (h : K.lookup a = some o) : s.heap.get? a = some o := H.keep _ _ (gl.X _ _ h)
theorem aL5 {x : Str} {v : Value} {Q : Value -> Shared -> Prop} {E : Value -> Shared -> Prop} {M : Model} (gl : Gl W K) (Z : Sit W fs env vis s io m r) (e : nsIn K mainGlobals x = some (some v)) (hx : env.kindOf x = some .globalImplicit) (hd : (x == ("__debug__" : Str)) = false) (h : Q v s) : wpAny M A (eval (.Name x p) env) Q E s := by
 refine hide fun G_ g_ => ?_
 obtain ⟨mg, mb, g, b, y_⟩ := gl.top
 refine g_ ?_
 clear g_ G_
 refine Calls.Name_function_global Z.F.kind hx (Calls.loadGlobal_global (mg := mg) ?_ (mg_of gl.X g e) h) hd
 rw [Z.F.glob]; exact g.keeps Z.H.keep
theorem aL6 {x : Str} {v : Value} {Q : Value -> Shared -> Prop} {E : Value -> Shared -> Prop} {M : Model} (gl : Gl W K) (Z : Sit W fs env vis s io m r) (e : nsIn K mainGlobals x = some none) (hv : bootBuiltins x = some v) (hn : (x == ("__name__" : Str)) = false) (hx : env.kindOf x = some .globalImplicit) (hd : (x == ("__debug__" : Str)) = false) (h : Q v s) : wpAny M A (eval (.Name x p) env) Q E s := by
 refine hide fun G_ g_ => ?_
 obtain ⟨mg, mb, g, b, hb, y_⟩ := gl.top
 refine g_ ?_
 clear g_ G_
 have hn' : x ≠ "__name__" := fun q => by rw [q] at hn; simp at hn
 refine Calls.Name_function_global Z.F.kind hx (Calls.loadGlobal_builtin (mg := mg) (mb := mb) ?_ (mg_none_of gl.X g e) ?_ (by rw [hb x hn', hv]) h) hd
 ·rw [Z.F.glob]; exact g.keeps Z.H.keep
 ·rw [Z.F.blt]; exact b.keeps Z.H.keep
noncomputable def aV : List Expr -> Bool
 | [] => true
 | .Starred _ _ :: _ => false
 | _ :: r => aV r
theorem eE {e : Expr} {rest : List Expr} (h : aV (e :: rest) = true) : starEach (e :: rest) env = (false, eval e env) :: starEach rest env := by
 cases e <;> first | rfl | (exact absurd h Bool.false_ne_true)
theorem fR {e : Expr} {rest : List Expr} (h : aV (e :: rest) = true) : aV rest = true := by
 cases e <;> first | exact h | (exact absurd h Bool.false_ne_true)
theorem dP {es : List Expr} (h : aV es = true) : (backTo pos (starEach es env)).any (·.1) = false := by
 induction es with
 | nil => rfl
 | cons e rest ih => rw [eE h]; exact ih (fR h)
theorem dW {M : Model} {E : Value -> Shared -> Prop} {f : Value} {es : List Expr} {Q : Args -> Shared -> Prop} (hs : aV es = true) (h : wpAny M A (spliced (backTo pos (starEach es env))) (fun vs s' => Q ⟨vs, []⟩ s') E s) :
  wpAny M A (evalArgs f true (backTo pos (starEach es env)) []) Q E s := by
 cases es with
 | nil =>
  unfold evalArgs
  show wpAny M A (spliced [] >>= _) Q E s
  refine wpAny_bind (wpAny_mono (show wpAny M A (spliced []) (fun vs s' => Q ⟨vs, []⟩ s') E s from h) (fun vs s' q => ?_) fun y_ y_ x => x)
  refine wpAny_bind (wpAny_pure ?_)
  refine wpAny_holding ?_
  exact wpAny_bind (wpAny_pure (wpAny_bind (wpAny_pure (wpAny_pure q))))
 | cons e rest =>
  rw [eE hs] at h ⊢
  exact Calls.evalArgs_plain h
variable {es : List Expr} {cl : Lo -> Mn (List V)} {Fk : List V -> Mn V}
noncomputable def SiF (W : Wd) (A : Around) (fs : List Env) (f : Value) (Fk : List V -> Mn V) : Prop :=
 ∀ (s : Shared) (io : Io) (m : MH) (vs : List V) (us : List Value), HR W s.heap io m -> FF W s.heap io fs -> VRs W s.heap io vs us -> Si W [] A fs (VP W) (call f us) s io m (Fk vs m)
noncomputable def SiK (W : Wd) (A : Around) (fs : List Env) (f : Value) (Fk : List V -> Mn V) : Prop :=
 ∀ (s : Shared) (io : Io) (m : MH) (vs : List V) (us : List Value), HR W s.heap io m -> FF W s.heap io fs -> VRs W s.heap io vs us -> Fk vs m ≠ .bad ->
  codeAny (model W.prog W.w) A (.call f ⟨us, []⟩) (fun r s' => match r with | .ok (.ret v) => NP W [] (frs fs) s io m (VP W) (Fk vs m) v s' | .ok _ => False | .error e => XP W [] fs s io m (Fk vs m) e s') s
theorem SiK.f {f : Value} {Fk : List V -> Mn V} (x : SiK W A fs f Fk) : SiF W A fs f Fk := fun s io m vs us H G hu hne => wpAny_call (x s io m vs us H G hu hne)
noncomputable def born (A : Around) : Around := { A with depth := A.depth + 1, units := A.units + 1 }
theorem cO0 {x : Str} {id : String} (gl : Gl W K) (e : nsIn K mainGlobals x = some none) (hv : bootBuiltins x = some (.builtin id)) (hn : (x == ("__name__" : Str)) = false) (hx : env.kindOf x = some .globalImplicit) (hd : (x == ("__debug__" : Str)) = false) (hs : aV es = true)
  (hl : SiL W A fs env vis (spliced (backTo pos (starEach es env))) cl) (hf : SiF W A fs (.builtin id) Fk) : SiE W A fs env vis (eval (.Call (.Name x p) es [] pos) env) (fun r => bnd (cl r) fun vs => Fk vs) := by
 intro s io m r Z hne
 refine wpAny_Call_NameR (aL6 gl Z e hv hn hx hd (Calls.callWith_builtin (dP hs) (dW hs ?_)))
 refine wpAny_mono (hl s io m r Z (Res.bind_ne hne)) (fun us s' q => ?_) fun y_ y_ q => q.bind .refl (.refl _)
 refine hide fun G_ g_ => ?_
 obtain ⟨vs, m', io', e', st, H, k, sm⟩ := q
 refine g_ ?_
 clear g_ G_
 have hne' : Fk vs m' ≠ .bad := fun q => hne (by show (cl r m).bind _ = _; rw [e']; exact q)
 have ee : bnd (cl r) (fun vs => Fk vs) m = Fk vs m' := by show (cl r m).bind _ = _; rw [e']; rfl
 show wpAny (model W.prog W.w) A (call (.builtin id) us) (NP W [] (frs fs) s io m (VP W) (bnd (cl r) (fun vs => Fk vs) m)) (XP W [] fs s io m (bnd (cl r) (fun vs => Fk vs) m)) s'
 rw [ee]
 exact wpAny_mono (hf _ _ _ _ _ H (Z.G.step0 st) k hne') (fun y_ y_ z => z.mono st sm) fun y_ y_ z => z.mono st sm
theorem cN8 {x : Str} {id : String} (gl : Gl W K) (e : nsIn K mainGlobals x = some none) (hv : bootBuiltins x = some (.type id)) (hn : (x == ("__name__" : Str)) = false) (hx : env.kindOf x = some .globalImplicit) (hd : (x == ("__debug__" : Str)) = false) (hs : aV es = true)
  (hl : SiL W A fs env vis (spliced (backTo pos (starEach es env))) cl) (hf : SiF W A fs (.type id) Fk) : SiE W A fs env vis (eval (.Call (.Name x p) es [] pos) env) (fun r => bnd (cl r) fun vs => Fk vs) := by
 intro s io m r Z hne
 refine wpAny_Call_NameR (aL6 gl Z e hv hn hx hd (callWith_type (dP hs) (dW hs ?_)))
 refine wpAny_mono (hl s io m r Z (Res.bind_ne hne)) (fun us s' q => ?_) fun y_ y_ q => q.bind .refl (.refl _)
 refine hide fun G_ g_ => ?_
 obtain ⟨vs, m', io', e', st, H, k, sm⟩ := q
 refine g_ ?_
 clear g_ G_
 have hne' : Fk vs m' ≠ .bad := fun q => hne (by show (cl r m).bind _ = _; rw [e']; exact q)
 have ee : bnd (cl r) (fun vs => Fk vs) m = Fk vs m' := by show (cl r m).bind _ = _; rw [e']; rfl
 show wpAny (model W.prog W.w) A (call (.type id) us) (NP W [] (frs fs) s io m (VP W) (bnd (cl r) (fun vs => Fk vs) m)) (XP W [] fs s io m (bnd (cl r) (fun vs => Fk vs) m)) s'
 rw [ee]
 exact wpAny_mono (hf _ _ _ _ _ H (Z.G.step0 st) k hne') (fun y_ y_ z => z.mono st sm) fun y_ y_ z => z.mono st sm
theorem cN9 {x : Str} {a : Addr} {o : Obj} {fd : FuncData} (gl : Gl W K) (e : nsIn K mainGlobals x = some (some (.ref a))) (ho : K.lookup a = some o) (hdata : o.data = .func fd) (hx : env.kindOf x = some .globalImplicit) (hd : (x == ("__debug__" : Str)) = false) (hs : aV es = true)
  (hl : SiL W A fs env vis (spliced (backTo pos (starEach es env))) cl) (hf : SiF W A fs (.ref a) Fk) : SiE W A fs env vis (eval (.Call (.Name x p) es [] pos) env) (fun r => bnd (cl r) fun vs => Fk vs) := by
 intro s io m r Z hne
 refine wpAny_Call_NameR (aL5 gl Z e hx hd (Calls.callWith_function (o := o) (fd := fd) (dW hs ?_)))
 refine wpAny_mono (hl s io m r Z (Res.bind_ne hne)) (fun us s' q => ?_) fun y_ y_ q => q.bind .refl (.refl _)
 refine hide fun G_ g_ => ?_
 obtain ⟨vs, m', io', e', st, H, k, sm⟩ := q
 refine g_ ?_
 clear g_ G_
 have hne' : Fk vs m' ≠ .bad := fun q => hne (by show (cl r m).bind _ = _; rw [e']; exact q)
 have ee : bnd (cl r) (fun vs => Fk vs) m = Fk vs m' := by show (cl r m).bind _ = _; rw [e']; rfl
 refine ⟨⟨H.get gl ho, hdata⟩, ?_⟩
 show wpAny (model W.prog W.w) A (call (.ref a) us) (NP W [] (frs fs) s io m (VP W) (bnd (cl r) (fun vs => Fk vs) m)) (XP W [] fs s io m (bnd (cl r) (fun vs => Fk vs) m)) s'
 rw [ee]
 exact wpAny_mono (hf _ _ _ _ _ H (Z.G.step0 st) k hne') (fun y_ y_ z => z.mono st sm) fun y_ y_ z => z.mono st sm
end
end Mini
namespace Mini
open PySem PySem.W
noncomputable def bF (env : Env) : List Addr := env.locals :: env.cells.filterMap fun q => env.cells.lookup q.1
structure Stt (W : Wd) (fs : List Env) (env : Env) (vis : List (Option Str)) (s : Shared) (io : Io) (m : MH) (r : Lo) : Prop where
 H : HR W s.heap io m
 F : FR W s.heap io env vis r
 G : FF W s.heap io fs
 fr : env.frame = some env.locals
 dis : ∀ L ∈ frs fs, L ∉ bF env
inductive FlR (W : Wd) (h : Heap) (io : Io) : Fl -> Flow -> Prop
 | next : FlR W h io .next .next
 | cont : FlR W h io .cont .cont
 | ret {v : V} {u : Value} : VR W h io v u -> FlR W h io (.ret v) (.ret u)
noncomputable abbrev SP (W : Wd) (env : Env) (vis : List (Option Str)) : Heap -> Io -> Fl × Lo -> Flow -> Prop := fun h io p f => FlR W h io p.1 f /\ FR W h io env vis p.2
noncomputable abbrev RP (W : Wd) (env : Env) (vis : List (Option Str)) : Heap -> Io -> Lo -> Unit -> Prop := fun h io r y_ => FR W h io env vis r
section
variable {W : Wd} {fs : List Env} {env : Env} {vis : List (Option Str)} {s s' : Shared} {io io' : Io} {m m' : MH} {r r' : Lo} {fr own own' : List Addr} {A : Around} {n : Nat} {pos p : Pos}
theorem Step.wk {h h' : Heap} (x : Step own fr h io m h' io' m') (k : ∀ b ∈ own, b ∈ own') : Step own' fr h io m h' io' m' :=
 ⟨x.alive, x.solid, fun b o e f1 f2 => x.keep b o e f1 fun q => f2 (k b q), fun b o e f1 f2 => x.slots b o e f1 fun q => f2 (k b q), x.grow, x.dicts⟩
theorem Stt.sit (Z : Stt W fs env vis s io m r) : Sit W (env :: fs) env vis s io m r := by
 refine ⟨Z.H, Z.F, fun e he => ?_⟩
 rcases List.mem_cons.mp he with rfl | he
 ·refine hide fun G_ g_ => ?_
  obtain ⟨mp, ⟨o, es, ep, ho, hd, y_⟩, y_⟩ := Z.F.loc
  refine g_ ?_
  clear g_ G_
  exact ⟨by rw [Z.F.kind]; simp, e.locals, o, es, ep, Z.fr, Z.F.fresh, Z.F.nofoot, ho, hd⟩
 ·exact Z.G e he
theorem Stt.step (Z : Stt W fs env vis s io m r) (H : HR W s'.heap io' m') (st : Step [] fr s.heap io m s'.heap io' m') : Stt W fs env vis s' io' m' r := ⟨H, Z.F.step0 Z.H st, Z.G.step0 st, Z.fr, Z.dis⟩
theorem Stt.stepO (Z : Stt W fs env vis s io m r) (H : HR W s'.heap io' m') (st : Step (bF env) fr s.heap io m s'.heap io' m') (F : FR W s'.heap io' env vis r') : Stt W fs env vis s' io' m' r' := ⟨H, F, Z.G.step st Z.dis, Z.fr, Z.dis⟩
theorem dE {o : Obj} {es : Array DictEntry} {k : Nat} (h : o.data = .dict es k) : ¬ cA o := by
 rintro (⟨_, _, _, e⟩ | ⟨_, _, _, e⟩) <;> rw [h] at e <;> cases e
theorem aJ3 {o : Obj} {v : Option Value} (h : o.data = .cell v) : ¬ cA o := by
 rintro (⟨_, _, _, e⟩ | ⟨_, _, _, e⟩) <;> rw [h] at e <;> cases e
theorem bI9 (Z : Stt W fs env vis s io m r) {i : Nat} {x : Str} {v : V} {u : Value} (hv : vis[i]? = some (some x)) (hk : env.kindOf x = some .local \/ env.kindOf x = some .cell) (k : VR W s.heap io v u) :
  Si W (bF env) A (env :: fs) (RP W env vis) (storeName env x u) s io m (.ok (r.set i (some v)) m) := by
 intro y_
 have hi : i < vis.length := (List.getElem?_eq_some_iff.mp hv).1
 have F := Z.F
 have row : ∀ (j : Nat) (y : Str) (w : V), vis[j]? = some (some y) -> (r.set i (some v))[j]? = some (some w) -> (y = x /\ w = v) \/ (y ≠ x /\ r[j]? = some (some w)) := by
  intro j y w h1 h2
  by_cases q : i = j
  ·subst q
   rw [List.getElem?_set_self (by rw [F.len]; exact hi)] at h2
   rw [hv] at h1
   cases h1; cases h2; exact .inl ⟨rfl, rfl⟩
  ·rw [List.getElem?_set_ne q] at h2
   refine .inr ⟨fun e => q (F.inj i j x hv (e ▸ h1)), h2⟩
 rcases hk with hk | hk
 ·refine hide fun G_ g_ => ?_
  obtain ⟨mp, hn, hl⟩ := F.loc
  obtain ⟨oL, esL, epL, hoL, hdL, y_⟩ := id hn
  refine g_ ?_
  clear g_ G_
  refine wpAny_storeName_local hk hn (fun h' hn' hs => ?_) (by rw [F.kind]; rfl)
  have kk : ∀ b o, b ≠ env.locals -> s.heap.get? b = some o -> h'.get? b = some o := fun b o q e => (hs.2 b q).trans e
  have lv : ∀ o, s.heap.get? env.locals = some o -> ¬ cA o /\ ∃ o', h'.get? env.locals = some o' := fun o ho => by
   rw [hoL] at ho; cases ho
   refine hide fun G_ g_ => ?_
   obtain ⟨o', y_, y_, ho', y_⟩ := id hn'
   refine g_ ?_
   clear g_ G_
   exact ⟨dE hdL, o', ho'⟩
  have st : Step (bF env) (frs (env :: fs)) s.heap io m h' io m := eS Z.H (L := env.locals) (by simp [bF]) kk lv F.nofoot
  have H' : HR W h' io m := Z.H.ofOwn (own := bF env) (L := env.locals) (by simp [bF]) kk lv F.nofoot F.fresh
  refine ⟨_, m, io, rfl, st, H', ?_, rfl, rfl⟩
  refine ⟨F.kind, F.glob, F.blt, F.nofoot, F.fresh, ⟨_, hn', fun j y w h1 h2 h3 => ?_⟩, fun j y w h1 h2 h3 => ?_, fun y c hy => ?_, F.celex, F.apart, F.inj, by simp [F.len]⟩
  ·rcases row j y w h1 h2 with ⟨rfl, rfl⟩ | ⟨q, h2⟩
   ·exact ⟨u, by simp, k.step st⟩
   ·refine hide fun G_ g_ => ?_
    obtain ⟨u', e, k'⟩ := hl j y w h1 h2 h3
    refine g_ ?_
    clear g_ G_
    exact ⟨u', by simp [q, e], k'.step st⟩
  ·rcases row j y w h1 h2 with ⟨rfl, rfl⟩ | ⟨q, h2⟩
   ·rw [hk] at h3; simp at h3
   ·refine hide fun G_ g_ => ?_
    obtain ⟨c, u', e, k1, k2⟩ := F.cel j y w h1 h2 h3
    refine g_ ?_
    clear g_ G_
    refine ⟨c, u', e, ?_, k2.step st⟩
    refine hide fun G_ g_ => ?_
    obtain ⟨oc, hoc, hdc⟩ := k1
    refine g_ ?_
    clear g_ G_
    exact ⟨oc, kk c oc (F.cells y c e).2.2 hoc, hdc⟩
  ·refine hide fun G_ g_ => ?_
   obtain ⟨⟨o, oc, hoc, hdc⟩, k2, k3⟩ := F.cells y c hy
   refine g_ ?_
   clear g_ G_
   exact ⟨⟨o, oc, kk c oc k3 hoc, hdc⟩, k2, k3⟩
 ·obtain ⟨c, hc⟩ := F.celex i x hv (.inl hk)
  refine hide fun G_ g_ => ?_
  obtain ⟨⟨o0, oc, hoc, hdc⟩, c2, c3⟩ := F.cells x c hc
  refine g_ ?_
  clear g_ G_
  have nf : ¬ cU io c := Z.H.nofoot_of_cell hoc hdc
  refine wpAny_storeName_cell F.kind hk hc ⟨oc, hoc, hdc⟩ fun h' hn' hs => ?_
  have kk : ∀ b o, b ≠ c -> s.heap.get? b = some o -> h'.get? b = some o := fun b o q e => (hs.2 b q).trans e
  have lv : ∀ o, s.heap.get? c = some o -> ¬ cA o /\ ∃ o', h'.get? c = some o' := fun o ho => by
   rw [hoc] at ho; cases ho
   refine hide fun G_ g_ => ?_
   obtain ⟨o', ho', y_⟩ := id hn'
   refine g_ ?_
   clear g_ G_
   exact ⟨aJ3 hdc, o', ho'⟩
  have hin : c ∈ bF env := by
   exact List.mem_cons_of_mem _ (List.mem_filterMap.mpr ⟨(x, c), mem_of_lookup hc, hc⟩)
  have st : Step (bF env) (frs (env :: fs)) s.heap io m h' io m := eS Z.H (L := c) hin kk lv nf
  have H' : HR W h' io m := Z.H.ofOwn (own := bF env) (L := c) hin kk lv nf c2
  refine ⟨_, m, io, rfl, st, H', ?_, rfl, rfl⟩
  refine hide fun G_ g_ => ?_
  obtain ⟨mp, hn, hl⟩ := F.loc
  refine g_ ?_
  clear g_ G_
  have other : ∀ y c', env.cells.lookup y = some c' -> y ≠ x -> c' ≠ c := fun y c' hy q e => q (F.apart y x c (e ▸ hy) hc)
  refine ⟨F.kind, F.glob, F.blt, F.nofoot, F.fresh, ⟨mp, ?_, fun j y w h1 h2 h3 => ?_⟩, fun j y w h1 h2 h3 => ?_, fun y c' hy => ?_, F.celex, F.apart, F.inj, by simp [F.len]⟩
  ·exact hn.sameBut hs (Ne.symm c3)
  ·rcases row j y w h1 h2 with ⟨rfl, rfl⟩ | ⟨q, h2⟩
   ·rw [hk] at h3; simp at h3
   ·refine hide fun G_ g_ => ?_
    obtain ⟨u', e, k'⟩ := hl j y w h1 h2 h3
    refine g_ ?_
    clear g_ G_
    exact ⟨u', e, k'.step st⟩
  ·rcases row j y w h1 h2 with ⟨rfl, rfl⟩ | ⟨q, h2⟩
   ·exact ⟨c, u, hc, hn', k.step st⟩
   ·refine hide fun G_ g_ => ?_
    obtain ⟨c', u', e, k1, k2⟩ := F.cel j y w h1 h2 h3
    refine g_ ?_
    clear g_ G_
    refine ⟨c', u', e, ?_, k2.step st⟩
    refine hide fun G_ g_ => ?_
    obtain ⟨oc', hoc', hdc'⟩ := k1
    refine g_ ?_
    clear g_ G_
    exact ⟨oc', kk c' oc' (other y c' e q) hoc', hdc'⟩
  ·refine hide fun G_ g_ => ?_
   obtain ⟨⟨o, oc', hoc', hdc'⟩, k2, k3⟩ := F.cells y c' hy
   refine g_ ?_
   clear g_ G_
   by_cases q : c' = c
   ·subst q; exact ⟨⟨_, hn'⟩, k2, k3⟩
   ·exact ⟨⟨o, oc', kk c' oc' q hoc', hdc'⟩, k2, k3⟩
end
end Mini
namespace Mini
open PySem PySem.W
section
variable {prog : Program} {w : World} {A : Around} {E : Value -> Shared -> Prop} {s : Shared} {it d : Addr} {i ep : Nat} {o : Obj} {es : Array DictEntry}
theorem bN2 {Q : Value -> Shared -> Prop} (hd : (d == sysModules) = false) (ho : s.heap.get? d = some o) (hc : o.ExactDict) (hdat : o.data = .dict es ep)
  (hQ : Q (.ref s.heap.objs.size) { s with heap := s.heap.push { cls := .type "dict_keyiterator", data := .fields #[.ref d, .int 0 0, .int es.size 0, .int ep 0] } }) : wpAny (model prog w) A (pyIter (.ref d)) Q E s := by
 have hT : s.TypeIs (.ref d) "dict" := ⟨o, ho, hc.1⟩
 refine wpAny_pyIter_slot hT F.slot_dict_iter (wpAny_call_entry F.slot_dict_iter hT F.entry_dict_iter ?_ (F.args_dict_iter_1 _))
 unfold Builtin.«dict.__iter__»
 refine wpAny_bind ?_
 unfold Builtin.Dict.dictSlotNone
 refine wpAny_bind (wpAny_notOrdered_dict hT ?_)
 show wpAny _ _ (pure (Value.ref d)) _ _ s
 refine wpAny_pure ?_
 show wpAny _ _ (Builtin.Dict.showsAll d >>= _) _ _ s
 unfold Builtin.Dict.showsAll
 rw [if_neg (by rw [hd]; exact Bool.false_ne_true)]
 refine wpAny_bind (wpAny_pure (wpAny_bind (wpAny_dictEntries ho hdat (wpAny_bind (wpAny_dictEpoch ho hdat ?_)))))
 exact wpAny_bind (wpAny_newObj_type (wpAny_pure ⟨_, rfl, "dict_keyiterator", _, ⟨_, Heap.get?_push_size _ rfl, rfl⟩, F.slot_dict_keyiterator_next.lookup, hQ⟩))
theorem bN1 {Q : Option Value -> Shared -> Prop} (hit : s.heap.IsKeyIter it d i es.size ep) (ho : s.heap.get? d = some o) (hdat : o.data = .dict es ep) (hlt : i < es.size)
  (hQ : ∀ h', h'.IsKeyIter it d (i + 1) es.size ep -> Heap.SameBut it s.heap h' -> Q (some es[i].key) { s with heap := h' }) : wpAny (model prog w) A (pyNext (.ref it)) Q E s := by
 obtain ⟨oi, hoi, hci, hdi⟩ := id hit
 unfold pyNext
 refine wpAny_bind (wpAny_attempt (wpAny_callSpecial?_slot (name := Str.ofString "__next__") hit.typeIs F.slot_dict_keyiterator_next
  (wpAny_call_entry F.slot_dict_keyiterator_next hit.typeIs F.entry_dict_keyiterator_next ?_ (F.args_dict_keyiterator_next_1 _))))
 refine wpAny_bind (wpAny_pure (wpAny_bind (wpAny_bind ?_)))
 first | refine wpAny_bind (wpAny_typeNameOfWhole_keyiter hit.typeIs (wpAny_pure ?_)) | refine wpAny_bind (wpAny_typeNameOf_keyiter hit.typeIs (wpAny_pure ?_))
 refine wpAny_bind (wpAny_fieldsOf hoi hdi ?_)
 have hown : Builtin.Dict_items.ownsTuple "dict_keyiterator" = false := by decide
 rw [if_neg (by rw [hown]; exact Bool.false_ne_true)]
 show wpAny _ _ (if (Value.ref d == Value.none) = true then _ else _) _ _ s
 rw [if_neg (show ¬ ((Value.ref d == Value.none) = true) from Bool.false_ne_true)]
 refine wpAny_bind (wpAny_pure (wpAny_bind (wpAny_dictEntries ho hdat ?_)))
 rw [if_neg (by simp)]
 refine wpAny_bind (wpAny_pure (wpAny_bind (wpAny_dictEpoch ho hdat ?_)))
 rw [if_neg (by simp)]
 refine wpAny_pure ?_
 dsimp only
 rw [if_neg (show ¬ ((i : Int) < 0) from Int.not_lt.mpr (Int.natCast_nonneg i)), Int.toNat_natCast, Array.getElem?_eq_getElem hlt]
 refine wpAny_bind ?_
 first | refine wpAny_bind (wpAny_typeNameOfWhole_keyiter hit.typeIs (wpAny_pure ?_)) | refine wpAny_bind (wpAny_typeNameOf_keyiter hit.typeIs (wpAny_pure ?_))
 refine wpAny_bind (wpAny_isOneOf_keyiter hit.typeIs ?_)
 show wpAny _ _ (setField (.ref it) 1 (rawInt ((i : Int) + 1)) >>= _) _ _ s
 refine wpAny_bind (wpAny_setField hoi hdi (by simp) ?_)
 have hit' : (s.heap.update it (Obj.mapFields (·.setIfInBounds 1 (rawInt ((i : Int) + 1))))).IsKeyIter it d (i + 1) es.size ep :=
  ⟨_, Heap.get?_update_self _ hoi (Obj.isFreed_of_fields (Obj.data_mapFields hdi _)), (Obj.cls_mapFields ..).trans hci, by rw [Obj.data_mapFields hdi]; simp [rawInt]⟩
 refine wpAny_bind (wpAny_holding ?_)
 refine wpAny_bind (wpAny_isOneOf_keyiter (s := { s with heap := s.heap.update it (Obj.mapFields (·.setIfInBounds 1 (rawInt ((i : Int) + 1)))) }) hit'.typeIs ?_)
 show wpAny _ _ (pure es[i].key) _ _ _
 exact wpAny_pure (wpAny_pure ⟨_, rfl, wpAny_pure (hQ _ hit' (Heap.SameBut.update ..))⟩)
theorem bW2 {Q : Option Value -> Shared -> Prop} (hh : A.handled = none) (hit : s.heap.IsKeyIter it d i es.size ep) (ho : s.heap.get? d = some o) (hdat : o.data = .dict es ep) (hge : es.size <= i)
  (hQ : ∀ h', Heap.ExtBut it s.heap h' -> Q none { s with heap := h' }) : wpAny (model prog w) A (pyNext (.ref it)) Q E s := by
 obtain ⟨oi, hoi, hci, hdi⟩ := id hit
 unfold pyNext
 refine wpAny_bind (wpAny_attempt (wpAny_callSpecial?_slot (name := Str.ofString "__next__") hit.typeIs F.slot_dict_keyiterator_next
  (wpAny_call_entry F.slot_dict_keyiterator_next hit.typeIs F.entry_dict_keyiterator_next ?_ (F.args_dict_keyiterator_next_1 _))))
 refine wpAny_bind (wpAny_pure (wpAny_bind (wpAny_bind ?_)))
 first | refine wpAny_bind (wpAny_typeNameOfWhole_keyiter hit.typeIs (wpAny_pure ?_)) | refine wpAny_bind (wpAny_typeNameOf_keyiter hit.typeIs (wpAny_pure ?_))
 refine wpAny_bind (wpAny_fieldsOf hoi hdi ?_)
 have hown : Builtin.Dict_items.ownsTuple "dict_keyiterator" = false := by decide
 rw [if_neg (by rw [hown]; exact Bool.false_ne_true)]
 show wpAny _ _ (if (Value.ref d == Value.none) = true then _ else _) _ _ s
 rw [if_neg (show ¬ ((Value.ref d == Value.none) = true) from Bool.false_ne_true)]
 refine wpAny_bind (wpAny_pure (wpAny_bind (wpAny_dictEntries ho hdat ?_)))
 rw [if_neg (by simp)]
 refine wpAny_bind (wpAny_pure (wpAny_bind (wpAny_dictEpoch ho hdat ?_)))
 rw [if_neg (by simp)]
 refine wpAny_pure ?_
 dsimp only
 rw [if_neg (show ¬ ((i : Int) < 0) from Int.not_lt.mpr (Int.natCast_nonneg i)), Int.toNat_natCast, Array.getElem?_eq_none hge]
 refine wpAny_bind ?_
 first | refine wpAny_bind (wpAny_typeNameOfWhole_keyiter hit.typeIs (wpAny_pure ?_)) | refine wpAny_bind (wpAny_typeNameOf_keyiter hit.typeIs (wpAny_pure ?_))
 show wpAny _ _ (setField (.ref it) 0 .none >>= _) _ _ s
 refine wpAny_bind (wpAny_setField hoi hdi (by simp) ?_)
 show wpAny _ _ (newExc (.type "StopIteration") [] >>= _) _ _ _
 refine wpAny_bind ?_
 simp only [newExc, newTuple]
 refine wpAny_bind (wpAny_newObj_type ?_ (by size_fits))
 refine wpAny_bind (m := firstArgMember _ _) (wpAny_of_eq (a := Value.none) (by first | rfl | (simp only [firstArgMember]; rfl)) ?_)
 refine wpAny_newObj_type ?_ (by size_fits)
 unfold raiseNew
 refine wpAny_bind (wpAny_handled ?_)
 rw [show A.in1.handled = none from hh]
 refine wpAny_bind (wpAny_pure (wpAny_throw ?_))
 refine wpAny_bind (wpAny_isInstance (T := "StopIteration") (b := true) ⟨_, Heap.get?_push_size _ rfl, rfl⟩ isSubtype_stop ?_)
 exact wpAny_pure (hQ _ (((Heap.SameBut.update ..).extBut.push _).push _))
end
end Mini
namespace Mini
open PySem PySem.W
section
variable {W : Wd} {h h' : Heap} {fs : List Env} {env : Env} {vis : List (Option Str)} {s s' : Shared} {io io' io₀ : Io} {m m' m₀ : MH} {r r' : Lo} {fr own own' : List Addr} {A : Around} {n : Nat} {pos p : Pos}
noncomputable def Sol (h h' : Heap) : Prop := ∀ b o, h.get? b = some o -> cA o -> h'.get? b = some o
theorem VR.sol (x : Sol h h') {v : V} {u : Value} (k : VR W h io v u) : VR W h' io v u := k.mono x fun y_ y_ e => e
theorem VRs.sol (x : Sol h h') {v : List V} {u : List Value} (k : VRs W h io v u) : VRs W h' io v u := k.mono x fun y_ y_ e => e
theorem ERs.sol (x : Sol h h') {kvs : List (Ky × V)} {es : List DictEntry} (e : ERs W h io kvs es) : ERs W h' io kvs es := e.mono x fun y_ y_ e => e
theorem FEs.sol (x : Sol h h') {fs : List (Nat × V)} {mA : Str -> Option Value} (e : FEs W h io fs mA) : FEs W h' io fs mA := e.mono x fun y_ y_ e => e
theorem OR.sol (x : Sol h h') {a d : Addr} {o : MObj} (k : OR W h io a d o) (ha : ∀ o, h.get? a = some o -> h'.get? a = some o) (hd : ∀ o, h.get? d = some o -> h'.get? d = some o) : OR W h' io a d o := by
 cases o with
 | list xs =>
  refine hide fun G_ g_ => ?_
  obtain ⟨e, vs, n, h1, h4, h5⟩ := k
  refine g_ ?_
  clear g_ G_
  exact ⟨e, vs, n, ha _ h1, h4.sol x, h5⟩
 | dict kvs ep =>
  refine hide fun G_ g_ => ?_
  obtain ⟨e, o, es, n, h1, h2, h3, h4, h5⟩ := k
  refine g_ ?_
  clear g_ G_
  exact ⟨e, o, es, n, ha _ h1, h2, h3, h4.sol x, h5⟩
 | inst c fs =>
  refine hide fun G_ g_ => ?_
  obtain ⟨e, mA, h1, h2, h3, h4⟩ := k
  refine g_ ?_
  clear g_ G_
  exact ⟨e, mA, ha _ h1, h2.at hd, h3.sol x, h4⟩
theorem HR.sol (H : HR W h io m) (x : Sol h h') (hf : ∀ b o, cU io b -> h.get? b = some o -> h'.get? b = some o) (hb : ∀ b o, W.base.get? b = some o -> h'.get? b = some o) : HR W h' io m :=
 ⟨hb, H.len, fun n p o hi hm => (H.obj n p o hi hm).sol x (fun o => hf p.1 o ⟨p, List.mem_of_getElem? hi, .inl rfl⟩) fun o => hf p.2 o ⟨p, List.mem_of_getElem? hi, .inr rfl⟩, H.fresh, H.apart⟩
structure Side (W : Wd) (wr : List Addr) (h₀ h : Heap) (io : Io) (h' : Heap) : Prop where
 keep : ∀ b o, b ∉ wr -> h.get? b = some o -> h'.get? b = some o
 new : ∀ b ∈ wr, h₀.get? b = none
 foot : ∀ b ∈ wr, ¬ cU io b
 soft : ∀ b ∈ wr, ∀ o, h.get? b = some o -> ¬ cA o
theorem Side.sol {wr : List Addr} {h₀ : Heap} (x : Side W wr h₀ h io h') : Sol h h' := fun b o e so => x.keep b o (fun q => x.soft b q o e so) e
theorem Side.step {wr : List Addr} {h₀ : Heap} (x : Side W wr h₀ h io h') (H : HR W h io m) (st : Step own fr h₀ io₀ m₀ h io m) : Step own fr h₀ io₀ m₀ h' io m := by
 have nw : ∀ b o, h₀.get? b = some o -> b ∉ wr := fun b o e q => by rw [x.new b q] at e; cases e
 refine ⟨fun b o e => ?_, fun b o e so => ?_, fun b o e f1 f2 f3 => x.keep _ _ (nw b o e) (st.keep b o e f1 f2 f3), fun b o e f1 f2 => ?_, st.grow, fun n p kvs ep hi hm => ?_⟩
 ·obtain ⟨o', e'⟩ := st.alive b o e
  exact ⟨o', x.keep _ _ (nw b o e) e'⟩
 ·exact x.keep _ _ (nw b o e) (st.solid b o e so)
 ·obtain ⟨sl, e'⟩ := st.slots b o e f1 f2
  exact ⟨sl, x.keep _ _ (nw b o e) e'⟩
 ·refine hide fun G_ g_ => ?_
  obtain ⟨k', e', q1, q2, q3⟩ := st.dicts n p kvs ep hi hm
  refine g_ ?_
  clear g_ G_
  refine ⟨k', e', q1, q2, fun q => ⟨?_, (q3 q).2⟩⟩
  have hi' := st.io_get hi
  obtain ⟨o, ho⟩ := H.there hi'
  rw [<- (q3 q).1, ho]
  exact x.keep _ _ (fun w => x.foot _ w ⟨p, List.mem_of_getElem? hi', .inl rfl⟩) ho
theorem Side.hr {wr : List Addr} {h₀ : Heap} (x : Side W wr h₀ h io h') (H : HR W h io m) (hb : ∀ b o, W.base.get? b = some o -> h₀.get? b = some o) : HR W h' io m :=
 H.sol x.sol (fun b o f e => x.keep b o (fun q => x.foot b q f) e) fun b o e => x.keep b o (fun q => by have := hb b o e; rw [x.new b q] at this; cases this) (H.keep b o e)
theorem aH0 {target : Expr} {I : Addr} {o : Obj} {T : String} {ws : Array Value} {u : Value} {Q : Unit -> Shared -> Prop} {E : Value -> Shared -> Prop} {M : Model} (ho : s.heap.get? I = some o) (hc : o.cls = .type T) (hd : o.data = .fields ws)
  (hT : (["enumerate", "zip", "dict_itemiterator", "dict_reverseitemiterator", "odict_iterator", "itertools.zip_longest", "itertools.pairwise"].contains T) = false) (h : Q () s) : wpAny M A (letOwnedTupleGo target (.ref I) u) Q E s := by
 have key : ∀ a : Addr, wpAny M A (do
   let o <- load I
   match o.cls, o.data with
   | .type n, .fields vs =>
    if ["enumerate", "zip", "dict_itemiterator", "dict_reverseitemiterator", "odict_iterator", "itertools.zip_longest", "itertools.pairwise"].contains n && vs[0]? == some (rawInt a) then
     rule "for.unpacks-the-owned-tuple"
     updateField I 0 .none
   | _, _ => pure ()) Q E s := fun a => by
  refine wpAny_bind (wpAny_load ho ?_)
  rw [hc, hd]
  simp only [hT, Bool.false_and]
  exact wpAny_pure h
 unfold letOwnedTupleGo
 cases target <;> first | exact wpAny_pure h | skip
 all_goals
  cases u <;> first | exact wpAny_pure h | exact key _
structure Wk (W : Wd) (A : Around) (I : Addr) (wr : List Addr) (g : Gd) (vs : List V) (St : Nat -> Heap -> Io -> Prop) : Prop where
 soft : ∀ {i : Nat} {h : Heap} {io : Io}, St i h io -> ∀ b ∈ wr, ¬ cU io b /\ ∀ o, h.get? b = some o -> ¬ cA o
 stay : ∀ {i : Nat} {h h' : Heap} {io io' : Io} {m m' : MH} {own fr : List Addr}, St i h io -> HR W h io m -> HR W h' io' m' -> Step own fr h io m h' io' m' -> (∀ b ∈ wr, b ∉ own /\ b ∉ fr) -> g.stays m = true -> g.stays m' = true -> St i h' io'
 item : ∀ {i : Nat} {s : Shared} {io : Io} {m : MH} {v : V} {Q : Option Value -> Shared -> Prop} {E : Value -> Shared -> Prop}, vs[i]? = some v -> St i s.heap io -> HR W s.heap io m -> g.stays m = true ->
  (∀ u h' tk, VR W s.heap io v u -> St (i + 1) h' io -> (∀ b o, b ∉ wr -> s.heap.get? b = some o -> h'.get? b = some o) -> Q (some u) { s with heap := h', toks := tk }) -> wpAny (model W.prog W.w) A (pyNext (.ref I)) Q E s
 alive : ∀ {i : Nat} {h : Heap} {io : Io}, St i h io -> ∀ b ∈ wr, ∃ o, h.get? b = some o
 self : ∀ {i : Nat} {s : Shared} {io : Io} {Q : Value -> Shared -> Prop} {E : Value -> Shared -> Prop}, St i s.heap io -> Q (.ref I) s -> wpAny (model W.prog W.w) A (pyIter (.ref I)) Q E s
 lot : ∀ {i : Nat} {s : Shared} {io : Io} {target : Expr} {u : Value} {Q : Unit -> Shared -> Prop} {E : Value -> Shared -> Prop}, St i s.heap io -> (∀ h', St i h' io -> (∀ b o, b ∉ wr -> s.heap.get? b = some o -> h'.get? b = some o) -> Q () { s with heap := h' }) -> wpAny (model W.prog W.w) A (letOwnedTupleGo target (.ref I) u) Q E s
 done : ∀ {s : Shared} {io : Io} {m : MH} {Q : Option Value -> Shared -> Prop} {E : Value -> Shared -> Prop}, St vs.length s.heap io -> HR W s.heap io m -> g.stays m = true ->
  (∀ h' tk, (∀ b o, b ∉ wr -> s.heap.get? b = some o -> h'.get? b = some o) -> Q none { s with heap := h', toks := tk }) -> wpAny (model W.prog W.w) A (pyNext (.ref I)) Q E s
theorem aD9 {C : Prop} (h : false = true) : C := by cases h
mutual
theorem cH6 : ∀ (x y : V), V.same x y = true -> x = y
 | .none, y, h => by cases y <;> first | rfl | (exact aD9 h)
 | .bool a, y, h => by cases y <;> first | (exact aD9 h) | (exact congrArg V.bool (eq_of_beq h))
 | .int a, y, h => by cases y <;> first | (exact aD9 h) | (exact congrArg V.int (eq_of_beq h))
 | .str a, y, h => by cases y <;> first | (exact aD9 h) | (exact congrArg V.str (eq_of_beq h))
 | .tup xs, y, h => by cases y <;> first | (exact aD9 h) | (exact congrArg V.tup (aE7 xs _ h))
 | .ref a, y, h => by cases y <;> first | (exact aD9 h) | (exact congrArg V.ref (eq_of_beq h))
 | .fn a, y, h => by cases y <;> first | (exact aD9 h) | (exact congrArg V.fn (eq_of_beq h))
 | .exc a, y, h => by cases y <;> first | (exact aD9 h) | (exact congrArg V.exc (eq_of_beq h))
 | .scr a, y, h => by cases y <;> first | (exact aD9 h) | (exact congrArg V.scr (eq_of_beq h))
theorem aE7 : ∀ (xs ys : List V), V.sames xs ys = true -> xs = ys
 | [], ys, h => by
  cases ys with
  | nil => rfl
  | cons y_ y_ => exact aD9 h
 | x :: xs, ys, h => by
  cases ys with
  | nil => exact aD9 h
  | cons y ys =>
   have h : (V.same x y && V.sames xs ys) = true := h
   rw [Bool.and_eq_true] at h
   rw [cH6 x y h.1, aE7 xs ys h.2]
end
theorem dT {o : Obj} {T : String} {vs : Array Value} (hc : o.cls = .type T) (hd : o.data = .fields vs) : ¬ cA o := by
 rintro (⟨y_, y_, y_, e⟩ | ⟨C, y_, e, y_⟩)
 ·rw [hd] at e; cases e
 ·rw [hc] at e; cases e
set_option tactic.hygienic true in
theorem Wk.list {I a d : Addr} {k : Nat} {xs : List V} (hh : A.handled = none) : Wk W A I [I] (.list k xs) xs (fun i h io => h.IsListIter I a i /\ io[k]? = some (a, d) /\ ¬ cU io I) where
 soft := fun ⟨⟨o, ho, hc, hd⟩, _, nf⟩ b hb => by
  rw [List.mem_singleton.mp hb]
  exact ⟨nf, fun o' e => by rw [ho] at e; cases e; exact dT hc hd⟩
 stay := fun ⟨⟨o, ho, hc, hd⟩, hi, nf⟩ H _ st hb _ _ => by
  have q := hb I (.head _)
  exact ⟨⟨o, st.keep _ _ ho nf q.1 q.2, hc, hd⟩, st.io_get hi, st.nofoot ho nf⟩
 item := fun {i s io m v Q E} hv ⟨hit, hi, nf⟩ H hg hQ => by
  simp only [Gd.stays] at hg
  split at hg
  ·rename_i ys hm
   have e := aE7 _ _ hg
   subst e
   refine hide fun G_ g_ => ?_
   obtain ⟨y_, us, c, h1, h2, h3⟩ := H.obj _ _ _ hi hm
   obtain ⟨u, hu, ku⟩ := h2.get hv
   refine g_ ?_
   clear g_ G_
   refine wpAny_pyNext_list_item hit ⟨_, h1, rfl, c, rfl⟩ (by simpa using hu) fun h' hit' hs => ?_
   exact hQ u h' s.toks ku ⟨hit', hi, nf⟩ fun b o hb e => (hs.2 b (by simpa using hb)).trans e
  ·cases hg
 alive := fun ⟨⟨o, ho, _⟩, _⟩ b hb => by rw [List.mem_singleton.mp hb]; exact ⟨o, ho⟩
 self := fun st hQ => wpAny_pyIter_listiter st.1 hQ
 lot := fun {i s io target u Q E} st hQ => by
  refine hide fun G_ g_ => ?_
  obtain ⟨⟨o, ho, hc, hd⟩, y_⟩ := id st
  refine g_ ?_
  clear g_ G_
  exact aH0 ho hc hd (by decide) (hQ _ st fun y_ y_ y_ e => e)
 done := fun {s io m Q E} ⟨hit, hi, nf⟩ H hg hQ => by
  simp only [Gd.stays] at hg
  split at hg
  ·rename_i ys hm
   have e := aE7 _ _ hg
   subst e
   refine hide fun G_ g_ => ?_
   obtain ⟨y_, us, c, h1, h2, h3⟩ := H.obj _ _ _ hi hm
   refine g_ ?_
   clear g_ G_
   have hl := h2.length
   refine wpAny_pyNext_list_end hh hit ⟨_, h1, rfl, c, rfl⟩ (by simp at hl; simp [hl]) fun h' hs => ?_
   exact hQ h' s.toks fun b o hb e => hs b o (by simpa using hb) e
  ·cases hg
theorem Wk.of_walks {I : Addr} {fp : List Addr} {k : Nat} {P : Nat -> Value -> Prop} {St : Nat -> Heap -> Prop} {vs : List V} (hw : Walks W.prog W.w A I fp [I] k P St) (hk : k = vs.length)
  (hP : ∀ (i : Nat) (v : V) (u : Value) (h : Heap) (io : Io), vs[i]? = some v -> P i u -> VR W h io v u)
  (hI : ∀ i h, St i h -> ∃ o T ws, h.get? I = some o /\ o.cls = .type T /\ o.data = .fields ws /\ (["enumerate", "zip", "dict_itemiterator", "dict_reverseitemiterator", "odict_iterator", "itertools.zip_longest", "itertools.pairwise"].contains T) = false)
  (hfp : ∀ b ∈ fp, b = I \/ ∃ o, W.base.get? b = some o) : Wk W A I [I] .none vs (fun i h io => St i h /\ ¬ cU io I) where
 soft := fun ⟨st, nf⟩ b hb => by
  rw [List.mem_singleton.mp hb]
  refine hide fun G_ g_ => ?_
  obtain ⟨o, T, ws, ho, hc, hd, hT⟩ := hI _ _ st
  refine g_ ?_
  clear g_ G_
  exact ⟨nf, fun o' e => by rw [ho] at e; cases e; exact dT hc hd⟩
 stay := fun {i h h' io io' m m' own fr} ⟨st, nf⟩ H H' x hb y_ y_ => by
  refine hide fun G_ g_ => ?_
  obtain ⟨o, T, ws, ho, hc, hd, hT⟩ := hI _ _ st
  refine g_ ?_
  clear g_ G_
  have q := hb I (.head _)
  refine ⟨hw.frame i h h' st fun b hb o' e => ?_, x.nofoot ho nf⟩
  rcases hfp b hb with rfl | ⟨ob, k⟩
  ·exact x.keep _ _ e nf q.1 q.2
  ·rw [H.keep _ _ k] at e; cases e; exact H'.keep _ _ k
 item := fun {i s io m v Q E} hv ⟨st, nf⟩ H hg hQ => by
  have hi : i < k := by rw [hk]; exact (List.getElem?_eq_some_iff.mp hv).1
  exact hw.item i s Q E hi st fun u h' tk p st' kk => hQ u h' tk (hP i v u _ _ hv p) ⟨st', nf⟩ kk
 alive := fun ⟨st, _⟩ b hb => by
  refine hide fun G_ g_ => ?_
  obtain ⟨o, y_, y_, ho, y_⟩ := hI _ _ st
  refine g_ ?_
  clear g_ G_
  rw [List.mem_singleton.mp hb]; exact ⟨o, ho⟩
 self := fun {i s io Q E} st hQ => hw.self i s Q E st.1 hQ
 lot := fun {i s io target u Q E} st hQ => by
  refine hide fun G_ g_ => ?_
  obtain ⟨o, T, ws, ho, hc, hd, hT⟩ := hI _ _ st.1
  refine g_ ?_
  clear g_ G_
  exact aH0 ho hc hd hT (hQ _ st fun y_ y_ y_ e => e)
 done := fun {s io m Q E} ⟨st, nf⟩ H hg hQ => hw.done s Q E (hk ▸ st) hQ
theorem ERs.keys {kvs : List (Ky × V)} {es : List DictEntry} (x : ERs W h io kvs es) : VRs W h io (kvs.map fun p => p.1.val) (es.map (·.key)) := by
 induction x using ERs.ind with
 | nil => exact .nil
 | cons h1 y_ y_ ih => exact .cons h1 ih
set_option tactic.hygienic true in
theorem aK5 {k e : Nat} (hg : (Gd.dict k e).stays m = true) : ∃ kvs, m[k]? = some (.dict kvs e) := by
 simp only [Gd.stays] at hg
 split at hg
 ·rename_i kvs e' hm
  rw [eq_of_beq hg]; exact ⟨kvs, hm⟩
 ·cases hg
theorem Wk.dict {I a d : Addr} {k e ep : Nat} {o : Obj} {es : Array DictEntry} {vs : List V} (hh : A.handled = none) (hd : o.data = .dict es ep) :
  Wk W A I [I] (.dict k e) vs (fun i h io => h.IsKeyIter I a i es.size ep /\ io[k]? = some (a, d) /\ h.get? a = some o /\ VRs W h io vs (es.toList.map (·.key)) /\ I ≠ a /\ ¬ cU io I) where
 soft := fun ⟨⟨oi, hoi, hci, hdi⟩, _, _, _, _, nf⟩ b hb => by
  rw [List.mem_singleton.mp hb]
  exact ⟨nf, fun o' e => by rw [hoi] at e; cases e; exact dT hci hdi⟩
 stay := fun {i h h' io io' m m' own fr} ⟨⟨oi, hoi, hci, hdi⟩, hi, ha, hv, hn, nf⟩ H H' st hb g1 g2 => by
  have q := hb I (.head _)
  obtain ⟨kvs, hm⟩ := aK5 g1
  obtain ⟨kvs', hm'⟩ := aK5 g2
  obtain ⟨ks, e', q1, y_, q3⟩ := st.dicts _ _ _ _ hi hm
  rw [hm'] at q1; cases q1
  exact ⟨⟨oi, st.keep _ _ hoi nf q.1 q.2, hci, hdi⟩, st.io_get hi, (q3 rfl).1.trans ha, hv.step st, hn, st.nofoot hoi nf⟩
 item := fun {i s io m v Q E} hv ⟨hit, hi, ha, hx, hn, nf⟩ H hg hQ => by
  refine hide fun G_ g_ => ?_
  obtain ⟨u, hu, ku⟩ := hx.get hv
  refine g_ ?_
  clear g_ G_
  rw [List.getElem?_map, Array.getElem?_toList] at hu
  have hlt : i < es.size := by
   rcases Nat.lt_or_ge i es.size with q | q
   ·exact q
   ·rw [Array.getElem?_eq_none q] at hu; cases hu
  rw [Array.getElem?_eq_getElem hlt] at hu
  cases hu
  refine bN1 hit ha hd hlt fun h' hit' hs => ?_
  have kk : ∀ b o, b ∉ [I] -> s.heap.get? b = some o -> h'.get? b = some o := fun b o hb e => (hs.2 b (by simpa using hb)).trans e
  refine hQ _ h' s.toks ku ⟨hit', hi, kk _ _ (by simpa using Ne.symm hn) ha, hx.sol fun b o e so => ?_, hn, nf⟩ kk
  refine hide fun G_ g_ => ?_
  obtain ⟨oi, hoi, hci, hdi⟩ := hit
  refine g_ ?_
  clear g_ G_
  exact kk b o (fun q => by rw [List.mem_singleton.mp q, hoi] at e; cases e; exact dT hci hdi so) e
 alive := fun ⟨⟨o, ho, _⟩, _⟩ b hb => by rw [List.mem_singleton.mp hb]; exact ⟨o, ho⟩
 self := fun st hQ => wpAny_pyIter_keyiter st.1 hQ
 lot := fun {i s io target u Q E} st hQ => by
  refine hide fun G_ g_ => ?_
  obtain ⟨⟨oi, hoi, hci, hdi⟩, y_⟩ := id st
  refine g_ ?_
  clear g_ G_
  exact aH0 hoi hci hdi (by decide) (hQ _ st fun y_ y_ y_ e => e)
 done := fun {s io m Q E} ⟨hit, hi, ha, hx, hn, nf⟩ H hg hQ => by
  have hl := hx.length
  refine bW2 hh hit ha hd (by simp at hl; omega) fun h' hs => ?_
  exact hQ h' s.toks fun b o hb e => hs b o (by simpa using hb) e
noncomputable def SrcP (W : Wd) (A : Around) (fs : List Env) (own : List Addr) (s : Shared) (io : Io) (m : MH) (p : List V × Gd) (t : Sem Value) : Prop :=
 ∀ (Q : Value -> Shared -> Prop) (E : Value -> Shared -> Prop), (∀ I wr St h' tk, Wk W A I wr p.2 p.1 St -> St 0 h' io -> (∀ b o, s.heap.get? b = some o -> h'.get? b = some o) -> (∀ b ∈ wr, s.heap.get? b = none) -> (p.2.stays m = true) -> Q (.ref I) { s with heap := h', toks := tk }) -> wpAny (model W.prog W.w) A t Q E s
theorem cQ (H : HR W s.heap io m) : ¬ cU io s.heap.objs.size := fun f => by
 refine hide fun G_ g_ => ?_
 obtain ⟨o, e, y_⟩ := H.foot f
 refine g_ ?_
 clear g_ G_
 rw [aP] at e; cases e
set_option tactic.hygienic true in
theorem bW6 (ok : WOk W) (hh : A.handled = none) (H : HR W s.heap io m) {v : V} {u : Value} (k : VR W s.heap io v u) {p : List V × Gd} {m' : MH} (hp : dZ v m = .ok p m') : m' = m /\ SrcP W A fs own s io m p (pyIter u) := by
 induction k using VR.elim with
 | none => cases hp
 | bool b => cases hp
 | int i t => cases hp
 | fn k => cases hp
 | exc => cases hp
 | tup y_ y_ => cases hp
 | str x t hx =>
  cases hp
  refine ⟨rfl, fun Q E hQ => ?_⟩
  have key : ∀ (T : String) (hT : (["enumerate", "zip", "dict_itemiterator", "dict_reverseitemiterator", "odict_iterator", "itertools.zip_longest", "itertools.pairwise"].contains T) = false) (hw : Walks W.prog W.w A s.heap.objs.size [s.heap.objs.size] [s.heap.objs.size] x.cps.size (SignAt x) (fun i h => h.IsStrIter s.heap.objs.size T x t i)), Wk W A s.heap.objs.size [s.heap.objs.size] .none (x.cps.toList.map fun c => V.str ⟨#[c]⟩) (fun i h io => h.IsStrIter s.heap.objs.size T x t i /\ ¬ cU io s.heap.objs.size) := fun T hT hw => by
   refine Wk.of_walks hw (by simp) (fun i v u h io hv hP => ?_) (fun i h ⟨o, ho, hc, hd⟩ => ⟨o, T, _, ho, hc, hd, hT⟩) fun b hb => .inl (by simpa using hb)
   refine hide fun G_ g_ => ?_
   obtain ⟨c, t', e1, rfl⟩ := hP
   refine g_ ?_
   clear g_ G_
   rw [List.getElem?_map, Array.getElem?_toList, e1] at hv
   cases hv
   exact .str _ _ (aQ7 hx e1)
  cases ha : x.cps.all (· < 128)
  ·exact wpAny_pyIter_wide ha (hQ _ _ _ _ _ (key _ (by decide) (Walks.strWide hh _ x t)) ⟨⟨_, Heap.get?_push_size _ rfl, rfl, rfl⟩, cQ H⟩ (aN _) (fun b hb => by rw [List.mem_singleton.mp hb]; exact aP _) rfl)
  ·exact wpAny_pyIter_ascii ha (hQ _ _ _ _ _ (key _ (by decide) (Walks.strAscii hh _ x t)) ⟨⟨_, Heap.get?_push_size _ rfl, rfl, rfl⟩, cQ H⟩ (aN _) (fun b hb => by rw [List.mem_singleton.mp hb]; exact aP _) rfl)
 | @ref n a d hi =>
  simp only [dZ] at hp
  split at hp
  ·rename_i xs hm
   cases hp
   refine hide fun G_ g_ => ?_
   obtain ⟨y_, us, c, h1, h2, h3⟩ := H.obj _ _ _ hi hm
   refine g_ ?_
   clear g_ G_
   refine ⟨rfl, fun Q E hQ => wpAny_pyIter_list ⟨_, h1, rfl, c, rfl⟩ ?_⟩
   refine hQ _ _ _ _ _ (Wk.list (a := a) (d := d) hh) ⟨⟨_, Heap.get?_push_size _ rfl, rfl, rfl⟩, hi, cQ H⟩ (aN _) (fun b hb => by rw [List.mem_singleton.mp hb]; exact aP _) ?_
   simp only [Gd.stays, hm]; exact eU xs
  ·rename_i kvs e hm
   cases hp
   refine hide fun G_ g_ => ?_
   obtain ⟨y_, o, es, c, h1, h2, h3, h4, h5, h6⟩ := H.obj _ _ _ hi hm
   refine g_ ?_
   clear g_ G_
   refine ⟨rfl, fun Q E hQ => bN2 (H.notSys ok ⟨_, List.mem_of_getElem? hi, .inl rfl⟩) h1 h2 h3 ?_⟩
   refine hQ _ _ _ _ _ (Wk.dict (a := a) (d := d) (k := n) (e := e) hh h3) ⟨⟨_, Heap.get?_push_size _ rfl, rfl, rfl⟩, hi, aN _ _ _ h1, h4.keys.step (.of_keeps (own := []) (fr := []) H (aN _)), fun e => ?_, cQ H⟩ (aN _) (fun b hb => by rw [List.mem_singleton.mp hb]; exact aP _) ?_
   ·have h1 : s.heap.get? a = some o := h1
    rw [<- e, aP] at h1; cases h1
   ·simp only [Gd.stays, hm]; exact beq_self_eq_true e
  ·cases hp
 | scr y_ y_ y_ y_ y_ => cases hp
end
end Mini
namespace Mini
open PySem PySem.W
section
variable {W : Wd} {K : Frag} {h h' : Heap} {fs : List Env} {env : Env} {vis : List (Option Str)} {s s' : Shared} {io io' io₀ : Io} {m m' m₀ : MH} {r r' : Lo} {fr own own' : List Addr} {A : Around} {n : Nat} {pos p : Pos}
noncomputable def SiS (W : Wd) (A : Around) (fs : List Env) (env : Env) (vis : List (Option Str)) (t : Sem Flow) (c : Lo -> Mn (Fl × Lo)) : Prop :=
 ∀ (s : Shared) (io : Io) (m : MH) (r : Lo), Stt W fs env vis s io m r -> Si W (bF env) A (env :: fs) (SP W env vis) t s io m (c r m)
theorem cQ2 : SiS W A fs env vis (execs [] env) (fun r => ret (.next, r)) := fun y_ y_ y_ y_ Z => .pure (u := Flow.next) Z.H ⟨.next, Z.F⟩
theorem cA5 {st : Stmt} {rest : List Stmt} {c1 c2 : Lo -> Mn (Fl × Lo)} (h1 : SiS W A fs env vis (exec st env) c1) (h2 : SiS W A fs env vis (execs rest env) c2) :
  SiS W A fs env vis (execs (st :: rest) env) (fun r => bnd (c1 r) fun p => match p.1 with | .next => c2 p.2 | f => ret (f, p.2)) := by
 intro s io m r Z
 rw [execs_cons]
 refine Si.bind (h1 s io m r Z) fun f s₁ io₁ m₁ p y_ st H₁ k sm => ?_
 obtain ⟨q, r₁⟩ := p
 obtain ⟨kf, kF⟩ := k
 cases kf with
 | next => exact h2 _ _ _ _ (Z.stepO H₁ st kF)
 | cont => exact .pure H₁ ⟨.cont, kF⟩
 | ret kv => exact .pure H₁ ⟨.ret kv, kF⟩
theorem Si.bindE {α β α' β' : Type} {P : Heap -> Io -> α -> β -> Prop} {P' : Heap -> Io -> α' -> β' -> Prop} {t : Sem β} {k : β -> Sem β'} {R : Res α} {f : α -> Mn α'} (x : Si W [] A fs P t s io m R)
  (y : ∀ u s₁ io₁ m₁ v, R = .ok v m₁ -> Step [] (frs fs) s.heap io m s₁.heap io₁ m₁ -> HR W s₁.heap io₁ m₁ -> P s₁.heap io₁ v u -> Same s s₁ -> Si W own A fs P' (k u) s₁ io₁ m₁ (f v m₁)) :
  Si W own A fs P' (t >>= k) s io m (R.bind f) := by
 intro hne
 refine wpAny_bind (wpAny_mono (x (Res.bind_ne hne)) (fun u s₁ hp => ?_) fun e s₁ hp => ?_)
 ·refine hide fun G_ g_ => ?_
  obtain ⟨v, m₁, io₁, rfl, st, hr, hp, sm⟩ := hp
  refine g_ ?_
  clear g_ G_
  have st' := st.wk (own' := own) fun y_ q => nomatch q
  exact wpAny_mono (y u s₁ io₁ m₁ v rfl st hr hp sm hne) (fun y_ y_ z => z.mono st' sm) fun y_ y_ z => z.mono st' sm
 ·refine hide fun G_ g_ => ?_
  obtain ⟨c, m', io', a, g, h1, h2, h3, h4, h5, h6⟩ := hp
  refine g_ ?_
  clear g_ G_
  exact XP.bind (R := R) ⟨c, m', io', a, g, h1, h2, h3.wk (fun y_ q => nomatch q), h4, h5, h6⟩ .refl (.refl _)
theorem cQ0 {e : Expr} {c : Lo -> Mn V} (he : SiE W A (env :: fs) env vis (eval e env) c) : SiS W A fs env vis (exec (.Return (some e) pos) env) (fun r => bnd (c r) fun v => ret (.ret v, r)) := by
 intro s io m r Z
 rw [exec_Return_some]
 refine .standAt (Si.bindE (he s io m r Z.sit) fun u s₁ io₁ m₁ v y_ st H₁ k sm => ?_)
 exact .pure H₁ ⟨.ret k, Z.F.step0 Z.H st⟩
theorem cQ1 : SiS W A fs env vis (exec (.Pass pos) env) (fun r => ret (.next, r)) := fun y_ y_ y_ y_ Z => .standAt (.pure Z.H ⟨.next, Z.F⟩)
theorem cQ4 : SiS W A fs env vis (exec (.Continue pos) env) (fun r => ret (.cont, r)) := fun y_ y_ y_ y_ Z => .standAt (.pure Z.H ⟨.cont, Z.F⟩)
theorem x_if {test : Expr} {body orelse : List Stmt} {ct : Lo -> Mn Bool} {ca cb : Lo -> Mn (Fl × Lo)} (ht : SiB W A (env :: fs) env vis (isTrue test env (eval test env)) ct) (ha : SiS W A fs env vis (execs body env) ca) (hb : SiS W A fs env vis (execs orelse env) cb) :
  SiS W A fs env vis (exec (.If test body orelse pos) env) (fun r => bnd (ct r) fun t => if t then ca r else cb r) := by
 intro s io m r Z
 rw [exec_If]
 refine .standAt (Si.bindE (ht s io m r Z.sit) fun u s₁ io₁ m₁ v y_ st H₁ k sm => ?_)
 cases k
 cases v
 ·exact hb _ _ _ r (Z.step H₁ st)
 ·exact ha _ _ _ r (Z.step H₁ st)
theorem x_exp {e : Expr} {c : Lo -> Mn V} (hs : swapsWith e none pos.line env = Pure.pure false) (he : SiE W A (env :: fs) env vis (eval e env) c) : SiS W A fs env vis (exec (.Expr e pos) env) (fun r => bnd (c r) fun y_ => ret (.next, r)) := by
 intro s io m r Z
 rw [exec_Expr env e pos (by unfold interactive; rw [Z.F.kind]; rfl) hs]
 refine .standAt (Si.bindE (he s io m r Z.sit) fun u s₁ io₁ m₁ v y_ st H₁ k sm => ?_)
 exact fun y_ => wpAny_dropValue ⟨_, m₁, io₁, rfl, .refl, H₁, ⟨.next, Z.F.step0 Z.H st⟩, .refl _⟩
noncomputable def SiA (W : Wd) (A : Around) (fs : List Env) (env : Env) (vis : List (Option Str)) (target : Expr) (c : V -> Lo -> Mn Lo) : Prop :=
 ∀ (s : Shared) (io : Io) (m : MH) (r : Lo) (v : V) (u : Value), Stt W fs env vis s io m r -> VR W s.heap io v u -> Si W (bF env) A (env :: fs) (RP W env vis) (assign target env u) s io m (c v r m)
theorem Si.bindName {x : Str} {u : Value} {α : Type} {P : Heap -> Io -> α -> Unit -> Prop} {R : Res α} (h : Si W own A fs P (storeName env x u) s io m R) : Si W own A fs P (PySem.bindName env x u) s io m R := fun hne => wpAny_bindName (h hne)
theorem aV0 {i : Nat} {x : Str} (hv : vis[i]? = some (some x)) (hk : env.kindOf x = some .local \/ env.kindOf x = some .cell) : SiA W A fs env vis (.Name x pos) (fun v r m => .ok (r.set i (some v)) m) :=
 fun y_ y_ y_ y_ y_ y_ Z k => .standAt (.bindName (bI9 Z hv hk k))
theorem bF8 {target value : Expr} {c : Lo -> Mn V} {ca : V -> Lo -> Mn Lo} (he : SiE W A (env :: fs) env vis (eval value env) c) (ha : SiA W A fs env vis target ca) (hs : swapsWithSole [target] value pos.line env = Pure.pure false) (hw : swappedStores [target] value env = Pure.pure none) (hst : (assignEach [target] env).map (·.2) = [assign target env]) :
  SiS W A fs env vis (exec (.Assign [target] value pos) env) (fun r => bnd (c r) fun v => bnd (ca v r) fun r' => ret (.next, r')) := by
 intro s io m r Z hne
 refine wpAny_Assign_stores ?_ hs hw
 rw [hst]
 refine wpAny_mono (he s io m r Z.sit (Res.bind_ne hne)) (fun u s₁ q => ?_) fun e s₁ hp => ?_
 ·refine hide fun G_ g_ => ?_
  obtain ⟨v, m₁, io₁, e1, st, H₁, k, sm⟩ := q
  refine g_ ?_
  clear g_ G_
  have ee : bnd (c r) (fun v => bnd (ca v r) fun r' => ret ((Fl.next, r') : Fl × Lo)) m = (ca v r m₁).bind fun r' => ret ((Fl.next, r') : Fl × Lo) := by show (c r m).bind _ = _; rw [e1]; rfl
  dsimp only at hne ⊢
  rw [ee] at hne ⊢
  have st' := st.wk (own' := bF env) fun y_ q => nomatch q
  refine wpAny_mono (ha s₁ io₁ m₁ r v u (Z.step H₁ st) k (Res.bind_ne hne)) (fun y_ s₂ q => ?_) fun e s₂ q => (q.mono st' sm).bind .refl (.refl _)
  refine hide fun G_ g_ => ?_
  obtain ⟨r₂, m₂, io₂, e2, st2, H2, k2, sm2⟩ := q
  refine g_ ?_
  clear g_ G_
  exact ⟨(.next, r₂), m₂, io₂, by rw [e2]; rfl, st'.trans st2, H2, ⟨.next, k2⟩, sm.trans sm2⟩
 ·refine hide fun G_ g_ => ?_
  obtain ⟨c', m', io', a, g, h1, h2, h3, h4, h5, h6⟩ := hp
  refine g_ ?_
  clear g_ G_
  exact XP.bind (R := c r m) ⟨c', m', io', a, g, h1, h2, h3.wk (fun y_ q => nomatch q), h4, h5, h6⟩ .refl (.refl _)
noncomputable def ItP (W : Wd) (A : Around) (h₀ : Heap) : Heap -> Io -> List V × Gd -> Value -> Prop := fun h io p u => ∃ I wr St, u = .ref I /\ Wk W A I wr p.2 p.1 St /\ St 0 h io /\ ∀ b ∈ wr, h₀.get? b = none
noncomputable def aI7 (W : Wd) (A : Around) (fs : List Env) (env : Env) (vis : List (Option Str)) (iter : Expr) (c : Lo -> Mn (List V × Gd)) : Prop :=
 ∀ (s : Shared) (io : Io) (m : MH) (r : Lo), Sit W fs env vis s io m r -> c r m ≠ .bad -> wpAny (model W.prog W.w) A (eval iter env) (fun x s₁ => wpAny (model W.prog W.w) A (pyIter x) (fun it s₂ => NP W [] (frs fs) s io m (ItP W A s.heap) (c r m) it s₂) (XP W [] fs s io m (c r m)) s₁) (XP W [] fs s io m (c r m)) s
theorem dU {h₀ : Heap} (st : Step own fr h₀ io₀ m₀ h io m) {b : Addr} (e : h.get? b = none) : h₀.get? b = none := by
 cases q : h₀.get? b with
 | none => rfl
 | some o => obtain ⟨o', e'⟩ := st.alive b o q; rw [e] at e'; cases e'
theorem bT8 {iter : Expr} {c : Lo -> Mn V} (ok : WOk W) (hh : A.handled = none) (he : SiE W A fs env vis (eval iter env) c) : aI7 W A fs env vis iter (fun r => bnd (c r) dZ) := by
 intro s io m r Z hne
 refine wpAny_mono (he s io m r Z (Res.bind_ne hne)) (fun u s₁ q => ?_) fun e s₁ q => q.bind .refl (.refl _)
 refine hide fun G_ g_ => ?_
 obtain ⟨v, m₁, io₁, e1, st, H₁, k, sm⟩ := q
 refine g_ ?_
 clear g_ G_
 have ee : bnd (c r) dZ m = dZ v m₁ := by show (c r m).bind _ = _; rw [e1]; rfl
 dsimp only at hne ⊢
 rw [ee] at hne ⊢
 cases hq : dZ v m₁ with
 | bad => exact absurd hq hne
 | exc c' m' => unfold dZ at hq; split at hq <;> first | cases hq | (split at hq <;> cases hq)
 | ok p m' =>
  obtain ⟨rfl, key⟩ := bW6 (fs := fs) (own := []) ok hh H₁ k hq
  refine key _ _ fun I wr St h' tk hw h0 hk hn hg => ?_
  have st2 : Step [] (frs fs) s₁.heap io₁ m' h' io₁ m' := .of_keeps H₁ hk
  exact ⟨p, m', io₁, rfl, st.trans st2, H₁.of_keeps hk, ⟨I, wr, St, rfl, hw, h0, fun b hb => dU st (hn b hb)⟩, sm⟩
theorem FR.sideN {wr : List Addr} {h₀ : Heap} (F : FR W h io env vis r) (x : Side W wr h₀ h io h') (hL : env.locals ∉ wr) (hc : ∀ y c, env.cells.lookup y = some c -> c ∉ wr) : FR W h' io env vis r := by
 refine hide fun G_ g_ => ?_
 obtain ⟨mp, hn, hl⟩ := F.loc
 refine g_ ?_
 clear g_ G_
 have sc : ∀ y c v, env.cells.lookup y = some c -> h.IsCell c v -> h'.IsCell c v := fun y c v hy ⟨o, ho, hd⟩ => ⟨o, x.keep _ _ (hc y c hy) ho, hd⟩
 refine ⟨F.kind, F.glob, F.blt, F.nofoot, F.fresh, ⟨mp, ?_, fun i y v h1 h2 h3 => ?_⟩, fun i y v h1 h2 h3 => ?_, fun y c hy => ?_, F.celex, F.apart, F.inj, F.len⟩
 ·refine hide fun G_ g_ => ?_
  obtain ⟨o, es, ep, ho, hd, q⟩ := hn
  refine g_ ?_
  clear g_ G_
  exact ⟨o, es, ep, x.keep _ _ hL ho, hd, q⟩
 ·refine hide fun G_ g_ => ?_
  obtain ⟨u, e, k⟩ := hl i y v h1 h2 h3
  refine g_ ?_
  clear g_ G_
  exact ⟨u, e, k.sol x.sol⟩
 ·refine hide fun G_ g_ => ?_
  obtain ⟨c, u, e, k1, k2⟩ := F.cel i y v h1 h2 h3
  refine g_ ?_
  clear g_ G_
  exact ⟨c, u, e, sc y c _ e k1, k2.sol x.sol⟩
 ·refine hide fun G_ g_ => ?_
  obtain ⟨⟨o, k1⟩, k2, k3⟩ := F.cells y c hy
  refine g_ ?_
  clear g_ G_
  exact ⟨⟨o, sc y c _ hy k1⟩, k2, k3⟩
theorem FR.side {wr : List Addr} {h₀ : Heap} (F : FR W h io env vis r) (x : Side W wr h₀ h io h') (hL : ∃ o, h₀.get? env.locals = some o) (hc : ∀ y c, env.cells.lookup y = some c -> ∃ o, h₀.get? c = some o) : FR W h' io env vis r := by
 have nw : ∀ b, (∃ o, h₀.get? b = some o) -> b ∉ wr := fun b ⟨o, e⟩ q => by rw [x.new b q] at e; cases e
 refine hide fun G_ g_ => ?_
 obtain ⟨mp, hn, hl⟩ := F.loc
 refine g_ ?_
 clear g_ G_
 have sc : ∀ y c v, env.cells.lookup y = some c -> h.IsCell c v -> h'.IsCell c v := fun y c v hy ⟨o, ho, hd⟩ => ⟨o, x.keep _ _ (nw c (hc y c hy)) ho, hd⟩
 refine ⟨F.kind, F.glob, F.blt, F.nofoot, F.fresh, ⟨mp, ?_, fun i y v h1 h2 h3 => ?_⟩, fun i y v h1 h2 h3 => ?_, fun y c hy => ?_, F.celex, F.apart, F.inj, F.len⟩
 ·refine hide fun G_ g_ => ?_
  obtain ⟨o, es, ep, ho, hd, q⟩ := hn
  refine g_ ?_
  clear g_ G_
  exact ⟨o, es, ep, x.keep _ _ (nw _ hL) ho, hd, q⟩
 ·refine hide fun G_ g_ => ?_
  obtain ⟨u, e, k⟩ := hl i y v h1 h2 h3
  refine g_ ?_
  clear g_ G_
  exact ⟨u, e, k.sol x.sol⟩
 ·refine hide fun G_ g_ => ?_
  obtain ⟨c, u, e, k1, k2⟩ := F.cel i y v h1 h2 h3
  refine g_ ?_
  clear g_ G_
  exact ⟨c, u, e, sc y c _ e k1, k2.sol x.sol⟩
 ·refine hide fun G_ g_ => ?_
  obtain ⟨⟨o, k1⟩, k2, k3⟩ := F.cells y c hy
  refine g_ ?_
  clear g_ G_
  exact ⟨⟨o, sc y c _ hy k1⟩, k2, k3⟩
theorem cW4 {g : Gd} {step : V -> Lo -> Mn (Fl × Lo)} {v : V} {vs : List V} {r : Lo} {m : MH} (h : g.stays m = true) : aM1 g step (v :: vs) r m = (step v r m).bind (fun p => match p.1 with | .ret x => ret (.ret x, p.2) | _ => aM1 g step vs p.2) := if_pos h
theorem cW3 {g : Gd} {step : V -> Lo -> Mn (Fl × Lo)} {r : Lo} {m : MH} (h : g.stays m = true) : aM1 g step [] r m = .ok (.next, r) m := if_pos h
theorem aM0 {g : Gd} {step : V -> Lo -> Mn (Fl × Lo)} {vs : List V} (h : aM1 g step vs r m ≠ .bad) : g.stays m = true := by
 cases q : g.stays m with
 | true => rfl
 | false =>
  have z : ¬ g.stays m = true := by rw [q]; exact Bool.false_ne_true
  cases vs with
  | nil => exact absurd (if_neg z) h
  | cons y_ y_ => exact absurd (if_neg z) h
inductive FInv (W : Wd) (fs : List Env) (env : Env) (vis : List (Option Str)) (s : Shared) (io : Io) (m : MH) (St : Nat -> Heap -> Io -> Prop) (g : Gd) (f : V -> Lo -> Mn (Fl × Lo)) (vs : List V) (R : Res (Fl × Lo)) (k : Nat) (s' : Shared) : Prop
 | mk (i : Nat) (r' : Lo) (io' : Io) (m' : MH) : k = vs.length - i -> i <= vs.length -> Step (bF env) (frs (env :: fs)) s.heap io m s'.heap io' m' -> HR W s'.heap io' m' -> FR W s'.heap io' env vis r' -> St i s'.heap io' -> Same s s' -> aM1 g f (vs.drop i) r' m' = R -> FInv W fs env vis s io m St g f vs R k s'
theorem cQ3 (hA : A.frames = some (env :: fs)) {target iter : Expr} {body : List Stmt} {c : Lo -> Mn (List V × Gd)} {ca : V -> Lo -> Mn Lo} {cb : Lo -> Mn (Fl × Lo)} (hsrc : aI7 W A (env :: fs) env vis iter c) (ha : SiA W A fs env vis target ca) (hb : SiS W A fs env vis (execs body env) cb) (hf : ∀ x, foldedSetIterable iter env x = Pure.pure x) :
  SiS W A fs env vis (exec (.For target iter body [] pos) env) (fun r => bnd (c r) fun p => aM1 p.2 (fun v r' => bnd (ca v r') fun r'' => cb r'') p.1 r) := by
 intro s io m r Z hne
 refine wpAny_For (wpAny_mono (hsrc s io m r Z.sit (Res.bind_ne hne)) (fun x s₁ q => wpAny_mono q (fun it s₂ q => ?_) fun e s₁ q => ?_) fun e s₁ q => ?_) hf
 rotate_left
 ·refine hide fun G_ g_ => ?_
  obtain ⟨c', m', io', a, g, h1, h2, h3, h4, h5, h6⟩ := q
  refine g_ ?_
  clear g_ G_
  exact XP.bind (R := c r m) ⟨c', m', io', a, g, h1, h2, h3.wk (fun y_ q => nomatch q), h4, h5, h6⟩ .refl (.refl _)
 ·refine hide fun G_ g_ => ?_
  obtain ⟨c', m', io', a, g, h1, h2, h3, h4, h5, h6⟩ := q
  refine g_ ?_
  clear g_ G_
  exact XP.bind (R := c r m) ⟨c', m', io', a, g, h1, h2, h3.wk (fun y_ q => nomatch q), h4, h5, h6⟩ .refl (.refl _)
 refine hide fun G_ g_ => ?_
 obtain ⟨⟨vs, g⟩, m₂, io₂, e2, st₂, H₂, ⟨I, wr, St, rfl, hw, h0, hnew⟩, sm₂⟩ := q
 refine g_ ?_
 clear g_ G_
 have ee : bnd (c r) (fun p => aM1 p.2 (fun v r' => bnd (ca v r') fun r'' => cb r'') p.1 r) m = aM1 g (fun v r' => bnd (ca v r') fun r'' => cb r'') vs r m₂ := by show (c r m).bind _ = _; rw [e2]; rfl
 dsimp only at hne ⊢
 rw [ee] at hne ⊢
 have hL : ∃ o, s.heap.get? env.locals = some o := by obtain ⟨y_, ⟨o, y_, y_, ho, y_⟩, y_⟩ := Z.F.loc; exact ⟨o, ho⟩
 have hC : ∀ y c, env.cells.lookup y = some c -> ∃ o, s.heap.get? c = some o := fun y c hy => by obtain ⟨⟨y_, o, ho, y_⟩, y_⟩ := Z.F.cells y c hy; exact ⟨o, ho⟩
 have hOwn : ∀ b ∈ bF env, ∃ o, s.heap.get? b = some o := fun b hb => by
  rcases List.mem_cons.mp hb with rfl | hb
  ·exact hL
  ·refine hide fun G_ g_ => ?_
   obtain ⟨⟨y, c'⟩, hm, hq⟩ := List.mem_filterMap.mp hb
   refine g_ ?_
   clear g_ G_
   exact hC y b hq
 have hFr : ∀ b ∈ frs (env :: fs), ∃ o, s.heap.get? b = some o := fun b hb => by
  refine hide fun G_ g_ => ?_
  obtain ⟨e, he, hf⟩ := List.mem_filterMap.mp hb
  obtain ⟨y_, L, o, y_, y_, h1, y_, y_, h4, y_⟩ := Z.sit.G e he
  refine g_ ?_
  clear g_ G_
  rw [h1] at hf; cases hf; exact ⟨o, h4⟩
 have hwr : ∀ b ∈ wr, b ∉ bF env /\ b ∉ frs (env :: fs) := fun b hb => ⟨fun q => (by obtain ⟨o, e⟩ := hOwn b q; rw [hnew b hb] at e; cases e), fun q => (by obtain ⟨o, e⟩ := hFr b q; rw [hnew b hb] at e; cases e)⟩
 have hbase : ∀ b o, W.base.get? b = some o -> s.heap.get? b = some o := Z.H.keep
 refine codeAny_forLoop_any (I := FInv W fs env vis s io m St g (fun v r' => bnd (ca v r') fun r'' => cb r'') vs (aM1 g (fun v r' => bnd (ca v r') fun r'' => cb r'') vs r m₂)) (fun k s' hI => ?_) vs.length ⟨0, r, io₂, m₂, by simp, Nat.zero_le _, st₂.wk (fun y_ q => nomatch q), H₂, Z.F.step0 Z.H st₂, h0, sm₂, by simp⟩
 refine hide fun G_ g_ => ?_
 obtain ⟨i, r', io', m', hk, hi, st, H, F, hst, sm, he⟩ := hI
 refine g_ ?_
 clear g_ G_
 have hne' : aM1 g (fun v r' => bnd (ca v r') fun r'' => cb r'') (vs.drop i) r' m' ≠ .bad := by rw [he]; exact hne
 have hg := aM0 hne'
 have sft := hw.soft hst
 by_cases hlt : i < vs.length
 ·have hv : vs[i]? = some vs[i] := List.getElem?_eq_getElem hlt
  have hd : vs.drop i = vs[i] :: vs.drop (i + 1) := List.drop_eq_getElem_cons hlt
  refine hw.item hv hst H hg fun u h₁ tk ku hst₁ kk => ?_
  have sd : Side W wr s.heap s'.heap io' h₁ := ⟨kk, hnew, fun b hb => (sft b hb).1, fun b hb => (sft b hb).2⟩
  refine hw.lot (s := { s' with heap := h₁, toks := tk }) hst₁ fun h₂ hst₂ kk₂ => ?_
  have sft₁ := hw.soft hst₁
  have H1 := sd.hr H hbase
  have st1 := sd.step H st
  have sd₂ : Side W wr s.heap h₁ io' h₂ := ⟨kk₂, hnew, fun b hb => (sft₁ b hb).1, fun b hb => (sft₁ b hb).2⟩
  have H2 := sd₂.hr H1 hbase
  have st2 := sd₂.step H1 st1
  have F2 := (F.side sd hL hC).side sd₂ hL hC
  have Z2 : Stt W fs env vis { s' with heap := h₂, toks := tk } io' m' r' := ⟨H2, F2, Z.G.step st2 Z.dis, Z.fr, Z.dis⟩
  have ku2 : VR W h₂ io' vs[i] u := (ku.sol sd.sol).sol sd₂.sol
  rw [hd] at he hne'
  rw [cW4 hg] at he hne'
  have hne1 : ca vs[i] r' m' ≠ .bad := fun q => hne' (by show ((ca vs[i] r' m').bind cb).bind _ = _; rw [q]; rfl)
  refine wpAny_mono (ha _ io' m' r' vs[i] u Z2 ku2 hne1) (fun y_ s₃ q => ?_) fun e s₃ q => ?_
  rotate_left
  ·rw [<- he]
   exact aL2 hA Z.fr ((q.bind (f := cb) .refl (.refl _)).bind st2 (sm.trans ⟨rfl, rfl⟩))
  refine hide fun G_ g_ => ?_
  obtain ⟨r₃, m₃, io₃, e3, st3, H3, F3, sm3⟩ := q
  refine g_ ?_
  clear g_ G_
  have st3' := st2.trans st3
  have Z3 : Stt W fs env vis s₃ io₃ m₃ r₃ := ⟨H3, F3, Z.G.step st3' Z.dis, Z.fr, Z.dis⟩
  have e4 : bnd (ca vs[i] r') (fun r'' => cb r'') m' = cb r₃ m₃ := by show (ca vs[i] r' m').bind _ = _; rw [e3]; rfl
  rw [e4] at he hne'
  have hne2 : cb r₃ m₃ ≠ .bad := fun q => hne' (by rw [q]; rfl)
  refine wpAny_mono (hb s₃ io₃ m₃ r₃ Z3 hne2) (fun f s₄ q => ?_) fun e s₄ q => ?_
  rotate_left
  ·rw [<- he]
   exact aL2 hA Z.fr (q.bind st3' (sm.trans (Same.trans ⟨rfl, rfl⟩ sm3)))
  refine hide fun G_ g_ => ?_
  obtain ⟨⟨fl, r₄⟩, m₄, io₄, e5, st4, H4, ⟨kf, F4⟩, sm4⟩ := q
  refine g_ ?_
  clear g_ G_
  rw [e5] at he hne'
  have st4' := st3'.trans st4
  have go : aM1 g (fun v r' => bnd (ca v r') fun r'' => cb r'') (vs.drop (i + 1)) r₄ m₄ = aM1 g (fun v r' => bnd (ca v r') fun r'' => cb r'') vs r m₂ -> ∃ k', k' < k /\ FInv W fs env vis s io m St g (fun v r' => bnd (ca v r') fun r'' => cb r'') vs (aM1 g (fun v r' => bnd (ca v r') fun r'' => cb r'') vs r m₂) k' s₄ := fun q => by
   have hg4 : g.stays m₄ = true := aM0 (by rw [q]; exact hne)
   exact ⟨vs.length - (i + 1), hk ▸ Nat.sub_succ_lt_self _ _ hlt, i + 1, r₄, io₄, m₄, rfl, hlt, st4', H4, F4, hw.stay hst₂ H2 H4 (st3.trans st4) hwr hg hg4, sm.trans (Same.trans ⟨rfl, rfl⟩ (sm3.trans sm4)), q⟩
  cases kf with
  | next => exact go he
  | cont => exact go he
  | ret kv => exact ⟨_, m₄, io₄, he.symm, st4', H4, ⟨.ret kv, F4⟩, sm.trans (Same.trans ⟨rfl, rfl⟩ (sm3.trans sm4))⟩
 ·have hi' : i = vs.length := by omega
  subst hi'
  refine hw.done hst H hg fun h₁ tk kk => ?_
  have sd : Side W wr s.heap s'.heap io' h₁ := ⟨kk, hnew, fun b hb => (sft b hb).1, fun b hb => (sft b hb).2⟩
  rw [List.drop_length] at he
  rw [cW3 hg] at he
  exact wpAny_execs_nil ⟨_, m', io', he.symm, sd.step H st, sd.hr H hbase, ⟨.next, F.side sd hL hC⟩, sm.trans ⟨rfl, rfl⟩⟩
end
end Mini
namespace Mini
open PySem PySem.W
section
variable {W : Wd} {fs : List Env} {env : Env} {vis : List (Option Str)} {s s' : Shared} {io io' : Io} {m m' : MH} {r r' : Lo} {A : Around} {n : Nat} {pos p : Pos}
noncomputable def Tgs (env : Env) (vis : List (Option Str)) : List Nat -> List Expr -> Prop
 | [], es => es = []
 | i :: is, es => ∃ x p es', es = .Name x p :: es' /\ vis[i]? = some (some x) /\ (env.kindOf x = some .local \/ env.kindOf x = some .cell) /\ Tgs env vis is es'
theorem Tgs.len : ∀ {is : List Nat} {es : List Expr}, Tgs env vis is es -> (assignEach es env).length = is.length /\ (assignEach es env).findIdx? (·.1) = none
 | [], _, h => by cases h; exact ⟨rfl, rfl⟩
 | i :: is, _, ⟨x, p, es', e, _, _, t⟩ => by
  subst e
  obtain ⟨h1, h2⟩ := t.len
  have e : assignEach (.Name x p :: es') env = (false, assign (.Name x p) env) :: assignEach es' env := rfl
  rw [e, List.findIdx?_cons, h2]
  exact ⟨by simp [h1], rfl⟩
theorem aG2 : ∀ {is : List Nat} {vs : List V} {r r' : Lo}, eG is vs r = some r' -> is.length = vs.length
 | [], [], _, _, _ => rfl
 | [], _ :: _, _, _, h => by cases h
 | _ :: _, [], _, _, h => by cases h
 | i :: is, v :: vs, r, r', h => congrArg Nat.succ (aG2 (show eG is vs (r.set i (some v)) = some r' from h))
theorem bM2 : ∀ {is : List Nat} {elts : List Expr}, Tgs env vis is elts -> ∀ {vs : List V} {us : List Value} {s : Shared} {io : Io} {m : MH} {r : Lo}, Stt W fs env vis s io m r -> VRs W s.heap io vs us ->
  Si W (bF env) A (env :: fs) (RP W env vis) (assignInOrder ((assignEach elts env).map (·.2)) us) s io m (ofO (eG is vs r) m)
 | [], _, h, vs, us, s, io, m, r, Z, k => by
  cases h
  induction k using VRs.elim with
  | nil => exact Si.pure (P := RP W env vis) Z.H Z.F
  | cons y_ y_ => exact Si.bad
 | i :: is, _, ⟨x, p, es', e, hv, hk, t⟩, vs, us, s, io, m, r, Z, k => by
  subst e
  induction k using VRs.elim with
  | nil => exact Si.bad
  | @cons v u vs us k1 k2 =>
   refine Si.bind (R := (.ok (r.set i (some v)) m : Res Lo)) (f := fun r' m' => ofO (eG is vs r') m') (.holding (aV0 (pos := p) hv hk _ _ _ _ _ _ Z k1)) fun y_ s₁ io₁ m₁ r₁ e st H kF sm => ?_
   cases e
   exact bM2 t (Z.stepO H st kF) (k2.step st)
theorem cE7 (hh : A.handled = none) {is : List Nat} {elts : List Expr} {x1 : Nat} (ht : Tgs env vis is elts) : SiA W A fs env vis (.Tuple elts x1 pos) (fun v r => aI9 (.many is) v r) := by
 intro s io m r v u Z k
 induction k using VR.elim with
 | @tup a vs c xs h1 h4 =>
  show Si W (bF env) A (env :: fs) (RP W env vis) _ s io m (ofO (eG is xs r) m)
  intro hne
  have hl : is.length = xs.length := by
   cases q : eG is xs r with
   | none => rw [q] at hne; exact absurd rfl hne
   | some r' => exact aG2 q
  refine wpAny_assign_Tuple hh ⟨_, h1, rfl, c, rfl⟩ (by rw [ht.len.1, hl]; have := h4.length; simpa using this.symm) ht.len.2 fun h' hx => ?_
  have hk : ∀ b o, s.heap.get? b = some o -> h'.get? b = some o := fun b o e => hx b o (fun q => by rw [q, aP] at e; cases e) e
  have st : Step (bF env) (frs (env :: fs)) s.heap io m h' io m := .of_keeps Z.H hk
  have st0 : Step [] (frs (env :: fs)) s.heap io m h' io m := .of_keeps Z.H hk
  have Z' : Stt W fs env vis { s with heap := h' } io m r := Z.step (Z.H.of_keeps hk) st0
  exact wpAny_mono (bM2 ht Z' (h4.step st) hne) (fun y_ y_ z => z.mono st ⟨rfl, rfl⟩) fun y_ y_ z => z.mono st ⟨rfl, rfl⟩
 | _ => exact Si.bad
end
end Mini
namespace Mini
open PySem PySem.W PyProof.Rows
noncomputable def SiQ (W : Wd) (A : Around) (fs : List Env) (env : Env) (vis : List (Option Str)) (t : Sem Flow) (c : Lo -> Mn (Fl × Lo)) : Prop :=
 ∀ (s : Shared) (io : Io) (m : MH) (r : Lo), Stt W fs env vis s io m r -> Si W [] A (env :: fs) (SP W env vis) t s io m (c r m)
section
variable {W : Wd} {K : Frag} {h h' h₀ : Heap} {fs l : List Env} {env : Env} {vis : List (Option Str)} {s s' : Shared} {io io' : Io} {m m' : MH} {r r' : Lo} {own : List Addr} {A : Around} {n : Nat} {pos p : Pos}
theorem XP.wk {α : Type} {R : Res α} {e : Value} {own' : List Addr} (x : XP W own l s io m R e s') (k : ∀ b ∈ own, b ∈ own') : XP W own' l s io m R e s' := by
 refine hide fun G_ g_ => ?_
 obtain ⟨c, m', io', a, g, h1, h2, h3, h4, h5, h6⟩ := x
 refine g_ ?_
 clear g_ G_
 exact ⟨c, m', io', a, g, h1, h2, h3.wk k, h4, h5, h6⟩
theorem bO4 {b : Addr} (F : FF W h io l) (hb : b ∈ frs l) : ∃ o es n, ¬ cU io b /\ h.get? b = some o /\ o.data = .dict es n := by
 refine hide fun G_ g_ => ?_
 obtain ⟨e, he, hf⟩ := List.mem_filterMap.mp hb
 obtain ⟨y_, L, o, es, n, h1, y_, h3, h4, h5⟩ := F e he
 refine g_ ?_
 clear g_ G_
 rw [h1] at hf; cases hf
 exact ⟨o, es, n, h3, h4, h5⟩
theorem land {g B h6 : Heap} (G0 : FF W h io l) (st : Step [] (frs l) h io m g io' m') (Hg : HR W g io' m') (kp : Kp W h io' l g B) (fl : B.StaysIn h6) (up : g.UpToSlots h6) :
  Step [] (frs l) h io m h6 io' m' /\ HR W h6 io' m' := by
 have get : ∀ b o, g.get? b = some o -> (cU io' b \/ cA o \/ W.base.get? b = some o \/ ((∃ o', h.get? b = some o') /\ b ∉ frs l)) -> h6.get? b = some o := fun b o e q => fl b o (kp b o e q)
 have frm : ∀ b, b ∈ frs l -> ∀ o, h.get? b = some o -> ∃ sl, h6.get? b = some { o with slots := sl } := fun b hb o ho => by
  refine hide fun G_ g_ => ?_
  obtain ⟨o1, es, n, h1, h2, h3⟩ := bO4 G0 hb
  refine g_ ?_
  clear g_ G_
  rw [ho] at h2; cases h2
  obtain ⟨sl, e1⟩ := st.slots b o ho h1 (fun q => nomatch q)
  obtain ⟨sl2, e2⟩ := up b _ e1 (fun vs q => by rw [show ({ o with slots := sl } : Obj).data = o.data from rfl, h3] at q; cases q)
  exact ⟨sl2, e2⟩
 have ft : ∀ b o, cU io' b -> g.get? b = some o -> h6.get? b = some o := fun b o f e => get b o e (.inl f)
 refine ⟨⟨fun b o e => ?_, fun b o e so => get b o (st.solid b o e so) (.inr (.inl so)), fun b o e f1 f2 f3 => get b o (st.keep b o e f1 f2 f3) (.inr (.inr (.inr ⟨⟨o, e⟩, f3⟩))), fun b o e f1 f2 => ?_, st.grow, fun n p kvs e hi hm => ?_⟩, ?_⟩
 ·by_cases hb : b ∈ frs l
  ·obtain ⟨sl, q⟩ := frm b hb o e; exact ⟨_, q⟩
  ·obtain ⟨o', q⟩ := st.alive b o e; exact ⟨o', get b o' q (.inr (.inr (.inr ⟨⟨o, e⟩, hb⟩)))⟩
 ·by_cases hb : b ∈ frs l
  ·exact frm b hb o e
  ·obtain ⟨sl, q⟩ := st.slots b o e f1 f2; exact ⟨sl, get b _ q (.inr (.inr (.inr ⟨⟨o, e⟩, hb⟩)))⟩
 ·refine hide fun G_ g_ => ?_
  obtain ⟨k1, e1, h1, h2, h3⟩ := st.dicts n p kvs e hi hm
  refine g_ ?_
  clear g_ G_
  refine ⟨k1, e1, h1, h2, fun q => ⟨?_, (h3 q).2⟩⟩
  obtain ⟨o, ho⟩ := Hg.there (st.io_get hi)
  rw [<- (h3 q).1, ho]
  exact ft _ _ ⟨p, List.mem_of_getElem? (st.io_get hi), .inl rfl⟩ ho
 ·refine ⟨fun b o e => get b o (Hg.keep b o e) (.inr (.inr (.inl e))), Hg.len, fun n p o hi hm => ?_, Hg.fresh, Hg.apart⟩
  exact (Hg.obj n p o hi hm).sol (fun b o e so => get b o e (.inr (.inl so))) (fun o e => ft _ o ⟨p, List.mem_of_getElem? hi, .inl rfl⟩ e) (fun o e => ft _ o ⟨p, List.mem_of_getElem? hi, .inr rfl⟩ e)
theorem cF8 {x : Str} {c : Nat} {args : List Expr} {np cpos : Pos} {cl : Lo -> Mn (List V)} {mg mb : Str -> Option Value} {pp : Program} {loose : List Str} {bmB bmN : List Value} {Bn B newId nid initId inN : String} (gl : Gl W K) (hh : A.handled = none)
  (Fn : ExcBaseFacts Bn newId inN bmN) (hBn : bmB.contains (.type Bn) = true) (F : ExcBaseFacts B nid initId bmB) (hbase : bmB.contains (.type "BaseException") = true)
  (T : TopRead pp loose mg mb W.base) (e : nsIn K mainGlobals x = some (some (.ref (W.ca c)))) (hq : excIn K (W.ca c) bmB newId = true) (hx : env.kindOf x = some .globalImplicit) (hd : (x == ("__debug__" : Str)) = false) (hs : aV args = true)
  (hl : SiL W A (env :: fs) env vis (spliced (backTo cpos (starEach args env))) cl) (hn : ∀ r m vs m', cl r m = .ok vs m' -> vs.length <= lid) :
  SiS W A fs env vis (exec (.Raise (some (.Call (.Name x np) args [] cpos)) none pos) env) (fun r => bnd (cl r) fun y_ m => .exc c m) := by
 intro s io m r Z hne
 have OW := own_of_in gl.X T e hq
 refine hide fun G_ g_ => ?_
 obtain ⟨bm, N, nm, qn, bs, hdct, sn, sub, ab, col, dd, k0, k1, k2, k3, k5, mN, hC, hN, hni, TL0⟩ := OW.obj
 refine g_ ?_
 clear g_ G_
 refine wpAny_Raise_call_subU Fn hBn F (mN := mN) (bm := bm) (N := N) (nm := nm) (q := qn) (bs := bs) (hdct := hdct) (sn := sn) (sub := sub) (ab := ab) (col := col) (dd := dd) (k0 := k0) (k1 := k1) (k2 := k2) (k3 := k3) (k5 := k5) (TL0.hasType hbase) hh (dP hs) hni (aL5 gl Z.sit e hx hd ⟨rfl, dW hs ?_⟩)
 refine wpAny_mono (hl s io m r Z.sit (Res.bind_ne hne)) (fun us s' q => ?_) fun y_ y_ q => (q.bind .refl (.refl _)).wk fun y_ q => nomatch q
 refine hide fun G_ g_ => ?_
 obtain ⟨vs, m', io', e', st, H, kv, sm⟩ := q
 refine g_ ?_
 clear g_ G_
 have hlen : us.length <= sizeLine := by rw [kv.length]; exact aM (hn r m vs m' e')
 have ee : bnd (cl r) (fun y_ m => .exc c m) m = (.exc c m' : Res (Fl × Lo)) := by show (cl r m).bind _ = _; rw [e']; rfl
 refine ⟨rfl, hlen, H.keep _ _ hC, ?_, TL0.keeps H.keep, fun h' e0 hm => ?_⟩
 ·obtain ⟨o, es, ep, ho, r⟩ := hN; exact ⟨o, es, ep, H.keep _ _ ho, r⟩
 dsimp only
 rw [ee]
 have G' : FF W s'.heap io' (env :: fs) := Z.sit.G.step0 st
 have hin : ∀ e ∈ env :: fs, ∀ b, e.frame = some b -> b ∈ frs (env :: fs) := fun e he b hb => List.mem_filterMap.mpr ⟨e, he, hb⟩
 refine ⟨c, m', io', e0, s'.heap, rfl, rfl, st.wk (fun y_ q => nomatch q), H, ⟨hideAll s'.heap (frs (env :: fs)), fun b o q hk => ?_, .inr (.inr ⟨us, fun b o q => of_hideAll _ q, funFrames_hide G'.funFrames hin, hm⟩)⟩, sm⟩
 refine hideAll_get _ q fun hb => ?_
 refine hide fun G_ g_ => ?_
 obtain ⟨o1, es, n, h1, h2, h3⟩ := bO4 G' hb
 refine g_ ?_
 clear g_ G_
 rw [q] at h2; cases h2
 rcases hk with hk | hk | hk | hk
 ·exact h1 hk
 ·rcases hk with ⟨_, vs, n, hv⟩ | ⟨C, vs, _, hv⟩
  ·rw [h3] at hv; cases hv
  ·rw [h3] at hv; cases hv
 ·refine hide fun G_ g_ => ?_
  obtain ⟨e1, he, hf⟩ := List.mem_filterMap.mp hb
  obtain ⟨y_, L, y_, y_, y_, f1, f2, y_⟩ := G' e1 he
  refine g_ ?_
  clear g_ G_
  rw [f1] at hf; cases hf
  rw [f2] at hk; cases hk
 ·exact hk.2 hb
theorem q_nil : SiQ W A fs env vis (execs [] env) (fun r => ret (.next, r)) := fun y_ y_ y_ y_ Z => .pure (u := Flow.next) Z.H ⟨.next, Z.F⟩
theorem cT3 {st : Stmt} {rest : List Stmt} {c1 c2 : Lo -> Mn (Fl × Lo)} (h1 : SiQ W A fs env vis (exec st env) c1) (h2 : SiQ W A fs env vis (execs rest env) c2) :
  SiQ W A fs env vis (execs (st :: rest) env) (fun r => bnd (c1 r) fun p => match p.1 with | .next => c2 p.2 | f => ret (f, p.2)) := by
 intro s io m r Z
 rw [execs_cons]
 refine Si.bind (h1 s io m r Z) fun f s₁ io₁ m₁ p y_ st H₁ k sm => ?_
 obtain ⟨q, r₁⟩ := p
 obtain ⟨kf, kF⟩ := k
 cases kf with
 | next => exact h2 _ _ _ _ (Z.stepO H₁ (st.wk fun y_ q => nomatch q) kF)
 | cont => exact .pure H₁ ⟨.cont, kF⟩
 | ret kv => exact .pure H₁ ⟨.ret kv, kF⟩
theorem q_ret {e : Expr} {c : Lo -> Mn V} (he : SiE W A (env :: fs) env vis (eval e env) c) : SiQ W A fs env vis (exec (.Return (some e) pos) env) (fun r => bnd (c r) fun v => ret (.ret v, r)) := by
 intro s io m r Z
 rw [exec_Return_some]
 refine .standAt (Si.bindE (he s io m r Z.sit) fun u s₁ io₁ m₁ v y_ st H₁ k sm => ?_)
 exact .pure H₁ ⟨.ret k, Z.F.step0 Z.H st⟩
theorem q_if {test : Expr} {body orelse : List Stmt} {ct : Lo -> Mn Bool} {ca cb : Lo -> Mn (Fl × Lo)} (ht : SiB W A (env :: fs) env vis (isTrue test env (eval test env)) ct) (ha : SiQ W A fs env vis (execs body env) ca) (hb : SiQ W A fs env vis (execs orelse env) cb) :
  SiQ W A fs env vis (exec (.If test body orelse pos) env) (fun r => bnd (ct r) fun t => if t then ca r else cb r) := by
 intro s io m r Z
 rw [exec_If]
 refine .standAt (Si.bindE (ht s io m r Z.sit) fun u s₁ io₁ m₁ v y_ st H₁ k sm => ?_)
 cases k
 cases v
 ·exact hb _ _ _ r (Z.step H₁ st)
 ·exact ha _ _ _ r (Z.step H₁ st)
theorem q_exp {e : Expr} {c : Lo -> Mn V} (hs : swapsWith e none pos.line env = Pure.pure false) (he : SiE W A (env :: fs) env vis (eval e env) c) : SiQ W A fs env vis (exec (.Expr e pos) env) (fun r => bnd (c r) fun y_ => ret (.next, r)) := by
 intro s io m r Z
 rw [exec_Expr env e pos (by unfold interactive; rw [Z.F.kind]; rfl) hs]
 refine .standAt (Si.bindE (he s io m r Z.sit) fun u s₁ io₁ m₁ v y_ st H₁ k sm => ?_)
 exact fun y_ => wpAny_dropValue ⟨_, m₁, io₁, rfl, .refl, H₁, ⟨.next, Z.F.step0 Z.H st⟩, .refl _⟩
noncomputable def NmOk (env : Env) (vis : List (Option Str)) : Option Str -> Option Nat -> Prop
 | none, none => True
 | _, _ => False
theorem x_try {S : Sig} {x : Str} {c : Nat} {np hp rp : Pos} {body : List Stmt} {e : Expr} {nm : Option Str} {ni : Option Nat} {cb : Lo -> Mn (Fl × Lo)} {ch : Lo -> Mn V} (gl : Gl W K) (hA : A.frames = some (env :: fs)) (hb : SiQ W A fs env vis (execs body env) cb)
  (he : ∀ a, SiE W (A.mark (some (.ref a))) (env :: fs) env vis (eval e env) ch) (ex : nsIn K mainGlobals x = some (some (.ref (W.ca c)))) (hx : env.kindOf x = some .globalImplicit) (hd : (x == ("__debug__" : Str)) = false)
  (hm : ∀ d, ((S.cls[d]?).any fun k => k.supers.contains c) = true -> exmOne K (.ref (W.ca d)) (.ref (W.ca c)) = some true) (hnm : NmOk env vis nm ni) :
  SiS W A fs env vis (exec (.Try body [.ExceptHandler (some (.Name x np)) nm [.Return (some e) rp] hp] [] [] pos) env) (fun r => bI5 S (cb r) c ni ch r) := by
 intro s io m r Z hne
 have hb' : cb r m ≠ .bad := fun q => hne (by show bI5 S (cb r) c ni ch r m = _; unfold bI5; rw [q])
 refine wpAny_Try_except (wpAny_mono (hb s io m r Z hb') (fun f s₁ q => ?_) fun e1 s₁ q => ?_)
 ·refine hide fun G_ g_ => ?_
  obtain ⟨⟨fl, r1⟩, m1, io1, e1, st, H, ⟨kf, F⟩, sm⟩ := q
  refine g_ ?_
  clear g_ G_
  have ee : bI5 S (cb r) c ni ch r m = .ok (fl, r1) m1 := by unfold bI5; rw [e1]
  dsimp only
  rw [ee]
  have st' := st.wk (own' := bF env) (fun y_ q => nomatch q)
  cases kf with
  | next => exact wpAny_execs_nil ⟨_, m1, io1, rfl, st', H, ⟨.next, F⟩, sm⟩
  | cont => exact ⟨_, m1, io1, rfl, st', H, ⟨.cont, F⟩, sm⟩
  | ret kv => exact ⟨_, m1, io1, rfl, st', H, ⟨.ret kv, F⟩, sm⟩
 ·refine hide fun G_ g_ => ?_
  obtain ⟨d, m1, io1, a, g, e1, rfl, st, Hg, fly, sm⟩ := q
  refine g_ ?_
  clear g_ G_
  dsimp only at hne ⊢
  have ee : bI5 S (cb r) c ni ch r m = cR5 S c ni ch r d m1 := by unfold bI5; rw [e1]
  rw [ee] at hne ⊢
  by_cases hs : ((S.cls[d]?).any fun k => k.supers.contains c) = true
  rotate_left
  ·exact absurd (if_neg hs) hne
  ·have e0 : cR5 S c ni ch r d m1 = ((ch (exR ni d r) m1).nox).bind fun v => ret (.ret v, exN ni r) := if_pos hs
   rw [e0] at hne ⊢
   obtain ⟨v, m2, e2⟩ : ∃ v m2, ch (exR ni d r) m1 = .ok v m2 := by
    cases q : ch (exR ni d r) m1 with
    | ok v m2 => exact ⟨v, m2, rfl⟩
    | exc c m2 => rw [q] at hne; exact absurd rfl hne
    | bad => rw [q] at hne; exact absurd rfl hne
   have e3 : ((ch (exR ni d r) m1).nox).bind (fun v => ret (Fl.ret v, exN ni r)) = .ok (.ret v, exN ni r) m2 := by rw [e2]; rfl
   rw [e3]
   refine bA6 hA Z.fr fly fun B h4 a0 kp held up4 => ?_
   refine wpAny_landsW held fun h5 fl5 up5 => ?_
   obtain ⟨st5, H5⟩ := land Z.sit.G st Hg kp fl5.1 (up4.trans up5)
   have Z5 : Sit W (env :: fs) env vis { s₁ with heap := h5 } io1 m1 r := Z.sit.step H5 st5
   have LT : Looks (model W.prog W.w) h5 (typeOf (.ref a)) (.ref (W.ca d)) := by
    refine hide fun G_ g_ => ?_
    obtain ⟨ob, hob, hc⟩ := fl5.there
    refine g_ ?_
    clear g_ G_
    rw [<- hc]; exact (Looks.ld hob).andThen .now
   refine wpAny_handleBy_cons (codeAny_handlers_test (aL5 gl Z5 ex hx hd ((exm_one (gl.X.keeps H5.keep) LT (hm d hs)).here ?_))) (by intro q; cases q)
   have suite : ∀ (s' : Shared) (io' : Io) (r' : Lo), Stt W fs env vis s' io' m1 r' -> r' = exR ni d r -> Step (bF env) (frs (env :: fs)) s.heap io m s'.heap io' m1 -> Same s s' -> ∀ (Q : Flow -> Shared -> Prop) (E : Value -> Shared -> Prop),
     (∀ f s₂, NP W (bF env) (frs (env :: fs)) s io m (SP W env vis) (.ok (.ret v, r') m2) f s₂ -> Q f s₂) -> wpAny (model W.prog W.w) (A.mark (some (.ref a))) (execs [.Return (some e) rp] env) Q E s' := by
    intro s' io' r' Z' hr st' sm' Q E hQ
    subst hr
    have key := cA5 (cQ0 (pos := rp) (he a)) (cQ2 (W := W) (A := A.mark (some (.ref a))) (fs := fs) (env := env) (vis := vis)) s' io' m1 _ Z'
    have er : (bnd (bnd (ch (exR ni d r)) fun v => ret (Fl.ret v, exR ni d r)) fun p => match p.1 with | .next => ret (.next, p.2) | f => ret (f, p.2)) m1 = .ok (.ret v, exR ni d r) m2 := by
     show Res.bind (Res.bind (ch (exR ni d r) m1) _) _ = _
     rw [e2]; rfl
    have key2 : Si W (bF env) (A.mark (some (.ref a))) (env :: fs) (SP W env vis) (execs [.Return (some e) rp] env) s' io' m1 (.ok (.ret v, exR ni d r) m2) := by
     rw [<- er]; exact key
    refine wpAny_mono (key2 (fun q => by cases q)) (fun f s₂ q => hQ f s₂ (q.mono st' sm')) fun y_ y_ q => ?_
    refine hide fun G_ g_ => ?_
    obtain ⟨y_, y_, y_, y_, y_, q, y_⟩ := q
    refine g_ ?_
    clear g_ G_
    cases q
   cases ni with
   | none =>
    cases nm with
    | some y => exact hnm.elim
    | none =>
     refine codeAny_handlers_suite ?_
     refine lands_againW fl5 fun h6 fl6 up6 => ?_
     obtain ⟨st6, H6⟩ := land Z.sit.G st Hg kp fl6.1 ((up4.trans up5).trans up6)
     have Z6 : Stt W fs env vis { s₁ with heap := h6 } io1 m1 r := ⟨H6, Z.F.step0 Z.H st6, Z.G.step0 st6, Z.fr, Z.dis⟩
     exact suite _ _ r Z6 rfl (st6.wk fun y_ q => nomatch q) ⟨sm.1, sm.2⟩ _ _ fun f s₂ q => q
   | some i => cases nm <;> exact hnm.elim
end
end Mini
namespace Mini
open PySem PySem.W
section
variable {W : Wd} {K : Frag} {h h' : Heap} {fs : List Env} {env : Env} {vis : List (Option Str)} {s s' : Shared} {io io' io₀ : Io} {m m' m₀ : MH} {r r' : Lo} {fr own own' : List Addr} {A : Around} {n : Nat} {pos p : Pos}
inductive WInv (W : Wd) (fs : List Env) (env : Env) (vis : List (Option Str)) (s : Shared) (io : Io) (m : MH) (ct : Lo -> Mn Bool) (cb : Lo -> Mn (Fl × Lo)) (R : Res (Fl × Lo)) (k : Nat) (s' : Shared) : Prop
 | mk (r' : Lo) (io' : Io) (m' : MH) : Step (bF env) (frs (env :: fs)) s.heap io m s'.heap io' m' -> HR W s'.heap io' m' -> FR W s'.heap io' env vis r' -> Same s s' -> bG1 ct cb k r' m' = R -> WInv W fs env vis s io m ct cb R k s'
theorem Wk.range {I : Addr} {a c : Int} {k : Nat} {vs : List V} (hh : A.handled = none) (hk : k = vs.length) (hv : ∀ (i : Nat) (v : V), vs[i]? = some v -> v = .int (a + i * c)) : Wk W A I [I] .none vs (fun i h io => IsRangeIter h I (a + (i : Nat) * c) ((k : Int) - (i : Nat)) c /\ ¬ cU io I) :=
 Wk.of_walks (Walks.range hh I a c k) hk (fun i v u h io e ⟨t, q⟩ => by rw [hv i v e, q]; exact .int _ _) (fun i h ht => ⟨_, _, _, ht, rfl, rfl, by decide⟩) fun b hb => .inl (by simpa using hb)
theorem aK8 {f : Nat -> V} {k i : Nat} {v : V} (h : ((List.range k).map f)[i]? = some v) : v = f i := by
 rw [List.getElem?_map] at h
 cases q : (List.range k)[i]? with
 | none => rw [q] at h; cases h
 | some j =>
  rw [q] at h
  have hk : j = i := by
   obtain ⟨hlt, e⟩ := List.getElem?_eq_some_iff.mp q
   simp at e; omega
  cases h; rw [hk]
set_option tactic.hygienic true in
theorem aG6 {a b c : Int} (hc : 0 < c) : Builtin.Range.rangeSize a b c = (((b - a + c - 1) / c).toNat : Int) := by
 unfold Builtin.Range.rangeSize
 simp only [show c > 0 from hc, if_true]
 have e : (b - a + c - 1) / c = (b - a - 1) / c + 1 := by
  have : b - a + c - 1 = (b - a - 1) + 1 * c := by omega
  rw [this, Int.add_mul_ediv_right _ _ (by omega)]
 split
 ·have : 0 <= (b - a - 1) / c := Int.ediv_nonneg (by omega) (by omega)
  omega
 ·rename_i hle
  have h2 : (b - a - 1) / c < 0 := Int.ediv_neg_of_neg_of_pos (by omega) hc
  omega
theorem fitL {i : Int} (h1 : -(2 ^ 40) <= i) (h2 : i <= 2 ^ 40) : Builtin.Range.rangeFitsLong i = true := by
 unfold Builtin.Range.rangeFitsLong
 rw [Bool.and_eq_true]
 exact ⟨decide_eq_true (Int.le_trans (by decide) h1), decide_eq_true (Int.lt_of_le_of_lt h2 (by decide))⟩
theorem near {a : Int} (h : a.natAbs < 2 ^ 31) : -(2 ^ 31) <= a /\ a <= 2 ^ 31 := by omega
theorem bY6 {x c : Int} (hx : 0 <= x) (h : x <= 2 ^ 32) (hc : 0 < c) : -(2 ^ 40) <= x / c + 1 /\ x / c + 1 <= 2 ^ 40 := by
 have h1 : 0 <= x / c := Int.ediv_nonneg hx (Int.le_of_lt hc)
 have h2 : x / c <= x := Int.ediv_le_self _ hx
 clear hc
 omega
theorem gap {a b : Int} (a1 : -(2 ^ 31) <= a) (b2 : b <= 2 ^ 31) (h : a < b) : 0 <= b - a - 1 /\ b - a - 1 <= 2 ^ 32 := by omega
theorem bN0 {b c : Int} (b1 : -(2 ^ 31) <= b) (b2 : b <= 2 ^ 31) (c1 : -(2 ^ 31) <= c) (c2 : c <= 2 ^ 31) : -(2 ^ 40) <= b + (c - 1) /\ b + (c - 1) <= 2 ^ 40 := by omega
theorem aW4 {a b c : Int} (ha : a.natAbs < 2 ^ 31) (hb : b.natAbs < 2 ^ 31) (hc : c.natAbs < 2 ^ 31) (h0 : 0 < c) : Builtin.Range.small a b c = true := by
 obtain ⟨a1, a2⟩ := near ha
 obtain ⟨b1, b2⟩ := near hb
 obtain ⟨c1, c2⟩ := near hc
 have far : ∀ {i : Int}, -(2 ^ 31) <= i -> i <= 2 ^ 31 -> Builtin.Range.rangeFitsLong i = true := fun h1 h2 => fitL (Int.le_trans (by decide) h1) (Int.le_trans h2 (by decide))
 have hs : Builtin.Range.rangeFitsLong (Builtin.Range.rangeSize a b c) = true := by
  unfold Builtin.Range.rangeSize
  rw [if_pos h0]
  by_cases h : a < b
  ·rw [if_pos h]
   have g := gap a1 b2 h
   have d := bY6 g.1 g.2 h0
   exact fitL d.1 d.2
  ·rw [if_neg h]; rfl
 have l := bN0 b1 b2 c1 c2
 unfold Builtin.Range.small
 rw [far a1 a2, far b1 b2, far c1 c2, hs, if_pos h0, fitL l.1 l.2, Bool.or_true]; rfl
set_option tactic.hygienic true in
theorem aJ9 {vs : List V} {us : List Value} {l : List V} {m : MH} (H : HR W s.heap io m) (k : VRs W s.heap io vs us) (hr : fI vs = some l) {Q : Value -> Shared -> Prop} {E : Value -> Shared -> Prop}
  (hQ : ∀ (a b c : Int) (o : Obj) (tk : Nat) (t u v : Tok), a.natAbs < 2 ^ 31 -> b.natAbs < 2 ^ 31 -> c.natAbs < 2 ^ 31 -> 0 < c -> (l.length : Int) = Builtin.Range.rangeSize a b c -> (∀ (i : Nat) (v : V), l[i]? = some v -> v = .int (a + i * c)) -> IsRange (s.heap.push o) s.heap.objs.size a b c t u v -> Q (.ref s.heap.objs.size) { s with heap := s.heap.push o, toks := tk }) :
  wpAny (model W.prog W.w) A (call (.type "range") us) Q E s := by
 have e30 : (2 : Nat) ^ 30 < 2 ^ 31 := by decide
 unfold fI at hr
 split at hr
 ·split at hr <;> cases hr
  rename_i hlt
  refine VRs.dCons k fun y_ y_ k1 k2 => ?_
  ·
   cases k2
   cases k1
   refine call_range_1 (hQ 0 _ 1 _ _ _ _ _ (by decide) (Nat.lt_trans hlt e30) (by decide) (by decide) ?_ (fun i v e => ?_) (.new _ _ _ _ _ _ _))
   ·rw [aG6 (by decide)]; simp [aR3]
   ·rw [aK8 e, Int.mul_one]
 ·split at hr <;> cases hr
  rename_i hlt
  simp only [Bool.and_eq_true, decide_eq_true_eq] at hlt
  refine VRs.dCons k fun y_ y_ k1 k2 => ?_
  ·
   refine VRs.dCons k2 fun y_ y_ k2 k3 => ?_
   ·
    cases k3; cases k1; cases k2
    refine call_range_2 (hQ _ _ 1 _ _ _ _ _ (Nat.lt_trans hlt.1 e30) (Nat.lt_trans hlt.2 e30) (by decide) (by decide) ?_ (fun i v e => ?_) (.new _ _ _ _ _ _ _))
    ·rw [aG6 (by decide)]; simp [aR3]
    ·rw [aK8 e, Int.mul_one]
 ·cases hr
theorem bJ1 {x : Str} {es : List Expr} {cl : Lo -> Mn (List V)} (hh : A.handled = none) (gl : Gl W K) (e : nsIn K mainGlobals x = some none) (hv : bootBuiltins x = some (.type "range")) (hn : (x == ("__name__" : Str)) = false) (hx : env.kindOf x = some .globalImplicit) (hd : (x == ("__debug__" : Str)) = false) (hs : aV es = true)
  (hl : SiL W A fs env vis (spliced (backTo pos (starEach es env))) cl) : aI7 W A fs env vis (.Call (.Name x p) es [] pos) (fun r => bnd (cl r) fun vs => match fI vs with | some l => ret (l, .none) | none => bad) := by
 intro s io m r Z hne
 dsimp only at hne ⊢
 refine wpAny_Call_NameR (aL6 gl Z e hv hn hx hd (callWith_type (dP hs) (dW hs ?_)))
 refine wpAny_mono (hl s io m r Z (Res.bind_ne hne)) (fun us s₁ q => ?_) fun y_ y_ q => q.bind .refl (.refl _)
 refine hide fun G_ g_ => ?_
 obtain ⟨vs, m₁, io₁, e1, st, H, k, sm⟩ := q
 refine g_ ?_
 clear g_ G_
 have ee : bnd (cl r) (fun vs => match fI vs with | some l => ret (l, Gd.none) | none => bad) m = (match fI vs with | some l => ret (l, Gd.none) | none => bad) m₁ := by show (cl r m).bind _ = _; rw [e1]; rfl
 rw [ee] at hne ⊢
 show wpAny (model W.prog W.w) A (call (.type "range") us) _ _ s₁
 have fin : ∀ (a b c : Int) (o : Obj) (tk : Nat) (t u v : Tok) (l : List V), a.natAbs < 2 ^ 31 -> b.natAbs < 2 ^ 31 -> c.natAbs < 2 ^ 31 -> 0 < c -> (l.length : Int) = Builtin.Range.rangeSize a b c -> (∀ (i : Nat) (v : V), l[i]? = some v -> v = .int (a + i * c)) -> IsRange (s₁.heap.push o) s₁.heap.objs.size a b c t u v ->
   wpAny (model W.prog W.w) A (pyIter (.ref s₁.heap.objs.size)) (fun it s₂ => NP W [] (frs fs) s io m (ItP W A s.heap) (.ok (l, Gd.none) m₁) it s₂) (XP W [] fs s io m (.ok (l, Gd.none) m₁ : Res (List V × Gd))) { s₁ with heap := s₁.heap.push o, toks := tk } := by
  intro a b c o tk t u v l ha hb hc h0 hsz hle hr
  have st1 : Step [] (frs fs) s₁.heap io₁ m₁ (s₁.heap.push o) io₁ m₁ := .of_keeps H (aN _)
  have H1 : HR W (s₁.heap.push o) io₁ m₁ := H.of_keeps (aN _)
  refine wpAny_pyIter_range hr (aW4 ha hb hc h0) ?_
  have st2 : Step [] (frs fs) (s₁.heap.push o) io₁ m₁ _ io₁ m₁ := .of_keeps H1 (aN { cls := .type "range_iterator", data := .fields #[rawInt a, rawInt (Builtin.Range.rangeSize a b c), rawInt c] })
  refine ⟨(l, .none), m₁, io₁, rfl, (st.trans st1).trans st2, H1.of_keeps (aN _), ⟨_, _, _, rfl, Wk.range (a := a) (c := c) (k := l.length) hh rfl hle, ⟨?_, ?_⟩, fun b hb => ?_⟩, sm⟩
  ·have := Heap.get?_push_size (h := s₁.heap.push o) (o := { cls := .type "range_iterator", data := .fields #[rawInt a, rawInt (Builtin.Range.rangeSize a b c), rawInt c] }) rfl
   rw [<- hsz] at this ⊢
   simpa [IsRangeIter] using this
  ·exact cQ (s := { s₁ with heap := s₁.heap.push o }) H1
  ·rw [List.mem_singleton.mp hb]
   exact dU (st.trans st1) (aP _)
 cases hr : fI vs with
 | none => rw [hr] at hne; exact absurd rfl hne
 | some l => exact aJ9 H k hr fun a b c o tk t u v ha hb hc h0 hsz hle hr => fin a b c o tk t u v l ha hb hc h0 hsz hle hr
end
end Mini
namespace Mini
open PySem PySem.W
theorem aF4 {names : List Str} {us : List Value} (h : us.length = names.length) : ∀ n ∈ names, ((names.zip us).lookup n).isNone = false := by
 induction names generalizing us with
 | nil => intro n hn; cases hn
 | cons a as ih =>
  cases us with
  | nil => cases h
  | cons u us =>
   intro n hn
   simp only [List.zip_cons_cons, List.lookup_cons]
   cases q : n == a with
   | true => rfl
   | false =>
    rcases List.mem_cons.mp hn with rfl | hn
    ·simp at q
    ·exact ih (by simpa using h) n hn
theorem aP2 {names : List Str} {us : List Value} (h : us.length = names.length) (hd : names.Nodup) : (names.filterMap fun n => ((names.zip us).lookup n).map (n, ·)) = names.zip us := by
 have key : ∀ (ns : List Str) (vs : List Value) (g : Str -> Option Value), vs.length = ns.length -> ns.Nodup -> (∀ n v, (n, v) ∈ ns.zip vs -> g n = some v) -> (ns.filterMap fun n => (g n).map (n, ·)) = ns.zip vs := by
  intro ns
  induction ns with
  | nil => intro vs g _ _ _; simp
  | cons a as ih =>
   intro vs g hl hn hg
   cases vs with
   | nil => cases hl
   | cons u us =>
    have h1 := hg a u (by simp)
    rw [List.filterMap_cons]
    simp only [h1, Option.map_some, List.zip_cons_cons]
    rw [ih us g (by simpa using hl) (List.nodup_cons.mp hn).2 fun n v e => hg n v (by simp [e])]
 refine key names us _ h hd fun n v e => ?_
 clear key
 induction names generalizing us with
 | nil => simp at e
 | cons a as ih =>
  cases us with
  | nil => simp at e
  | cons u us =>
   simp only [List.zip_cons_cons, List.mem_cons, Prod.mk.injEq] at e
   simp only [List.zip_cons_cons, List.lookup_cons]
   rcases e with ⟨rfl, rfl⟩ | e
   ·simp
   ·have : n ≠ a := fun q => (List.nodup_cons.mp hd).1 (q ▸ (List.of_mem_zip e).1)
    have : (n == a) = false := by simpa using this
    rw [this]
    exact ih (by simpa using h) (List.nodup_cons.mp hd).2 e
theorem aK0 {fd : FuncData} {us : List Value} (hp : fd.params.posonlyargs = []) (hk : fd.params.kwonlyargs = []) (hv : fd.params.vararg = none) (hw : fd.params.kwarg = none) (hd : fd.defaults = .none) (hn : (fd.params.args.map (·.arg)).Nodup) (hl : us.length = fd.params.args.length) :
  bindArgs fd ⟨us, []⟩ = Pure.pure ((fd.params.args.map (·.arg)).zip us) := by
 have hm : ∀ k, ((List.take k (fd.params.args.map (·.arg))).filter fun n => (((fd.params.args.map (·.arg)).zip us).lookup n).isNone) = [] := by
  intro k
  rw [List.filter_eq_nil_iff]
  intro n hn' q
  rw [aF4 (by simpa using hl) n (List.mem_of_mem_take hn')] at q
  cases q
 have hz := aP2 (names := fd.params.args.map (·.arg)) (us := us) (by simpa using hl) hn
 rw [List.filterMap_map] at hz
 have e1 : seqItems? Value.none = Pure.pure none := rfl
 unfold bindArgs
 simp [hp, hk, hv, hw, hd, hl, e1, hm]
 exact congrArg Pure.pure hz
section
variable {W : Wd} {K : Frag} {h h' h₀ : Heap} {fs : List Env} {env : Env} {vis : List (Option Str)} {s s' : Shared} {io io' io₀ : Io} {m m' m₀ : MH} {r r' : Lo} {fr fr' own own' : List Addr} {A : Around} {n : Nat} {pos p : Pos}
theorem Step.shrink (H : HR W h₀ io m) (x : Step own fr h io m h' io' m') (k : ∀ b o, h₀.get? b = some o -> h.get? b = some o) (ho : ∀ b ∈ own, h₀.get? b = none \/ b ∈ own') (hf : ∀ b ∈ fr, h₀.get? b = none \/ b ∈ fr') : Step own' fr' h₀ io m h' io' m' := by
 have oo : ∀ b o, h₀.get? b = some o -> b ∉ own' -> b ∉ own := fun b o e q w => by
  rcases ho b w with z | z
  ·rw [z] at e; cases e
  ·exact q z
 have ff : ∀ b o, h₀.get? b = some o -> b ∉ fr' -> b ∉ fr := fun b o e q w => by
  rcases hf b w with z | z
  ·rw [z] at e; cases e
  ·exact q z
 refine ⟨fun b o e => x.alive b o (k b o e), fun b o e so => x.solid b o (k b o e) so, fun b o e f1 f2 f3 => x.keep b o (k b o e) f1 (oo b o e f2) (ff b o e f3), fun b o e f1 f2 => x.slots b o (k b o e) f1 (oo b o e f2), ?_, ?_⟩
 ·refine hide fun G_ g_ => ?_
  obtain ⟨new, e, hn⟩ := x.grow
  refine g_ ?_
  clear g_ G_
  have aF2 : ∀ b, h.get? b = none -> h₀.get? b = none := fun b e => by
   cases q : h₀.get? b with
   | none => rfl
   | some o => rw [k b o q] at e; cases e
  exact ⟨new, e, fun p hp => ⟨aF2 _ (hn p hp).1, aF2 _ (hn p hp).2⟩⟩
 ·intro i p kvs e hi hm
  refine hide fun G_ g_ => ?_
  obtain ⟨k', e', q1, q2, q3⟩ := x.dicts i p kvs e hi hm
  refine g_ ?_
  clear g_ G_
  refine ⟨k', e', q1, q2, fun q => ⟨?_, (q3 q).2⟩⟩
  obtain ⟨o, ho⟩ := H.there hi
  rw [(q3 q).1, ho, k _ _ ho]
theorem aI5 {kind : Str -> Option NameKind} {y : Str} : ∀ (binds : List (Str × Value)) (mp : Str -> Option Value), y ∉ binds.map (·.1) -> bindL kind binds mp y = mp y
 | [], _, _ => rfl
 | (n, v) :: r, mp, h => by
  simp only [List.map_cons, List.mem_cons, not_or] at h
  simp only [bindL]
  rw [aI5 r _ h.2]
  split
  ·simp [h.1]
  ·rfl
theorem aI6 {kind : Str -> Option NameKind} {y : Str} : ∀ (binds : List (Str × Value)) (mp : Str -> Option Value), y ∉ binds.map (·.1) -> bindC kind binds mp y = mp y
 | [], _, _ => rfl
 | (n, v) :: r, mp, h => by
  simp only [List.map_cons, List.mem_cons, not_or] at h
  simp only [bindC]
  rw [aI6 r _ h.2]
  split
  ·rfl
  ·simp [h.1]
theorem aU5 {kind : Str -> Option NameKind} {y : Str} {u : Value} (hk : kind y = some .local) : ∀ (binds : List (Str × Value)) (mp : Str -> Option Value), (binds.map (·.1)).Nodup -> (y, u) ∈ binds -> bindL kind binds mp y = some u
 | [], _, _, h => nomatch h
 | (n, v) :: r, mp, hn, h => by
  simp only [List.map_cons, List.nodup_cons] at hn
  simp only [bindL]
  rcases List.mem_cons.mp h with e | h
  ·cases e
   rw [aI5 r _ hn.1]; simp [hk]
  ·exact aU5 hk r _ hn.2 h
theorem aU6 {kind : Str -> Option NameKind} {y : Str} {u : Value} (hk : kind y = some .cell) : ∀ (binds : List (Str × Value)) (mp : Str -> Option Value), (binds.map (·.1)).Nodup -> (y, u) ∈ binds -> bindC kind binds mp y = some u
 | [], _, _, h => nomatch h
 | (n, v) :: r, mp, hn, h => by
  simp only [List.map_cons, List.nodup_cons] at hn
  simp only [bindC]
  rcases List.mem_cons.mp h with e | h
  ·cases e
   rw [aI6 r _ hn.1]; simp [hk]
  ·exact aU6 hk r _ hn.2 h
theorem aH6 {kindOf : Str -> Option NameKind} {names : List Str} {np : Nat} {vs : List V} {us : List Value} {i : Nat} {x : Str} {v : V} (hl : vs.length = np) (hu : VRs W h io vs us) (hv : (names.map some)[i]? = some (some x)) (hr : (vs.map some ++ List.replicate (names.length - np) (none : Option V))[i]? = some (some v)) :
  ∃ u, (x, u) ∈ (names.take np).zip us /\ VR W h io v u := by
 have hi : i < vs.length := by
  rcases Nat.lt_or_ge i vs.length with q | q
  ·exact q
  ·rw [List.getElem?_append_right (by simpa using q)] at hr
   have := List.mem_of_getElem? hr
   simp at this
 rw [List.getElem?_append_left (by simpa using hi), List.getElem?_map] at hr
 cases q : vs[i]? with
 | none => rw [q] at hr; cases hr
 | some v' =>
  rw [q] at hr; cases hr
  refine hide fun G_ g_ => ?_
  obtain ⟨u, hu', ku⟩ := hu.get q
  refine g_ ?_
  clear g_ G_
  refine ⟨u, ?_, ku⟩
  rw [List.getElem?_map] at hv
  have hx : names[i]? = some x := by
   cases w : names[i]? with
   | none => rw [w] at hv; cases hv
   | some y => rw [w] at hv; cases hv
  have : ((names.take np).zip us)[i]? = some (x, u) := by
   rw [List.getElem?_zip_eq_some]
   exact ⟨by rw [List.getElem?_take_of_lt (by omega)]; exact hx, hu'⟩
  exact List.mem_of_getElem? this
theorem bP2 {scope : Scope} {names : List Str} {np : Nat} {vs : List V} {us : List Value} {binds : List (Str × Value)} {qual : Str} {func : Option Addr} {code : Value} (H : HR W s.heap io m) (G : FF W s.heap io fs) (hl : vs.length = np) (hnp : np <= names.length) (hu : VRs W s.heap io vs us)
  (hk : scope.kind = .function) (hn : names.Nodup) (hkind : ∀ x ∈ names, scope.names.lookup x = some .local \/ scope.names.lookup x = some .cell) (hb : binds = (names.take np).zip us)
  (he : env = newEnv scope s.heap.objs.size mainGlobals (cellsFrom (s.heap.objs.size + 1) scope.names []) qual func code none builtinsNs) (hI : InCallC s env.locals (bindL env.kindOf binds fun y_ => none) env.cells (bindC env.kindOf binds fun y_ => none) s') :
  Stt W fs env (names.map some) s' io m (vs.map some ++ List.replicate (names.length - np) none) /\ (∀ b ∈ bF env, s.heap.get? b = none) := by
 have hloc : env.locals = s.heap.objs.size := by rw [he]; rfl
 have hkd : ∀ x, env.kindOf x = scope.names.lookup x := fun x => by rw [he]; rfl
 have keep := hI.toInCall.keep
 have hsz : us.length = np := by rw [hu.length, hl]
 have bn : binds.map (·.1) = names.take np := by
  rw [hb, List.map_fst_zip (by rw [hsz]; simp; omega)]
 have bnd' : (binds.map (·.1)).Nodup := by rw [bn]; exact hn.sublist (List.take_sublist _ _)
 have up : ∀ b, s.heap.objs.size <= b -> s.heap.get? b = none := fun b hb => by
  cases q : s.heap.get? b with
  | none => rfl
  | some o => exact absurd (Heap.lt_size q) (Nat.not_lt.mpr hb)
 have celUp : ∀ q ∈ env.cells, s.heap.get? q.2 = none := fun q hq => up _ (by have := hI.above q.1 q.2 hq; rw [hloc] at this; exact Nat.le_of_lt this)
 have basN : ∀ b, s.heap.get? b = none -> W.base.get? b = none := fun b e => by
  cases q : W.base.get? b with
  | none => rfl
  | some o => rw [H.keep _ _ q] at e; cases e
 have nfN : ∀ b, s.heap.get? b = none -> ¬ cU io b := fun b e f => by
  refine hide fun G_ g_ => ?_
  obtain ⟨o, ho, y_⟩ := H.foot f
  refine g_ ?_
  clear g_ G_
  rw [e] at ho; cases ho
 have st : Step [] [] s.heap io m s'.heap io m := .of_keeps H keep
 have own0 : ∀ b ∈ bF env, s.heap.get? b = none := fun b hb => by
  rcases List.mem_cons.mp hb with rfl | hb
  ·exact up _ (by rw [hloc]; exact Nat.le_refl _)
  ·refine hide fun G_ g_ => ?_
   obtain ⟨q, hq, e⟩ := List.mem_filterMap.mp hb
   refine g_ ?_
   clear g_ G_
   exact celUp _ (mem_of_lookup e)
 have cex : ∀ x, scope.names.lookup x = some .cell -> ∃ c, env.cells.lookup x = some c := fun x hx => by
  have := cellsFrom_some scope.names (s.heap.objs.size + 1) [] (x := x) (.inl hx)
  have e : env.cells = cellsFrom (s.heap.objs.size + 1) scope.names [] := by rw [he]; rfl
  rw [e]
  exact Option.isSome_iff_exists.mp this
 have memNames : ∀ (i : Nat) (x : Str), (names.map some)[i]? = some (some x) -> names[i]? = some x := fun i x hv => by
  rw [List.getElem?_map] at hv
  cases w : names[i]? with
  | none => rw [w] at hv; cases hv
  | some y => rw [w] at hv; cases hv
 have nofree : ∀ (i : Nat) (x : Str), (names.map some)[i]? = some (some x) -> env.kindOf x ≠ some .free := fun i x hv q => by
  rw [hkd] at q
  rcases hkind x (List.mem_of_getElem? (memNames i x hv)) with e | e <;> rw [q] at e <;> cases e
 refine ⟨⟨H.of_keeps keep, ⟨?_, ?_, ?_, ?_, ?_, ⟨_, hI.toInCall.ns, fun i x v h1 h2 h3 => ?_⟩, fun i x v h1 h2 h3 => ?_, fun x c hc => ?_, fun i x h1 h2 => ?_, fun x y c h1 h2 => ?_, fun i j x h1 h2 => ?_, ?_⟩, G.step0 st, ?_, fun L hL q => ?_⟩, own0⟩
 ·rw [he]; exact hk
 ·rw [he]; rfl
 ·rw [he]; rfl
 ·exact nfN _ (own0 _ (.head _))
 ·exact basN _ (own0 _ (.head _))
 ·refine hide fun G_ g_ => ?_
  obtain ⟨u, hm, ku⟩ := aH6 (kindOf := env.kindOf) hl hu h1 h2
  refine g_ ?_
  clear g_ G_
  exact ⟨u, aU5 h3 binds _ bnd' (hb ▸ hm), ku.step st⟩
 ·rcases h3 with h3 | h3
  ·refine hide fun G_ g_ => ?_
   obtain ⟨u, hm, ku⟩ := aH6 (kindOf := env.kindOf) hl hu h1 h2
   refine g_ ?_
   clear g_ G_
   obtain ⟨c, hc⟩ := cex x (by rw [<- hkd]; exact h3)
   refine ⟨c, u, hc, ?_, ku.step st⟩
   have := hI.cell x c hc
   rwa [aU6 h3 binds _ bnd' (hb ▸ hm)] at this
  ·exact absurd h3 (nofree i x h1)
 ·have hm := mem_of_lookup hc
  exact ⟨⟨_, hI.cell x c hc⟩, basN _ (celUp _ hm), fun e => by have := hI.above x c hm; rw [e] at this; exact absurd this (Nat.lt_irrefl _)⟩
 ·rcases h2 with h2 | h2
  ·exact cex x (by rw [<- hkd]; exact h2)
  ·exact absurd h2 (nofree i x h1)
 ·have h1' := mem_of_lookup h1
  have h2' := mem_of_lookup h2
  have : ∀ (l : List (Str × Addr)), l.Pairwise (fun x y => x.2 ≠ y.2) -> ∀ a ∈ l, ∀ b ∈ l, a.2 = b.2 -> a = b := by
   intro l hp
   induction l with
   | nil => intro a ha; cases ha
   | cons z zs ih =>
    obtain ⟨p1, p2⟩ := List.pairwise_cons.mp hp
    intro a ha b hb e
    rcases List.mem_cons.mp ha with ea | ha' <;> rcases List.mem_cons.mp hb with eb | hb'
    ·rw [ea, eb]
    ·rw [ea] at e; exact absurd e (p1 b hb')
    ·rw [eb] at e; exact absurd e.symm (p1 a ha')
    ·exact ih p2 a ha' b hb' e
  exact congrArg Prod.fst (this _ hI.apart _ h1' _ h2' rfl)
 ·have e1 := memNames i x h1
  have e2 := memNames j x h2
  exact (List.getElem?_inj (List.getElem?_eq_some_iff.mp e1).1 hn).mp (e1.trans e2.symm)
 ·simp [hl]; omega
 ·rw [he]; rfl
 ·have := own0 L q
  refine hide fun G_ g_ => ?_
  obtain ⟨e, hee, hf⟩ := List.mem_filterMap.mp hL
  obtain ⟨y_, L', o, y_, y_, h1, y_, y_, h4, y_⟩ := G e hee
  refine g_ ?_
  clear g_ G_
  rw [h1] at hf; cases hf; rw [this] at h4; cases h4
end
end Mini
namespace Mini
open PySem PySem.W
noncomputable def bO2 (K : Frag) (fd : FuncData) (d : FnD) : Bool :=
 fd.scope.kind == .function && !fd.scope.isCoroutine && !fd.scope.isGenerator && fd.globals == mainGlobals && fd.builtins == builtinsNs && fd.closure.isEmpty && fd.params.posonlyargs.isEmpty && fd.params.kwonlyargs.isEmpty && fd.params.vararg.isNone && fd.params.kwarg.isNone &&
 (match fd.defaults with | .none => true | _ => false) && decide (fd.params.args.map (·.arg) = d.names.take d.np) && decide (d.np <= d.names.length) && decide d.names.Nodup && (d.names.all fun x => fd.scope.names.lookup x == some .local || fd.scope.names.lookup x == some .cell) && codeIn K fd.code fd.qualname
section
variable {W : Wd} {K : Frag} {h h' h₀ : Heap} {fs : List Env} {env : Env} {vis : List (Option Str)} {s s' : Shared} {io io' io₀ : Io} {m m' m₀ : MH} {r r' : Lo} {fr fr' own own' : List Addr} {A : Around} {n : Nat} {pos p : Pos}
theorem bM9 {e : Value} {α β : Type} {R : Res α} {f : α -> Mn β} (hA : A.frames = some (env :: fs)) (hf : env.frame = some env.locals) {s₀ : Shared} (H : HR W s₀.heap io m) (k : ∀ b o, s₀.heap.get? b = some o -> s.heap.get? b = some o) (own0 : ∀ b ∈ bF env, s₀.heap.get? b = none) (sm : Same s₀ s)
  (x : XP W (bF env) (env :: fs) s io m R e s') : wpAny (model W.prog W.w) A (leaving env e) (fun y_ s'' => XP W [] fs s₀ io m (R.bind f) e s'') (fun y_ y_ => False) s' := by
 refine hide fun G_ g_ => ?_
 obtain ⟨c, m', io', a, g, rfl, rfl, st, Hg, ⟨B, kp, fly⟩, sm'⟩ := x
 refine g_ ?_
 clear g_ G_
 have hL : s₀.heap.get? env.locals = none := own0 _ (.head _)
 have frs' : ∀ b ∈ frs (env :: fs), s₀.heap.get? b = none \/ b ∈ frs fs := fun b hb => by
  have e : frs (env :: fs) = env.locals :: frs fs := by simp [frs, hf]
  rw [e] at hb
  rcases List.mem_cons.mp hb with rfl | hb
  ·exact .inl hL
  ·exact .inr hb
 have st0 : Step [] (frs fs) s₀.heap io m g io' m' := st.shrink H k (fun b hb => .inl (own0 b hb)) frs'
 have kp0 : Kp W s₀.heap io' fs g B := fun b o e q => kp b o e (q.imp id (Or.imp id (Or.imp id fun ⟨⟨o', e'⟩, q⟩ => ⟨⟨o', k b o' e'⟩, fun w => by
  rcases frs' b w with z | z
  ·rw [z] at e'; cases e'
  ·exact q z⟩)))
 rcases fly with ⟨a0, f1, f2⟩ | ⟨a0, L, env', f0, f0', f1, f2⟩ | ⟨args, f1, f2, f3⟩
 ·refine wpAny_leaves_onW hA hf f1 fun h' q1 q2 => ?_
  exact ⟨c, m', io', a, g, rfl, rfl, st0, Hg, ⟨B, kp0, .inl ⟨a0, q1, f2.trans q2⟩⟩, sm.trans ⟨sm'.1, sm'.2⟩⟩
 ·cases f0
  unfold leaving
  refine wpAny_bind (wpAny_noteFrame_againW f0' f1.2.2.2 ?_)
  refine wpAny_landsW f1 fun h' q1 q2 => ?_
  obtain ⟨k1, k2, ⟨y_, y_, k3⟩, k4⟩ := q1
  exact ⟨c, m', io', a, g, rfl, rfl, st0, Hg, ⟨B, kp0, .inl ⟨a0, ⟨k1, k2, k3, k4⟩, f2.trans q2⟩⟩, sm.trans ⟨sm'.1, sm'.2⟩⟩
 ·refine wpAny_leaves_madeW hA hf f1 f2 f3 fun h' t q1 q2 q3 q4 => ?_
  exact ⟨c, m', io', a, g, rfl, rfl, st0, Hg, ⟨B, kp0, .inl ⟨_, q1, (Heap.UpToSlots.of_keeps f3.keeps).trans q4⟩⟩, sm.trans ⟨sm'.1, sm'.2⟩⟩
theorem AR.deeper {A : Around} (R : AR A fs (n + 1)) (env : Env) : AR (A.deeper env) (env :: fs) n :=
 ⟨by show A.frames.map (env :: ·) = _; rw [R.frames]; rfl, by have := R.depth; show A.depth + 1 + 4 * n <= 900; omega, by have := R.units; show A.units + 3 + 40 * n + 400 <= 9000; omega⟩
set_option tactic.hygienic true in
theorem bZ2 {a : Addr} {o : Obj} {fd : FuncData} {body : List Stmt} {d : FnD} {Fb : Lo -> Mn (Fl × Lo)} (gl : Gl W K) (R : AR A fs (n + 1)) (ho : K.lookup a = some o) (hdata : o.data = .func fd) (hh : bO2 K fd d = true) (hb : fd.body = .stmts body)
  (hbody : ∀ env : Env, env.scope = fd.scope -> SiS W (A.deeper env) fs env (d.names.map some) (execs body env) Fb) :
  SiK W A fs (.ref a) (fun vs => if vs.length = d.np then bnd (Fb (vs.map some ++ List.replicate (d.names.length - d.np) none)) cW5 else bad) := by
 intro s io m vs us H G hu
 dsimp only
 simp only [bO2, Bool.and_eq_true, beq_iff_eq, Bool.not_eq_true', decide_eq_true_eq, List.isEmpty_iff, Option.isNone_iff_eq_none] at hh
 refine hide fun G_ g_ => ?_
 obtain ⟨⟨⟨⟨⟨⟨⟨⟨⟨⟨⟨⟨⟨⟨⟨h1, h2⟩, h3⟩, h4⟩, h5⟩, h6⟩, h7⟩, h8⟩, h9⟩, h10⟩, h11⟩, h12⟩, h13⟩, h14⟩, h15⟩, h16⟩ := hh
 refine g_ ?_
 clear g_ G_
 have hdef : fd.defaults = .none := by
  cases q : fd.defaults <;> rw [q] at h11 <;> first | rfl | (exact absurd h11 Bool.false_ne_true)
 split
 ·rename_i hl
  intro hne
  have hlen : us.length = fd.params.args.length := by
   have := congrArg List.length h12
   simp at this
   rw [hu.length, hl]; omega
  have hnd : (fd.params.args.map (·.arg)).Nodup := by rw [h12]; exact h14.sublist (List.take_sublist _ _)
  refine codeAny_call_function (by have := R.depth; simp only [recursionLimit]; omega) (H.get gl ho) hdata h2 h3 hb ((codeRec_of gl.X h16).keeps H.keep) ?_
  rw [aK0 h7 h8 h9 h10 hdef hnd hlen]
  refine wpAny_pure ?_
  rw [h4, h5, h6]
  have hkinds : ∀ x ∈ d.names, fd.scope.names.lookup x = some .local \/ fd.scope.names.lookup x = some .cell := fun x hx => by
   have := List.all_eq_true.mp h15 x hx
   simpa using this
  refine wpAny_newFunctionEnv_cells h1 (fun x hx => ?_) fun env he s₂ hI => ?_
  ·have hxn : x.1 ∈ d.names := by
    have := (List.of_mem_zip (show (x.1, x.2) ∈ _ from hx)).1
    rw [h12] at this
    exact List.mem_of_mem_take this
   rcases hkinds _ hxn with e | e
   ·exact .inl e
   ·exact .inr ⟨e, cellsFrom_some _ _ _ (.inl e)⟩
  ·rw [h12] at hI
   obtain ⟨Z, own0⟩ := bP2 H G hl h13 hu h1 h14 hkinds rfl he hI
   have keep := hI.toInCall.keep
   refine hide fun G_ g_ => ?_
   obtain ⟨hs, htk, hse⟩ := hI.toInCall.same
   refine g_ ?_
   clear g_ G_
   have sm : Same s s₂ := by rw [hse]; exact ⟨rfl, rfl⟩
   refine ⟨gl.ok.nolimit.keeps (fun b o e => keep b o (H.keep b o e)), codeAny_func ?_⟩
   have hsc : env.scope = fd.scope := by rw [he]; rfl
   have Rd := R.deeper env
   refine wpAny_mono (hbody env hsc s₂ io m _ Z (Res.bind_ne hne)) (fun f s₃ q => ?_) fun e s₃ q => ?_
   ·refine hide fun G_ g_ => ?_
    obtain ⟨⟨fl, r₃⟩, m₃, io₃, e3, st3, H3, ⟨kf, F3⟩, sm3⟩ := q
    refine g_ ?_
    clear g_ G_
    have frs' : ∀ b ∈ frs (env :: fs), s.heap.get? b = none \/ b ∈ frs fs := fun b hb => by
     have e : frs (env :: fs) = env.locals :: frs fs := by simp [frs, Z.fr]
     rw [e] at hb
     rcases List.mem_cons.mp hb with rfl | hb
     ·exact .inl (own0 _ (.head _))
     ·exact .inr hb
    have st0 : Step [] (frs fs) s.heap io m s₃.heap io₃ m₃ := st3.shrink H keep (fun b hb => .inl (own0 b hb)) frs'
    have ee : ∀ g : Fl × Lo -> Mn V, bnd (Fb (vs.map some ++ List.replicate (d.names.length - d.np) none)) g m = g (fl, r₃) m₃ := fun g => by show (Fb _ m).bind _ = _; rw [e3]; rfl
    rw [ee] at hne ⊢
    cases kf with
    | next => exact ⟨_, m₃, io₃, rfl, st0, H3, .none, sm.trans sm3⟩
    | cont => exact absurd rfl hne
    | ret kv => exact ⟨_, m₃, io₃, rfl, st0, H3, kv, sm.trans sm3⟩
   ·exact wpAny_mono (bM9 Rd.frames Z.fr H keep own0 sm q) (fun y_ y_ q => q) fun y_ y_ q => q.elim
 ·exact fun h => absurd rfl h
end
end Mini
namespace Mini
open PySem PySem.W
section
variable {W : Wd} {K : Frag} {h h' h₀ : Heap} {fs : List Env} {env : Env} {vis : List (Option Str)} {s s' : Shared} {io io' io₀ : Io} {m m' m₀ : MH} {r r' : Lo} {fr fr' own own' : List Addr} {A : Around} {n : Nat} {pos p : Pos}
theorem bF1 {scope : Scope} (hc : ∀ x k, (x, k) ∈ scope.names -> k = .free -> ∃ c, env.cells.lookup x = some c) :
    ∃ cl, closureFor scope env = Pure.pure cl /\ (∀ x c, cl.lookup x = some c -> env.cells.lookup x = some c) /\ (∀ x, (x, NameKind.free) ∈ scope.names -> ∃ c, cl.lookup x = some c) := by
  have key : ∀ (l : List (Str × NameKind)) (f : (Str × NameKind) -> List (Str × Addr) -> Sem (ForInStep (List (Str × Addr)))) (cs : List (Str × Addr)),
      (∀ x k cs, f (x, k) cs = if k == .free then (do let c <- cellOf env x; Pure.pure (.yield ((x, c) :: cs))) else Pure.pure (.yield cs)) ->
      (∀ x k, (x, k) ∈ l -> k = .free -> ∃ c, env.cells.lookup x = some c) -> (∀ x c, cs.lookup x = some c -> env.cells.lookup x = some c) ->
      ∃ cl, forIn l cs f = Pure.pure cl /\ (∀ x c, cl.lookup x = some c -> env.cells.lookup x = some c) /\ (∀ x, (x, NameKind.free) ∈ l -> ∃ c, cl.lookup x = some c) /\ (∀ x c, cs.lookup x = some c -> ∃ c', cl.lookup x = some c') := by
    intro l
    induction l with
    | nil => intro f cs _ _ h2; exact ⟨cs, rfl, h2, fun y_ q => (by cases q), fun x c q => ⟨c, q⟩⟩
    | cons p l ih =>
      intro f cs hf hl h2
      obtain ⟨x, k⟩ := p
      rw [List.forIn_cons, hf]
      by_cases q : k = .free
      · subst q
        obtain ⟨c, hcx⟩ := hl x .free (.head _) rfl
        have e1 : cellOf env x = Pure.pure c := by unfold cellOf; rw [hcx]
        rw [e1]
        obtain ⟨cl, g1, g2, g3, g4⟩ := ih f ((x, c) :: cs) hf (fun y j hy => hl y j (.tail _ hy)) (fun y c' hy => by
          rw [List.lookup_cons] at hy
          cases z : y == x with
          | true => rw [z] at hy; cases hy; rw [beq_iff_eq.mp z]; exact hcx
          | false => rw [z] at hy; exact h2 y c' hy)
        refine ⟨cl, g1, g2, fun y hy => ?_, fun y c' hy => ?_⟩
        · rcases List.mem_cons.mp hy with e | hy
          · cases e; exact g4 x c (by simp)
          · exact g3 y hy
        · by_cases z : y = x
          · subst z; exact g4 y c (by simp)
          · exact g4 y c' (by rw [List.lookup_cons]; have : (y == x) = false := by simpa using z
                              rw [this]; exact hy)
      · have q' : (k == NameKind.free) = false := by simpa using q
        simp only [q', Bool.false_eq_true, if_false]
        refine hide fun G_ g_ => ?_
        obtain ⟨cl, g1, g2, g3, g4⟩ := ih f cs hf (fun y j hy => hl y j (.tail _ hy)) h2
        refine g_ ?_
        clear g_ G_
        refine ⟨cl, g1, g2, fun y hy => ?_, g4⟩
        rcases List.mem_cons.mp hy with e | hy
        · cases e; exact absurd rfl q
        · exact g3 y hy
  have e : closureFor scope env = (forIn scope.names ([] : List (Str × Addr)) (fun (p : Str × NameKind) cs => if p.2 == .free then (do let c <- cellOf env p.1; Pure.pure (ForInStep.yield ((p.1, c) :: cs))) else Pure.pure (ForInStep.yield cs)) >>= fun cs => Pure.pure cs) := rfl
  rw [e]
  obtain ⟨cl, g1, g2, g3, y_⟩ := key scope.names (fun (p : Str × NameKind) cs => if p.2 == .free then (do let c <- cellOf env p.1; Pure.pure (ForInStep.yield ((p.1, c) :: cs))) else Pure.pure (ForInStep.yield cs)) [] (fun x k cs => rfl) hc (fun y_ y_ q => by cases q)
  exact ⟨cl, by rw [g1]; rfl, g2, g3⟩
theorem bD1 (H : HR W s.heap io m) (F : FR W s.heap io env vis r) (ho : env.locals ∈ own) {i : Nat} {x : Str} {v : V} {u : Value} (hv : vis[i]? = some (some x)) (hk : env.kindOf x = some .local) (k : VR W s.heap io v u) :
  Si W own A fs (RP W env vis) (storeName env x u) s io m (.ok (r.set i (some v)) m) := by
 intro y_
 have hi : i < vis.length := (List.getElem?_eq_some_iff.mp hv).1
 have row : ∀ (j : Nat) (y : Str) (w : V), vis[j]? = some (some y) -> (r.set i (some v))[j]? = some (some w) -> (y = x /\ w = v) \/ (y ≠ x /\ r[j]? = some (some w)) := by
  intro j y w h1 h2
  by_cases q : i = j
  ·subst q
   rw [List.getElem?_set_self (by rw [F.len]; exact hi)] at h2
   rw [hv] at h1
   cases h1; cases h2; exact .inl ⟨rfl, rfl⟩
  ·rw [List.getElem?_set_ne q] at h2
   refine .inr ⟨fun e => q (F.inj i j x hv (e ▸ h1)), h2⟩
 refine hide fun G_ g_ => ?_
 obtain ⟨mp, hn, hl⟩ := F.loc
 obtain ⟨oL, esL, epL, hoL, hdL, y_⟩ := id hn
 refine g_ ?_
 clear g_ G_
 refine wpAny_storeName_local hk hn (fun h' hn' hs => ?_) (by rw [F.kind]; rfl)
 have kk : ∀ b o, b ≠ env.locals -> s.heap.get? b = some o -> h'.get? b = some o := fun b o q e => (hs.2 b q).trans e
 have lv : ∀ o, s.heap.get? env.locals = some o -> ¬ cA o /\ ∃ o', h'.get? env.locals = some o' := fun o ho => by
  rw [hoL] at ho; cases ho
  refine hide fun G_ g_ => ?_
  obtain ⟨o', y_, y_, ho', y_⟩ := id hn'
  refine g_ ?_
  clear g_ G_
  exact ⟨dE hdL, o', ho'⟩
 have st : Step own (frs fs) s.heap io m h' io m := eS H (L := env.locals) ho kk lv F.nofoot
 have H' : HR W h' io m := H.ofOwn (own := own) (L := env.locals) ho kk lv F.nofoot F.fresh
 refine ⟨_, m, io, rfl, st, H', ?_, rfl, rfl⟩
 refine ⟨F.kind, F.glob, F.blt, F.nofoot, F.fresh, ⟨_, hn', fun j y w h1 h2 h3 => ?_⟩, fun j y w h1 h2 h3 => ?_, fun y c hy => ?_, F.celex, F.apart, F.inj, by simp [F.len]⟩
 ·rcases row j y w h1 h2 with ⟨rfl, rfl⟩ | ⟨q, h2⟩
  ·exact ⟨u, by simp, k.step st⟩
  ·refine hide fun G_ g_ => ?_
   obtain ⟨u', e, k'⟩ := hl j y w h1 h2 h3
   refine g_ ?_
   clear g_ G_
   exact ⟨u', by simp [q, e], k'.step st⟩
 ·rcases row j y w h1 h2 with ⟨rfl, rfl⟩ | ⟨q, h2⟩
  ·rw [hk] at h3; simp at h3
  ·refine hide fun G_ g_ => ?_
   obtain ⟨c, u', e, k1, k2⟩ := F.cel j y w h1 h2 h3
   refine g_ ?_
   clear g_ G_
   refine ⟨c, u', e, ?_, k2.step st⟩
   refine hide fun G_ g_ => ?_
   obtain ⟨oc, hoc, hdc⟩ := k1
   refine g_ ?_
   clear g_ G_
   exact ⟨oc, kk c oc (F.cells y c e).2.2 hoc, hdc⟩
 ·refine hide fun G_ g_ => ?_
  obtain ⟨⟨o, oc, hoc, hdc⟩, k2, k3⟩ := F.cells y c hy
  refine g_ ?_
  clear g_ G_
  exact ⟨⟨o, oc, kk c oc k3 hoc, hdc⟩, k2, k3⟩
theorem FR.weak (F : FR W h io env vis r) (k : ∀ (j : Nat) (w : V), r'[j]? = some (some w) -> r[j]? = some (some w)) (hl : r'.length = r.length) : FR W h io env vis r' := by
 refine hide fun G_ g_ => ?_
 obtain ⟨mp, hn, hl'⟩ := F.loc
 refine g_ ?_
 clear g_ G_
 exact ⟨F.kind, F.glob, F.blt, F.nofoot, F.fresh, ⟨mp, hn, fun i x v h1 h2 h3 => hl' i x v h1 (k i v h2) h3⟩, fun i x v h1 h2 h3 => F.cel i x v h1 (k i v h2) h3, F.cells, F.celex, F.apart, F.inj, hl.trans F.len⟩
noncomputable def aA5 (ifs : List Expr) (env : Env) (b : Bool) : Sem Bool := forIn ifs b fun c r => if r = true then do let ok <- isTrue c env (eval c env); Pure.pure (ForInStep.yield ok) else Pure.pure (ForInStep.yield r)
theorem aV9 (ifs : List Expr) : aA5 ifs env false = Pure.pure false := by
 induction ifs with
 | nil => rfl
 | cons c cs ih => unfold aA5; rw [List.forIn_cons]; exact ih
theorem cW0 : SiB W A fs env vis (aA5 [] env true) (fun y_ => ret true) := fun y_ y_ y_ y_ Z => .pure (u := true) Z.H rfl
theorem cM3 {c : Expr} {cs : List Expr} {ct cts : Lo -> Mn Bool} (hc : SiB W A fs env vis (isTrue c env (eval c env)) ct) (hs : SiB W A fs env vis (aA5 cs env true) cts) :
  SiB W A fs env vis (aA5 (c :: cs) env true) (fun r => bnd (ct r) fun b => if b then cts r else ret false) := by
 intro s io m r Z hne
 unfold aA5
 rw [List.forIn_cons]
 refine wpAny_bind ?_
 simp only [if_true]
 refine wpAny_bind (wpAny_mono (hc s io m r Z (Res.bind_ne hne)) (fun b s₁ q => wpAny_pure ?_) fun y_ y_ q => q.bind .refl (.refl _))
 refine hide fun G_ g_ => ?_
 obtain ⟨b', m₁, io₁, e1, st, H₁, rfl, sm⟩ := q
 refine g_ ?_
 clear g_ G_
 have ee : bnd (ct r) (fun b => if b then cts r else ret false) m = (if b' then cts r else ret false) m₁ := by show (ct r m).bind _ = _; rw [e1]; rfl
 dsimp only at hne ⊢
 rw [ee] at hne ⊢
 cases b' with
 | false =>
  show wpAny _ _ (aA5 cs env false) _ _ _
  rw [aV9]
  exact wpAny_pure ⟨false, m₁, io₁, rfl, st, H₁, rfl, sm⟩
 | true => exact wpAny_mono (hs s₁ io₁ m₁ r (Z.step H₁ st) hne) (fun y_ y_ z => z.mono st sm) fun y_ y_ z => z.mono st sm
theorem aC8 {env : Env} : ∀ {names : List (Str × NameKind)} {x : Str}, names.lookup x = some .free ->
  (names.map fun (n, k) => if (k == NameKind.free && env.scope.kind == .function && env.kindOf n == some .cell) then (n, NameKind.cell) else (n, k)).lookup x = some .cell \/ (names.map fun (n, k) => if (k == NameKind.free && env.scope.kind == .function && env.kindOf n == some .cell) then (n, NameKind.cell) else (n, k)).lookup x = some .free
 | [], _, h => by simp at h
 | (n, k) :: r, x, h => by
  have ih := @aC8 env r x
  simp only [List.map_cons]
  cases hx : x == n with
  | true =>
   simp only [List.lookup_cons, hx] at h
   cases h
   by_cases hc : (NameKind.free == NameKind.free && env.scope.kind == .function && env.kindOf n == some .cell) = true
   ·rw [if_pos hc]; left; simp [List.lookup_cons, hx]
   ·rw [if_neg hc]; right; simp [List.lookup_cons, hx]
  | false =>
   simp only [List.lookup_cons, hx] at h
   by_cases hc : (k == NameKind.free && env.scope.kind == .function && env.kindOf n == some .cell) = true
   ·rw [if_pos hc]; simp only [List.lookup_cons, hx]; exact ih h
   ·rw [if_neg hc]; simp only [List.lookup_cons, hx]; exact ih h
structure CompOk (scope : Scope) (env : Env) (vis vis' : List (Option Str)) (nl : Nat) : Prop where
 kind : scope.kind = .function
 names : ∀ x ∈ scope.names, x.2 = .local -> scope.names.lookup x.1 = some .local
 cell : ∀ x ∈ scope.names, x.2 ≠ .cell
 cap : ∀ x ∈ scope.names, x.2 = .free -> ∃ i : Nat, vis[i]? = some (some x.1) /\ (env.kindOf x.1 = some .cell \/ env.kindOf x.1 = some .free)
 see : ∀ (i : Nat) (x : Str), vis'[i]? = some (some x) -> (vis.length <= i /\ scope.names.lookup x = some .local) \/ (vis[i]? = some (some x) /\ scope.names.lookup x = some .free)
 inj : ∀ (i j : Nat) (x : Str), vis'[i]? = some (some x) -> vis'[j]? = some (some x) -> i = j
 len : vis'.length = vis.length + nl
theorem bE9 {scope : Scope} {vis' : List (Option Str)} {nl : Nat} {cl : List (Str × Addr)} {C : Addr} (ck : CompOk scope env vis vis' nl) (H : HR W h io m) (F : FR W h io env vis r) (g2 : ∀ x c, cl.lookup x = some c -> env.cells.lookup x = some c) (g3 : ∀ x, (x, NameKind.free) ∈ scope.names -> ∃ c, cl.lookup x = some c)
  (hk : ∀ b o, h.get? b = some o -> h'.get? b = some o) (hC : h.get? C = none) (hn : h'.Ns C (fun y_ => none)) : FR W h' io (compEnvC scope cl C env) vis' (r ++ List.replicate nl none) := by
 have basN : W.base.get? C = none := by
  cases q : W.base.get? C with
  | none => rfl
  | some o => rw [H.keep _ _ q] at hC; cases hC
 have nf : ¬ cU io C := fun f => by
  refine hide fun G_ g_ => ?_
  obtain ⟨o, ho, y_⟩ := H.foot f
  refine g_ ?_
  clear g_ G_
  rw [hC] at ho; cases ho
 have st : Step [] [] h io m h' io m := .of_keeps H hk
 have F' := F.step0 H st
 have old : ∀ (i : Nat) (x : Str) (v : V), vis'[i]? = some (some x) -> (r ++ List.replicate nl none)[i]? = some (some v) -> vis[i]? = some (some x) /\ scope.names.lookup x = some .free /\ r[i]? = some (some v) := by
  intro i x v h1 h2
  have hi : i < r.length := by
   rcases Nat.lt_or_ge i r.length with q | q
   ·exact q
   ·rw [List.getElem?_append_right q] at h2
    have := List.mem_of_getElem? h2
    simp at this
  rw [List.getElem?_append_left hi] at h2
  rcases ck.see i x h1 with ⟨q, _⟩ | ⟨q1, q2⟩
  ·rw [F.len] at hi; omega
  ·exact ⟨q1, q2, h2⟩
 have kd : ∀ x, scope.names.lookup x = some .free -> (compEnvC scope cl C env).kindOf x = some .cell \/ (compEnvC scope cl C env).kindOf x = some .free := fun x hx => aC8 hx
 have capk : ∀ x, scope.names.lookup x = some .free -> env.kindOf x = some .cell \/ env.kindOf x = some .free := fun x hx => by
  refine hide fun G_ g_ => ?_
  obtain ⟨i, y_, q⟩ := ck.cap (x, .free) (mem_of_lookup hx) rfl
  refine g_ ?_
  clear g_ G_
  exact q
 refine ⟨ck.kind, F.glob, F.blt, nf, basN, ⟨_, hn, fun i x v h1 h2 h3 => ?_⟩, fun i x v h1 h2 h3 => ?_, fun x c hc => ?_, fun i x h1 h2 => ?_, fun x y c h1 h2 => F.apart x y c (g2 x c h1) (g2 y c h2), ck.inj, by simp [F.len, ck.len]⟩
 ·refine hide fun G_ g_ => ?_
  obtain ⟨q1, q2, q3⟩ := old i x v h1 h2
  refine g_ ?_
  clear g_ G_
  rcases kd x q2 with e | e <;> rw [e] at h3 <;> cases h3
 ·refine hide fun G_ g_ => ?_
  obtain ⟨q1, q2, q3⟩ := old i x v h1 h2
  obtain ⟨c, u, e, k1, k2⟩ := F'.cel i x v q1 q3 (capk x q2)
  refine g_ ?_
  clear g_ G_
  obtain ⟨c', hc'⟩ := g3 x (mem_of_lookup q2)
  have := g2 x c' hc'
  rw [e] at this; cases this
  exact ⟨c, u, hc', k1, k2⟩
 ·refine hide fun G_ g_ => ?_
  obtain ⟨k1, k2, k3⟩ := F'.cells x c (g2 x c hc)
  refine g_ ?_
  clear g_ G_
  refine ⟨k1, k2, fun e => ?_⟩
  refine hide fun G_ g_ => ?_
  obtain ⟨⟨y_, o, ho, y_⟩, y_⟩ := F.cells x c (g2 x c hc)
  refine g_ ?_
  clear g_ G_
  rw [e] at ho; rw [show (compEnvC scope cl C env).locals = C from rfl, hC] at ho; cases ho
 ·rcases ck.see i x h1 with ⟨_, q⟩ | ⟨q1, q2⟩
  ·have : (compEnvC scope cl C env).kindOf x = some .local := lookup_relabel_local q
   rcases h2 with e | e <;> rw [this] at e <;> cases e
  ·exact g3 x (mem_of_lookup q2)
theorem bZ0 {g : Gd} {step : V -> Mn (Option V)} : ∀ {vs : List V} {m : MH}, aY g step vs m ≠ .bad -> ∃ l m', aY g step vs m = .ok l m' := by
 intro vs
 induction vs with
 | nil =>
  intro m h
  by_cases q : g.stays m = true
  ·exact ⟨[], m, if_pos q⟩
  ·exact absurd (if_neg q) h
 | cons v vs ih =>
  intro m h
  by_cases q : g.stays m = true
  ·have ec : aY g step (v :: vs) m = ((step v m).nox).bind (fun o => bnd (aY g step vs) fun r => ret (dF o r)) := if_pos q
   rw [ec] at h ⊢
   cases e : step v m with
   | bad => rw [e] at h; exact absurd rfl h
   | exc c m' => rw [e] at h; exact absurd rfl h
   | ok o m' =>
    rw [e] at h
    have h' : (aY g step vs m').bind (fun r => ret (dF o r)) ≠ .bad := h
    refine hide fun G_ g_ => ?_
    obtain ⟨l, m'', e'⟩ := ih (Res.bind_ne h')
    refine g_ ?_
    clear g_ G_
    refine ⟨dF o l, m'', ?_⟩
    show (aY g step vs m').bind (fun r => ret (dF o r)) = _
    rw [e']; rfl
  ·exact absurd (if_neg q) h
theorem bF0 {g : Gd} {step : V -> Mn (Option V)} {v : V} {vs : List V} {L : List V} {m mL : MH} (h : aY g step (v :: vs) m = .ok L mL) : g.stays m = true /\ ∃ o m' L', step v m = .ok o m' /\ aY g step vs m' = .ok L' mL /\ L = dF o L' := by
 by_cases q : g.stays m = true
 ·have ec : aY g step (v :: vs) m = ((step v m).nox).bind (fun o => bnd (aY g step vs) fun r => ret (dF o r)) := if_pos q
  rw [ec] at h
  refine ⟨q, ?_⟩
  cases e : step v m with
  | bad => rw [e] at h; cases h
  | exc c m' => rw [e] at h; cases h
  | ok o m' =>
   rw [e] at h
   have h' : (aY g step vs m').bind (fun r => ret (dF o r)) = .ok L mL := h
   cases e2 : aY g step vs m' with
   | bad => rw [e2] at h'; cases h'
   | exc c m'' => rw [e2] at h'; cases h'
   | ok l m'' =>
    rw [e2] at h'
    cases h'
    exact ⟨o, m', l, rfl, e2, rfl⟩
 ·have ec : aY g step (v :: vs) m = .bad := if_neg q
  rw [ec] at h; cases h
theorem bS {g : Gd} {step : V -> Mn (Option V)} {vs : List V} {L : List V} {m mL : MH} (h : aY g step vs m = .ok L mL) : g.stays m = true := by
 cases q : g.stays m with
 | true => rfl
 | false =>
  have z : ¬ g.stays m = true := by rw [q]; exact Bool.false_ne_true
  have ec : aY g step vs m = .bad := by cases vs with
   | nil => exact if_neg z
   | cons y_ y_ => exact if_neg z
  rw [ec] at h; cases h
end
end Mini
namespace Mini
open PySem PySem.W
section
variable {W : Wd} {K : Frag} {h h' h₀ : Heap} {fs : List Env} {env : Env} {vis : List (Option Str)} {s s' s₀ : Shared} {io io' io₀ : Io} {m m' m₀ : MH} {r r' : Lo} {fr fr' own own' : List Addr} {A : Around} {n : Nat} {pos p : Pos}
noncomputable def eD (j : Nat) (row : Lo) (cif : Lo -> Mn Bool) (celt : Lo -> Mn V) (v : V) : Mn (Option V) :=
 bnd (aI9 (.one j) v row) fun r' => bnd (cif r') fun b => if b then bnd (celt r') fun x => ret (some x) else ret none
theorem aJ2 {us : Array Value} {c : Nat} : ¬ cA (e7 us c) := by
 rintro (⟨e, y_⟩ | ⟨y_, y_, y_, e⟩)
 ·simp at e
 ·cases e
inductive CInv (W : Wd) (fs : List Env) (s₀ : Shared) (io₀ : Io) (m₀ : MH) (cenv : Env) (vis' : List (Option Str)) (row : Lo) (St : Nat -> Heap -> Io -> Prop) (D : Addr) (g : Gd) (f : V -> Mn (Option V)) (vs L : List V) (mL : MH) (k : Nat) (s' : Shared) : Prop
 | mk (i : Nat) (io' : Io) (m' : MH) (outs L' : List V) (us : Array Value) (c : Nat) : k = vs.length - i -> i <= vs.length -> Step [] (frs fs) s₀.heap io₀ m₀ s'.heap io' m' -> HR W s'.heap io' m' -> FR W s'.heap io' cenv vis' row -> St i s'.heap io' -> s'.heap.get? D = some (e7 us c) -> VRs W s'.heap io' outs us.toList -> ¬ cU io' D -> Same s₀ s' ->
   aY g f (vs.drop i) m' = .ok L' mL -> L = outs ++ L' -> CInv W fs s₀ io₀ m₀ cenv vis' row St D g f vs L mL k s'
theorem bP9 {elt iter : Expr} {ifs : List Expr} {scope : Scope} {cpos px : Pos} {cenv : Env} {vis' : List (Option Str)} {row : Lo} {D I : Addr} {wr : List Addr} {g : Gd} {vs L : List V} {St : Nat -> Heap -> Io -> Prop} {x : Str} {j c0 : Nat} {cif : Lo -> Mn Bool} {celt : Lo -> Mn V} {io₂ : Io} {m₂ mL : MH} {RR : Result -> Shared -> Prop}
  (H0 : HR W s₀.heap io₀ m₀) (G0 : FF W s₀.heap io₀ fs) (hw : Wk W A I wr g vs St) (hnew : ∀ b ∈ wr, s₀.heap.get? b = none) (hD0 : s₀.heap.get? D = none) (hC0 : s₀.heap.get? cenv.locals = none) (hDC : D ≠ cenv.locals) (hDw : D ∉ wr) (hCw : cenv.locals ∉ wr)
  (hv : vis'[j]? = some (some x)) (hk : cenv.kindOf x = some .local) (hrow : row[j]? = some none) (hcel : ∀ y c, cenv.cells.lookup y = some c -> ∃ o, s₀.heap.get? c = some o)
  (hifs : SiB W A fs cenv vis' (aA5 ifs cenv true) cif) (helt : SiE W A fs cenv vis' (eval elt cenv) celt)
  (st₂ : Step [] (frs fs) s₀.heap io₀ m₀ s.heap io₂ m₂) (H₂ : HR W s.heap io₂ m₂) (F₂ : FR W s.heap io₂ cenv vis' row) (hst₂ : St 0 s.heap io₂) (hD₂ : s.heap.get? D = some (e7 #[] c0)) (nfD : ¬ cU io₂ D) (sm₂ : Same s₀ s)
  (hL : aY g (eD j row cif celt) vs m₂ = .ok L mL) (hlen : L.length <= lid)
  (fin : ∀ s' io' us c, Step [] (frs fs) s₀.heap io₀ m₀ s'.heap io' mL -> HR W s'.heap io' mL -> s'.heap.get? D = some (e7 us c) -> VRs W s'.heap io' L us.toList -> ¬ cU io' D -> (∃ mC, s'.heap.Ns cenv.locals mC) /\ ¬ cU io' cenv.locals -> Same s₀ s' -> RR (.ok .next) s') :
  codeAny (model W.prog W.w) A (.compStart (.ListComp elt [⟨.Name x px, iter, ifs, 0⟩] scope cpos) 0 (.ref I) (.ref D) cenv) RR s := by
 have hFr : ∀ b ∈ frs fs, ∃ o, s₀.heap.get? b = some o := fun b hb => by
  refine hide fun G_ g_ => ?_
  obtain ⟨e, he, hf⟩ := List.mem_filterMap.mp hb
  obtain ⟨y_, L, o, y_, y_, h1, y_, y_, h4, y_⟩ := G0 e he
  refine g_ ?_
  clear g_ G_
  rw [h1] at hf; cases hf; exact ⟨o, h4⟩
 have frN : ∀ b, s₀.heap.get? b = none -> b ∉ frs fs := fun b e q => by obtain ⟨o, ho⟩ := hFr b q; rw [e] at ho; cases ho
 have hbase : ∀ b o, W.base.get? b = some o -> s₀.heap.get? b = some o := H0.keep
 have basD : W.base.get? D = none := by
  cases q : W.base.get? D with
  | none => rfl
  | some o => rw [hbase _ _ q] at hD0; cases hD0
 have celN : ∀ y c, cenv.cells.lookup y = some c -> ∀ b, s₀.heap.get? b = none -> c ≠ b := fun y c hy b hb e => by
  obtain ⟨o, ho⟩ := hcel y c hy
  rw [e, hb] at ho; cases ho
 have loop : codeAny (model W.prog W.w) A (.compLoop (.ListComp elt [⟨.Name x px, iter, ifs, 0⟩] scope cpos) 0 (.ref I) (.ref D) cenv) RR s := by
  refine codeAny_compLoop_tests (I := CInv W fs s₀ io₀ m₀ cenv vis' row St D g (eD j row cif celt) vs L mL) (fun k s' hI => ?_) vs.length ⟨0, io₂, m₂, [], L, #[], c0, by simp, Nat.zero_le _, st₂, H₂, F₂, hst₂, hD₂, .nil, nfD, sm₂, by simpa using hL, by simp⟩
  refine hide fun G_ g_ => ?_
  obtain ⟨i, io', m', outs, L', us, c, hk', hi, st, H, F, hst, hD, hus, nf, sm, he, hLe⟩ := hI
  refine g_ ?_
  clear g_ G_
  have hg := bS he
  have sft := hw.soft hst
  by_cases hlt : i < vs.length
  ·have hvi : vs[i]? = some vs[i] := List.getElem?_eq_getElem hlt
   rw [List.drop_eq_getElem_cons hlt] at he
   refine hide fun G_ g_ => ?_
   obtain ⟨y_, o, m₅, L₅, es, ec, eL⟩ := bF0 he
   refine g_ ?_
   clear g_ G_
   refine hw.item hvi hst H hg fun u h₁ tk ku hst₁ kk => ?_
   have sd : Side W wr s₀.heap s'.heap io' h₁ := ⟨kk, hnew, fun b hb => (sft b hb).1, fun b hb => (sft b hb).2⟩
   have H1 := sd.hr H hbase
   have st1 := sd.step H st
   have F1 := F.sideN sd hCw fun y c hy q => celN y c hy c (hnew c q) rfl
   have hD1 : h₁.get? D = some (e7 us c) := kk _ _ hDw hD
   have hus1 := hus.sol sd.sol
   have ku1 := ku.sol sd.sol
   refine wpAny_assign_Name ?_
   refine wpAny_mono (bD1 (s := { s' with heap := h₁, toks := tk }) (A := A) (fs := fs) (own := [cenv.locals]) H1 F1 (.head _) hv hk ku1 (fun q => nomatch q)) (fun y_ s₂ q => ?_) fun e s₂ q => ?_
   rotate_left
   ·obtain ⟨c', m'', io'', a, g', h1, y_⟩ := q; cases h1
   refine hide fun G_ g_ => ?_
   obtain ⟨r₂, mq, io₂', e2, st2, H2, F2, sm2⟩ := q
   refine g_ ?_
   clear g_ G_
   cases e2
   have st2' : Step [] (frs fs) s₀.heap io₀ m₀ s₂.heap io₂' m' := by
    refine ((st1.wk (own' := [cenv.locals]) fun y_ q => nomatch q).trans st2).shrink H0 (fun y_ y_ e => e) (fun b hb => ?_) fun b hb => .inr hb
    rw [List.mem_singleton.mp hb]; exact .inl hC0
   have hD2 : s₂.heap.get? D = some (e7 us c) := st2.keep _ _ hD1 nf (by simpa using hDC) (frN _ hD0)
   have nf2 : ¬ cU io₂' D := st2.nofoot hD1 nf
   have hus2 := hus1.step st2
   have hst2 : St (i + 1) s₂.heap io₂' := hw.stay hst₁ H1 H2 st2 (fun b hb => ⟨fun q => hCw (by rw [<- List.mem_singleton.mp q]; exact hb), frN _ (hnew b hb)⟩) hg hg
   have Z2 : Sit W fs cenv vis' s₂ io₂' m' (row.set j (some vs[i])) := ⟨H2, F2, G0.step0 st2'⟩
   have es' : (cif (row.set j (some vs[i])) m').bind (fun b => if b then bnd (celt (row.set j (some vs[i]))) fun x => ret (some x) else ret none) = .ok o m₅ := es
   have hne1 : cif (row.set j (some vs[i])) m' ≠ .bad := fun q => by rw [q] at es'; cases es'
   refine wpAny_mono (hifs s₂ io₂' m' _ Z2 hne1) (fun ok s₃ q => ?_) fun e s₃ q => ?_
   rotate_left
   ·refine hide fun G_ g_ => ?_
    obtain ⟨c', m'', io'', a, g', h1, y_⟩ := q
    refine g_ ?_
    clear g_ G_
    rw [h1] at es'; cases es'
   refine hide fun G_ g_ => ?_
   obtain ⟨ok', m₃, io₃, e3, st3, H3, rfl, sm3⟩ := q
   refine g_ ?_
   clear g_ G_
   rw [e3] at es'
   have Z3 := Z2.step H3 st3
   have hD3 : s₃.heap.get? D = some (e7 us c) := st3.keep _ _ hD2 nf2 (fun q => nomatch q) (frN _ hD0)
   have wrN : ∀ b ∈ wr, b ∉ ([] : List Addr) /\ b ∉ frs fs := fun b hb => ⟨(fun q => nomatch q), frN _ (hnew b hb)⟩
   have weak : ∀ {h : Heap} {io : Io}, FR W h io cenv vis' (row.set j (some vs[i])) -> FR W h io cenv vis' row := fun F => F.weak (fun a w e => by
    by_cases q : j = a
    ·subst q; rw [hrow] at e; cases e
    ·rw [List.getElem?_set_ne q]; exact e) (by simp)
   cases ok' with
   | false =>
    simp only [Bool.false_eq_true, if_false]
    have es2 : (Res.ok none m₃ : Res (Option V)) = .ok o m₅ := es'
    cases es2
    refine ⟨vs.length - (i + 1), hk' ▸ Nat.sub_succ_lt_self _ _ hlt, i + 1, io₃, m₃, outs, L₅, us, c, rfl, hlt, st2'.trans st3, H3, weak Z3.F, hw.stay hst2 H2 H3 st3 wrN hg (bS ec), hD3, hus2.step st3, st3.nofoot hD2 nf2, (sm.trans (Same.trans ⟨rfl, rfl⟩ sm2)).trans sm3, ec, ?_⟩
    rw [hLe, eL]; rfl
   | true =>
    simp only [if_true]
    have es2 : (celt (row.set j (some vs[i])) m₃).bind (fun x => ret (some x)) = .ok o m₅ := es'
    have hne2 : celt (row.set j (some vs[i])) m₃ ≠ .bad := fun q => by rw [q] at es2; cases es2
    refine wpAny_mono (helt s₃ io₃ m₃ _ Z3 hne2) (fun y s₄ q => ?_) fun e s₄ q => ?_
    rotate_left
    ·refine hide fun G_ g_ => ?_
     obtain ⟨c', m'', io'', a, g', h1, y_⟩ := q
     refine g_ ?_
     clear g_ G_
     rw [h1] at es2; cases es2
    refine hide fun G_ g_ => ?_
    obtain ⟨y', m₄, io₄, e4, st4, H4, k4, sm4⟩ := q
    refine g_ ?_
    clear g_ G_
    rw [e4] at es2
    cases es2
    have nf3 := st3.nofoot hD2 nf2
    have hD4 : s₄.heap.get? D = some (e7 us c) := st4.keep _ _ hD3 nf3 (fun q => nomatch q) (frN _ hD0)
    have nf4 := st4.nofoot hD3 nf3
    have hus4 := (hus2.step st3).step st4
    have hst4 : St (i + 1) s₄.heap io₄ := hw.stay hst2 H2 H4 (st3.trans st4) wrN hg (bS ec)
    have ol : us.size <= lid := by
     have e1 := hus.length
     have e2 : L.length = outs.length + L'.length := by rw [hLe, List.length_append]
     have : us.size = outs.length := by simpa using e1
     omega
    refine wpAny_list_append_plain ⟨c, hD4⟩ (fun h₅ ⟨c5, hD5⟩ hs5 => ?_) (aM ol)
    have kk5 : ∀ b o, b ≠ D -> s₄.heap.get? b = some o -> h₅.get? b = some o := fun b o q e => (hs5.2 b q).trans e
    have lv5 : ∀ o, s₄.heap.get? D = some o -> ¬ cA o /\ ∃ o', h₅.get? D = some o' := fun o ho => by
     rw [hD4] at ho; cases ho; exact ⟨aJ2, _, hD5⟩
    have st5 : Step [D] (frs fs) s₄.heap io₄ m₄ h₅ io₄ m₄ := eS H4 (L := D) (.head _) kk5 lv5 nf4
    have H5 : HR W h₅ io₄ m₄ := H4.ofOwn (own := [D]) (L := D) (.head _) kk5 lv5 nf4 basD
    have st5' : Step [] (frs fs) s₀.heap io₀ m₀ h₅ io₄ m₄ := by
     refine ((((st2'.trans st3).trans st4).wk (own' := [D]) fun y_ q => nomatch q).trans st5).shrink H0 (fun y_ y_ e => e) (fun b hb => ?_) fun b hb => .inr hb
     rw [List.mem_singleton.mp hb]; exact .inl hD0
    have F5 : FR W h₅ io₄ cenv vis' row := (weak (Z3.F.step0 H3 st4)).step H4 st5 (by simpa using Ne.symm hDC) fun y c hy => by simpa using celN y c hy D hD0
    refine ⟨vs.length - (i + 1), hk' ▸ Nat.sub_succ_lt_self _ _ hlt, i + 1, io₄, m₄, outs ++ [y'], L₅, us.push y, c5, rfl, hlt, st5', H5, F5, hw.stay hst4 H4 H5 st5 (fun b hb => ⟨fun q => hDw (by rw [<- List.mem_singleton.mp q]; exact hb), frN _ (hnew b hb)⟩) (bS ec) (bS ec), hD5, ?_, nf4, ((sm.trans (Same.trans ⟨rfl, rfl⟩ sm2)).trans sm3).trans (sm4.trans ⟨rfl, rfl⟩), ec, ?_⟩
    ·rw [Array.toList_push]; exact (hus4.step st5).snoc (VR.step st5 k4)
    ·rw [hLe, eL]; simp [dF]
  ·have hi' : i = vs.length := by omega
   subst hi'
   refine hw.done hst H hg fun h₁ tk kk => ?_
   have sd : Side W wr s₀.heap s'.heap io' h₁ := ⟨kk, hnew, fun b hb => (sft b hb).1, fun b hb => (sft b hb).2⟩
   rw [List.drop_length] at he
   have ec : ∀ {step : V -> Mn (Option V)}, aY g step [] m' = .ok [] m' := if_pos hg
   rw [ec] at he
   cases he
   rw [List.append_nil] at hLe
   subst hLe
   have F1 := F.sideN sd hCw fun y c hy q => celN y c hy c (hnew c q) rfl
   refine hide fun G_ g_ => ?_
   obtain ⟨mC, hn, y_⟩ := F1.loc
   refine g_ ?_
   clear g_ G_
   exact fin { s' with heap := h₁, toks := tk } io' us c (sd.step H st) (sd.hr H hbase) (kk _ _ hDw hD) (hus.sol sd.sol) nf ⟨⟨mC, hn⟩, F1.nofoot⟩ (sm.trans ⟨rfl, rfl⟩)
 exact codeAny_compStart_list loop (hw.self hst₂ loop)
end
end Mini
namespace Mini
open PySem PySem.W
section
variable {W : Wd} {K : Frag} {h h' h₀ : Heap} {fs : List Env} {env : Env} {vis : List (Option Str)} {s s' s₀ : Shared} {io io' io₀ : Io} {m m' m₀ : MH} {r r' : Lo} {fr fr' own own' : List Addr} {A : Around} {n : Nat} {pos p : Pos}
theorem VRs.ext (x : ∀ (n : Nat) (p : Addr × Addr), io[n]? = some p -> io'[n]? = some p) {v : List V} {u : List Value} (k : VRs W h io v u) : VRs W h io' v u := k.mono (fun y_ y_ e y_ => e) x
theorem ERs.ext (x : ∀ (n : Nat) (p : Addr × Addr), io[n]? = some p -> io'[n]? = some p) {kvs : List (Ky × V)} {es : List DictEntry} (e : ERs W h io kvs es) : ERs W h io' kvs es := e.mono (fun y_ y_ e y_ => e) x
theorem FEs.ext (x : ∀ (n : Nat) (p : Addr × Addr), io[n]? = some p -> io'[n]? = some p) {fs : List (Nat × V)} {mA : Str -> Option Value} (e : FEs W h io fs mA) : FEs W h io' fs mA := e.mono (fun y_ y_ e y_ => e) x
theorem OR.ext (x : ∀ (n : Nat) (p : Addr × Addr), io[n]? = some p -> io'[n]? = some p) {a d : Addr} {o : MObj} (k : OR W h io a d o) : OR W h io' a d o := by
 cases o with
 | list xs =>
  obtain ⟨e, vs, n, h1, h4, h5⟩ := k
  exact ⟨e, vs, n, h1, h4.ext x, h5⟩
 | dict kvs ep =>
  obtain ⟨e, o, es, n, h1, h2, h3, h4, h5⟩ := k
  exact ⟨e, o, es, n, h1, h2, h3, h4.ext x, h5⟩
 | inst c fs =>
  obtain ⟨e, mA, h1, h2, h3, h4⟩ := k
  exact ⟨e, mA, h1, h2, h3.ext x, h4⟩
theorem cE6 {D : Addr} {ob : MObj} (st : Step own fr h₀ io₀ m₀ h io m) (H : HR W h io m) (hO : OR W h (io ++ [(D, D)]) D D ob) (nf : ¬ cU io D) (hD0 : h₀.get? D = none) (basD : W.base.get? D = none) :
  Step own fr h₀ io₀ m₀ h (io ++ [(D, D)]) (m ++ [ob]) /\ HR W h (io ++ [(D, D)]) (m ++ [ob]) /\ VR W h (io ++ [(D, D)]) (.ref m.length) (.ref D) := by
 have ex : ∀ (n : Nat) (p : Addr × Addr), io[n]? = some p -> (io ++ [(D, D)])[n]? = some p := fun n p e => by
  rw [List.getElem?_append_left (List.getElem?_eq_some_iff.mp e).1]; exact e
 have last : (io ++ [(D, D)])[m.length]? = some (D, D) := by rw [<- H.len]; simp
 refine ⟨⟨st.alive, st.solid, st.keep, st.slots, ?_, fun n p kvs e hi hm => ?_⟩, ⟨H.keep, by simp [H.len], fun n p o hi hm => ?_, fun b f => ?_, fun i j p q hij hi hj => ?_⟩, .ref last⟩
 ·obtain ⟨new, e, hn⟩ := st.grow
  refine ⟨new ++ [(D, D)], by rw [e, List.append_assoc], fun p hp => ?_⟩
  rcases List.mem_append.mp hp with hp | hp
  ·exact hn p hp
  ·rw [List.mem_singleton.mp hp]; exact ⟨hD0, hD0⟩
 ·obtain ⟨k', e', q1, q2, q3⟩ := st.dicts n p kvs e hi hm
  exact ⟨k', e', by rw [List.getElem?_append_left (List.getElem?_eq_some_iff.mp q1).1]; exact q1, q2, q3⟩
 ·rcases Nat.lt_or_ge n m.length with hlt | hge
  ·rw [List.getElem?_append_left hlt] at hm
   rw [List.getElem?_append_left (by rw [H.len]; exact hlt)] at hi
   exact (H.obj n p o hi hm).ext ex
  ·have hn : n = m.length := by
    have := (List.getElem?_eq_some_iff.mp hm).1
    simp at this; omega
   subst hn
   rw [last] at hi
   cases hi
   rw [List.getElem?_append_right (Nat.le_refl _)] at hm
   simp at hm
   subst hm
   exact hO
 ·rcases dS f with f | ⟨p, hp, e⟩
  ·exact H.fresh b f
  ·rw [List.mem_singleton.mp hp] at e
   rcases e with e | e <;> rw [e] <;> exact basD
 ·have nfp : ∀ (k : Nat) (p : Addr × Addr), io[k]? = some p -> p.1 ≠ D /\ p.2 ≠ D := fun k p hk => ⟨fun e => nf ⟨p, List.mem_of_getElem? hk, .inl e.symm⟩, fun e => nf ⟨p, List.mem_of_getElem? hk, .inr e.symm⟩⟩
  have cut : ∀ (k : Nat) (p : Addr × Addr), (io ++ [(D, D)])[k]? = some p -> io[k]? = some p \/ (k = io.length /\ p = (D, D)) := fun k p hk => by
   rcases Nat.lt_or_ge k io.length with hlt | hge
   ·rw [List.getElem?_append_left hlt] at hk; exact .inl hk
   ·have := (List.getElem?_eq_some_iff.mp hk).1
    simp at this
    have hn : k = io.length := by omega
    subst hn
    simp at hk
    exact .inr ⟨rfl, hk.symm⟩
  rcases cut i p hi with a | ⟨a, rfl⟩ <;> rcases cut j q hj with b | ⟨b, rfl⟩
  ·exact H.apart i j p q hij a b
  ·have := nfp i p a; exact ⟨this.1, this.1, this.2⟩
  ·have := nfp j q b; exact ⟨Ne.symm this.1, Ne.symm this.2, Ne.symm this.2⟩
  ·omega
theorem cP2 {D : Addr} {us : Array Value} {c : Nat} {L : List V} (st : Step own fr h₀ io₀ m₀ h io m) (H : HR W h io m) (hD : h.get? D = some (e7 us c)) (hus : VRs W h io L us.toList) (hl : L.length <= lid) (nf : ¬ cU io D) (hD0 : h₀.get? D = none) (basD : W.base.get? D = none) :
  Step own fr h₀ io₀ m₀ h (io ++ [(D, D)]) (m ++ [.list L]) /\ HR W h (io ++ [(D, D)]) (m ++ [.list L]) /\ VR W h (io ++ [(D, D)]) (.ref m.length) (.ref D) :=
 cE6 st H ⟨rfl, us, c, hD, hus.ext fun n p e => by rw [List.getElem?_append_left (List.getElem?_eq_some_iff.mp e).1]; exact e, hl⟩ nf hD0 basD
theorem bC4 {elt iter : Expr} {ifs : List Expr} {scope : Scope} {px fp : Pos} {vis' : List (Option Str)} {nl j : Nat} {x : Str} {csrc : Lo -> Mn (List V × Gd)} {cif : Lo -> Mn Bool} {celt : Lo -> Mn V} {use : Option (Value -> Sem Unit)} {Q : Value -> Shared -> Prop} {E : Value -> Shared -> Prop}
  (ck : CompOk scope env vis vis' nl) (hs : ∀ x, foldedSetIterable iter env x = Pure.pure x) (hv : vis'[j]? = some (some x)) (hj : vis.length <= j) (hsrc : aI7 W A fs env vis iter csrc)
  (hifs : ∀ cl C, SiB W A fs (compEnvC scope cl C env) vis' (aA5 ifs (compEnvC scope cl C env) true) cif) (helt : ∀ cl C, SiE W A fs (compEnvC scope cl C env) vis' (eval elt (compEnvC scope cl C env)) celt)
  (Z : Sit W fs env vis s io m r) (hne : (csrc r m).bind (fun p => bnd (aY p.2 (eD j (r ++ List.replicate nl none) cif celt) p.1) fun l => if l.length <= lid then alloc (.list l) else bad) ≠ .bad)
  (hX : ∀ e s', XP W [] fs s io m (csrc r m) e s' -> E e s')
  (fin : ∀ s' io' D C L us c mL p m₂, csrc r m = .ok p m₂ -> aY p.2 (eD j (r ++ List.replicate nl none) cif celt) p.1 m₂ = .ok L mL -> L.length <= lid -> s.heap.get? D = none -> s.heap.get? C = none -> D ≠ C -> Step [] (frs fs) s.heap io m s'.heap io' mL -> HR W s'.heap io' mL -> s'.heap.get? D = some (e7 us c) -> VRs W s'.heap io' L us.toList -> ¬ cU io' D -> (∃ mC, s'.heap.Ns C mC) /\ ¬ cU io' C -> Same s s' -> compPost (model W.prog W.w) A E use Q (.ref D) C (.ok .next) s') :
  wpAny (model W.prog W.w) A (comprehension (.ListComp elt [⟨.Name x px, iter, ifs, 0⟩] scope pos) scope env fp (newList []) false (eval iter env) use) Q E s := by
 obtain ⟨cl, g1, g2, g3⟩ := bF1 (scope := scope) (env := env) fun y k hy hk => by
  obtain ⟨i, q1, q2⟩ := ck.cap (y, k) hy hk
  exact Z.F.celex i y q1 q2
 refine wpAny_comprehension_free (g := ⟨.Name x px, iter, ifs, 0⟩) (gs := []) rfl hs g1 ck.kind ck.names ?_
 refine wpAny_mono (hsrc s io m r Z (Res.bind_ne hne)) (fun xv s₁ q => wpAny_mono q (fun it s₂ q => ?_) hX) hX
 obtain ⟨⟨vs, g⟩, m₂, io₂, e2, st₂, H₂, ⟨I, wr, St, rfl, hw, h0, hnew⟩, sm₂⟩ := q
 rw [e2] at hne
 have hne' : (aY g (eD j (r ++ List.replicate nl none) cif celt) vs m₂).bind (fun l => if l.length <= lid then alloc (.list l) else bad) ≠ .bad := hne
 obtain ⟨L, mL, eL⟩ := bZ0 (Res.bind_ne hne')
 have hlen : L.length <= lid := by
  rcases Nat.lt_or_ge lid L.length with q | q
  ·refine absurd ?_ hne'
   rw [eL]
   show (if L.length <= lid then alloc (.list L) else bad) mL = _
   rw [if_neg (by omega)]; rfl
  ·exact q
 have Z2 := Z.step H₂ st₂
 refine wpAny_newList ?_ (by decide)
 have k3 : ∀ b o, s₂.heap.get? b = some o -> (s₂.heap.push (e7 #[] 0)).get? b = some o := aN _
 refine wpAny_newFunctionEnv ck.cell (fun y hy => nomatch hy) (fun h₄ hn₄ hs₄ => ?_) ck.kind
 have k4 : ∀ b o, (s₂.heap.push (e7 #[] 0)).get? b = some o -> h₄.get? b = some o := fun b o e => by
  have hb : b ≠ (s₂.heap.push (e7 #[] 0)).objs.size := fun q => by rw [q, aP] at e; cases e
  exact (hs₄.2 b hb).trans (aN _ _ _ e)
 have sz : (s₂.heap.push (e7 #[] 0)).objs.size = s₂.heap.objs.size + 1 := Heap.size_push ..
 have kk : ∀ b o, s₂.heap.get? b = some o -> h₄.get? b = some o := fun b o e => k4 b o (k3 b o e)
 have cD : s₂.heap.get? s₂.heap.objs.size = none := aP _
 have cC3 : (s₂.heap.push (e7 #[] 0)).get? (s₂.heap.push (e7 #[] 0)).objs.size = none := aP _
 have cC : s₂.heap.get? (s₂.heap.push (e7 #[] 0)).objs.size = none := by
  cases q : s₂.heap.get? (s₂.heap.push (e7 #[] 0)).objs.size with
  | none => rfl
  | some o => rw [k3 _ _ q] at cC3; cases cC3
 have hD0 : s.heap.get? s₂.heap.objs.size = none := dU st₂ cD
 have hC0 : s.heap.get? (s₂.heap.push (e7 #[] 0)).objs.size = none := dU st₂ cC
 have hDC : s₂.heap.objs.size ≠ (s₂.heap.push (e7 #[] 0)).objs.size := by rw [sz]; exact Nat.ne_of_lt (Nat.lt_succ_self _)
 have st4 : Step [] (frs fs) s₂.heap io₂ m₂ h₄ io₂ m₂ := .of_keeps H₂ kk
 have H4 : HR W h₄ io₂ m₂ := H₂.of_keeps kk
 have hn' : h₄.Ns (s₂.heap.push (e7 #[] 0)).objs.size (fun y_ => none) := hn₄
 have F4 : FR W h₄ io₂ (compEnvC scope cl (s₂.heap.push (e7 #[] 0)).objs.size env) vis' (r ++ List.replicate nl none) := bE9 ck H₂ Z2.F g2 g3 kk cC hn'
 have hjl : j < vis'.length := (List.getElem?_eq_some_iff.mp hv).1
 have lk : scope.names.lookup x = some .local := by
  rcases ck.see j x hv with ⟨_, q⟩ | ⟨q, _⟩
  ·exact q
  ·have := (List.getElem?_eq_some_iff.mp q).1; omega
 have wrAlive : ∀ b ∈ wr, ∀ z, s₂.heap.get? z = none -> z ∉ wr \/ True := fun y_ y_ y_ y_ => .inr trivial
 have kd : (compEnvC scope cl (s₂.heap.push (e7 #[] 0)).objs.size env).kindOf x = some .local := lookup_relabel_local lk
 have hrow : (r ++ List.replicate nl (none : Option V))[j]? = some none := by
  rw [List.getElem?_append_right (by rw [Z.F.len]; exact hj), List.getElem?_replicate]
  have := ck.len
  rw [if_pos (by rw [Z.F.len]; omega)]
 show codeAny (model W.prog W.w) A (.compStart _ 0 (.ref I) (.ref s₂.heap.objs.size) (compEnvC scope cl (s₂.heap.push (e7 #[] 0)).objs.size env)) _ _
 refine bP9 (s := { s₂ with heap := h₄, toks := s₂.toks + 0 }) (s₀ := s) (c0 := 0) Z.H Z.G hw hnew hD0 hC0 hDC ?_ ?_ hv kd hrow (fun y c hy => ?_) (hifs _ _) (helt _ _) (st₂.trans st4) H4 F4 (hw.stay h0 H₂ H4 st4 (fun b hb => ⟨(fun q => nomatch q), ?_⟩) (bS eL) (bS eL)) (k4 _ _ (Heap.get?_push_size _ rfl)) (fun f => ?_) (sm₂.trans ⟨rfl, rfl⟩) eL hlen
  fun s' io' us c a1 a2 a3 a4 a5 a6 a7 => fin s' io' _ _ L us c mL _ m₂ e2 eL hlen hD0 hC0 hDC a1 a2 a3 a4 a5 a6 a7
 ·intro q; obtain ⟨y_, hz⟩ := hw.alive h0 _ q; rw [cD] at hz; cases hz
 ·intro q; obtain ⟨y_, hz⟩ := hw.alive h0 _ q; rw [show (compEnvC scope cl (s₂.heap.push (e7 #[] 0)).objs.size env).locals = (s₂.heap.push (e7 #[] 0)).objs.size from rfl, cC] at hz; cases hz
 ·obtain ⟨⟨y_, o, ho, y_⟩, y_⟩ := Z.F.cells y c (g2 y c hy)
  exact ⟨o, ho⟩
 ·intro q
  obtain ⟨e, he, hf⟩ := List.mem_filterMap.mp q
  obtain ⟨y_, L', o, y_, y_, h1, y_, y_, h4, y_⟩ := Z.G e he
  rw [h1] at hf; cases hf; rw [hnew _ hb] at h4; cases h4
 ·obtain ⟨o, ho, y_⟩ := H₂.foot f
  rw [cD] at ho; cases ho
theorem bJ8 {C : Addr} {mC : Str -> Option Value} (hC0 : h₀.get? C = none) (hn : h.Ns C mC) (nf : ¬ cU io C) (hs : Heap.SameBut C h h') : Side W [C] h₀ h io h' :=
 ⟨fun b o hb e => (hs.2 b (by simpa using hb)).trans e, fun b hb => by rw [List.mem_singleton.mp hb]; exact hC0, fun b hb => by rw [List.mem_singleton.mp hb]; exact nf, fun b hb o ho => by
  rw [List.mem_singleton.mp hb] at ho
  obtain ⟨o', es, ep, ho', hd, y_⟩ := hn
  rw [ho'] at ho; cases ho; exact dE hd⟩
theorem cY0 {elt iter : Expr} {ifs : List Expr} {scope : Scope} {px : Pos} {vis' : List (Option Str)} {nl j : Nat} {x : Str} {csrc : Lo -> Mn (List V × Gd)} {cif : Lo -> Mn Bool} {celt : Lo -> Mn V}
  (ck : CompOk scope env vis vis' nl) (hs : ∀ x, foldedSetIterable iter env x = Pure.pure x) (hv : vis'[j]? = some (some x)) (hj : vis.length <= j) (hsrc : aI7 W A fs env vis iter csrc)
  (hifs : ∀ cl C, SiB W A fs (compEnvC scope cl C env) vis' (aA5 ifs (compEnvC scope cl C env) true) cif) (helt : ∀ cl C, SiE W A fs (compEnvC scope cl C env) vis' (eval elt (compEnvC scope cl C env)) celt) :
  SiE W A fs env vis (eval (.ListComp elt [⟨.Name x px, iter, ifs, 0⟩] scope pos) env) (fun r => bnd (csrc r) fun p => bnd (aY p.2 (eD j (r ++ List.replicate nl none) cif celt) p.1) fun l => if l.length <= lid then alloc (.list l) else bad) := by
 intro s io m r Z hne
 dsimp only at hne ⊢
 refine bC4 (Q := NP W [] (frs fs) s io m (VP W) _) (use := none) ck hs hv hj hsrc hifs helt Z hne (fun e s' q => q.bind .refl (.refl _)) ?_
 intro s' io' D C L us c mL p m₂ e1 e2 hl hD0 hC0 hDC st H hD hus nf hC sm
 obtain ⟨⟨mC, hn⟩, nfC⟩ := hC
 refine ⟨mC, hn, fun h' hs' => ?_⟩
 have sd : Side W [C] s.heap s'.heap io' h' := bJ8 hC0 hn nfC hs'
 have st' := sd.step H st
 have H' := sd.hr H Z.H.keep
 have basD : W.base.get? D = none := by
  cases q : W.base.get? D with
  | none => rfl
  | some o => rw [Z.H.keep _ _ q] at hD0; cases hD0
 obtain ⟨a1, a2, a3⟩ := cP2 st' H' (sd.keep _ _ (by simpa using hDC) hD) (hus.sol sd.sol) hl nf hD0 basD
 refine ⟨.ref mL.length, mL ++ [.list L], _, ?_, a1, a2, a3, sm.trans ⟨rfl, rfl⟩⟩
 show (csrc r m).bind _ = _
 rw [e1]
 show (aY p.2 _ p.1 m₂).bind _ = _
 rw [e2]
 show (if L.length <= lid then alloc (.list L) else bad) mL = _
 rw [if_pos hl]; rfl
noncomputable def cT (csrc : Lo -> Mn (List V × Gd)) (cif : Lo -> Mn Bool) (celt : Lo -> Mn V) (j nl i : Nat) (r : Lo) (m : MH) : Res (Fl × Lo) :=
 bnd (bnd (csrc r) fun p => bnd (aY p.2 (eD j (r ++ List.replicate nl none) cif celt) p.1) fun l => if l.length <= lid then alloc (.list l) else bad) (fun v => bnd (fun m => .ok (r.set i (some v)) m) fun r' => ret (Fl.next, r')) m
theorem bC6 {elt iter : Expr} {ifs : List Expr} {scope : Scope} {px py cpos : Pos} {vis' : List (Option Str)} {nl j i : Nat} {x y : Str} {csrc : Lo -> Mn (List V × Gd)} {cif : Lo -> Mn Bool} {celt : Lo -> Mn V}
  (ck : CompOk scope env vis vis' nl) (hs : ∀ x, foldedSetIterable iter env x = Pure.pure x) (hv : vis'[j]? = some (some x)) (hj : vis.length <= j) (hsrc : aI7 W A (env :: fs) env vis iter csrc)
  (hifs : ∀ cl C, SiB W A (env :: fs) (compEnvC scope cl C env) vis' (aA5 ifs (compEnvC scope cl C env) true) cif) (helt : ∀ cl C, SiE W A (env :: fs) (compEnvC scope cl C env) vis' (eval elt (compEnvC scope cl C env)) celt)
  (hsw : swapsWithSole [.Name y py] (.ListComp elt [⟨.Name x px, iter, ifs, 0⟩] scope cpos) pos.line env = Pure.pure true) (hyv : vis[i]? = some (some y)) (hyk : env.kindOf y = some .local) :
  SiS W A fs env vis (exec (.Assign [.Name y py] (.ListComp elt [⟨.Name x px, iter, ifs, 0⟩] scope cpos) pos) env) (fun r => bnd (bnd (csrc r) fun p => bnd (aY p.2 (eD j (r ++ List.replicate nl none) cif celt) p.1) fun l => if l.length <= lid then alloc (.list l) else bad) fun v => bnd (fun m => .ok (r.set i (some v)) m) fun r' => ret (.next, r')) := by
 intro s io m r Z
 show Si W (bF env) A (env :: fs) (SP W env vis) _ s io m (cT csrc cif celt j nl i r m)
 intro hne
 rw [exec_Assign_arm]
 refine wpAny_bind (wpAny_standAt ?_)
 rw [hsw]
 refine wpAny_bind (wpAny_pure ?_)
 simp only [if_true]
 have hne0 : (csrc r m).bind (fun p => bnd (aY p.2 (eD j (r ++ List.replicate nl none) cif celt) p.1) fun l => if l.length <= lid then alloc (.list l) else bad) ≠ .bad := Res.bind_ne hne
 refine wpAny_bind ?_
 suffices main : wpAny (model W.prog W.w) A (comprehension (.ListComp elt [⟨.Name x px, iter, ifs, 0⟩] scope cpos) scope env (firstIterPos [⟨.Name x px, iter, ifs, 0⟩] cpos) (newList []) false (eval iter env) (some fun v => assignAll v ((assignEach [.Name y py] env).map (·.2)))) (fun y_ s' => NP W (bF env) (frs (env :: fs)) s io m (SP W env vis) (cT csrc cif celt j nl i r m) Flow.next s') (XP W (bF env) (env :: fs) s io m (cT csrc cif celt j nl i r m)) s from
  wpAny_bind (wpAny_mono main (fun y_ s' q => wpAny_pure (wpAny_pure q)) fun y_ y_ q => q)
 have lift : ∀ e s', XP W [] (env :: fs) s io m (csrc r m) e s' -> XP W (bF env) (env :: fs) s io m (cT csrc cif celt j nl i r m) e s' := fun e s' q => by
  obtain ⟨c', m', io', a, g, h1, h2, h3, h4, h5, h6⟩ := q
  refine ⟨c', m', io', a, g, ?_, h2, h3.wk (fun y_ q => nomatch q), h4, h5, h6⟩
  simp only [cT, bnd, h1, Res.bind]
 have go := bC4 (W := W) (A := A) (fs := env :: fs) (env := env) (vis := vis) (s := s) (io := io) (m := m) (r := r) (pos := cpos) (fp := firstIterPos [⟨.Name x px, iter, ifs, 0⟩] cpos) (elt := elt) (iter := iter) (ifs := ifs) (scope := scope) (px := px) (vis' := vis') (nl := nl) (j := j) (x := x) (csrc := csrc) (cif := cif) (celt := celt)
  (use := some fun v => assignAll v ((assignEach [.Name y py] env).map (·.2))) (Q := fun y_ s' => NP W (bF env) (frs (env :: fs)) s io m (SP W env vis) (cT csrc cif celt j nl i r m) Flow.next s') (E := XP W (bF env) (env :: fs) s io m (cT csrc cif celt j nl i r m)) ck hs hv hj hsrc hifs helt Z.sit hne0 lift
 refine go ?_
 clear go
 intro s' io' D C L us c mL p m₂ e1 e2 hl hD0 hC0 hDC st H hD hus nf hC sm
 obtain ⟨⟨mC, hn⟩, nfC⟩ := hC
 have eT : cT csrc cif celt j nl i r m = .ok (.next, r.set i (some (.ref mL.length))) (mL ++ [.list L]) := by
  simp only [cT, bnd, e1, Res.bind, e2, if_pos hl, alloc, ret]
 have basD : W.base.get? D = none := by
  cases q : W.base.get? D with
  | none => rfl
  | some o => rw [Z.H.keep _ _ q] at hD0; cases hD0
 obtain ⟨a1, a2, a3⟩ := cP2 st H hD hus hl nf hD0 basD
 have nfC' : ¬ cU (io' ++ [(D, D)]) C := fun f => by
  rcases dS f with f | ⟨q, hq, e⟩
  ·exact nfC f
  ·rw [List.mem_singleton.mp hq] at e
   rcases e with e | e <;> exact hDC e.symm
 have Z' : Stt W fs env vis s' (io' ++ [(D, D)]) (mL ++ [.list L]) r := ⟨a2, Z.F.step0 Z.H a1, Z.G.step0 a1, Z.fr, Z.dis⟩
 have hLo : ∃ o, s.heap.get? env.locals = some o := by obtain ⟨y_, ⟨o, y_, y_, ho, y_⟩, y_⟩ := Z.F.loc; exact ⟨o, ho⟩
 have hCl : C ∉ bF env := fun q => by
  rcases List.mem_cons.mp q with e | q
  ·obtain ⟨o, ho⟩ := hLo; rw [<- e, hC0] at ho; cases ho
  ·obtain ⟨⟨z, c'⟩, hm, hq⟩ := List.mem_filterMap.mp q
   obtain ⟨⟨y_, o, ho, y_⟩, y_⟩ := Z.F.cells z C hq
   rw [hC0] at ho; cases ho
 have nfr : C ∉ frs (env :: fs) := fun q => by
  obtain ⟨e, he, hf⟩ := List.mem_filterMap.mp q
  obtain ⟨y_, L', o, y_, y_, h1, y_, y_, h4, y_⟩ := Z.sit.G e he
  rw [h1] at hf; cases hf; rw [hC0] at h4; cases h4
 have as := aV0 (W := W) (fs := fs) (A := A) (pos := py) hyv (.inl hyk) s' _ _ r _ _ Z' a3 (fun q => nomatch q)
 have key : wpAny (model W.prog W.w) A (assign (.Name y py) env (.ref D)) (fun y_ s'' => ∃ mC, s''.heap.Ns C mC /\ ∀ h', Heap.SameBut C s''.heap h' -> NP W (bF env) (frs (env :: fs)) s io m (SP W env vis) (cT csrc cif celt j nl i r m) Flow.next { s'' with heap := h' }) (XP W (bF env) (env :: fs) s io m (cT csrc cif celt j nl i r m)) s' := by
  refine wpAny_mono as (fun y_ s'' q => ?_) fun e s'' q => ?_
  rotate_left
  ·obtain ⟨c', m', io', a, g, h1, y_⟩ := q; cases h1
  obtain ⟨r₂, m₃, io₃, e3, st3, H3, F3, sm3⟩ := q
  cases e3
  obtain ⟨oC, esC, epC, hoC, hdC, hrC⟩ := hn
  have hoC' := st3.keep _ _ hoC nfC' hCl nfr
  have hn3 : s''.heap.Ns C mC := ⟨oC, esC, epC, hoC', hdC, hrC⟩
  refine ⟨mC, hn3, fun h' hs' => ?_⟩
  have nfC3 := st3.nofoot hoC nfC'
  have sd : Side W [C] s.heap s''.heap io₃ h' := bJ8 hC0 hn3 nfC3 hs'
  have stT := (a1.wk (own' := bF env) fun y_ q => nomatch q).trans st3
  have F' : FR W h' io₃ env vis (r.set i (some (.ref mL.length))) := F3.side sd hLo fun z c hz => by obtain ⟨⟨y_, o, ho, y_⟩, y_⟩ := Z.F.cells z c hz; exact ⟨o, ho⟩
  exact ⟨(.next, r.set i (some (.ref mL.length))), _, io₃, eT, sd.step H3 stT, sd.hr H3 Z.H.keep, ⟨.next, F'⟩, (sm.trans sm3).trans ⟨rfl, rfl⟩⟩
 exact key
end
end Mini
namespace Mini
open PySem PySem.W
noncomputable def dH : Ty -> String
 | .int => "int"
 | .bool => "bool"
 | .str => "str"
 | .list => "list"
 | .tuple => "tuple"
 | .dict => "dict"
 | .cls _ => ""
section
variable {W : Wd} {K : Frag} {h h' h₀ : Heap} {fs : List Env} {env : Env} {vis : List (Option Str)} {s s' s₀ : Shared} {io io' io₀ : Io} {m m' m₀ : MH} {r r' : Lo} {fr fr' own own' : List Addr} {A : Around} {n : Nat} {pos p : Pos}
structure IsiT (W : Wd) (A : Around) (E : Value -> Shared -> Prop) (t : Ty) : Prop where
 fn : ∀ {s : Shared} {Q : Value -> Shared -> Prop}, (∀ tk, Q (.bool false) { s with toks := tk }) -> wpAny (model W.prog W.w) A (call (.builtin "isinstance") [.none, .type (dH t)]) Q E s
 fb : ∀ {s : Shared} {Q : Value -> Shared -> Prop} (c : Bool), (∀ tk, Q (.bool (t == .int || t == .bool)) { s with toks := tk }) -> wpAny (model W.prog W.w) A (call (.builtin "isinstance") [.bool c, .type (dH t)]) Q E s
 fi : ∀ {s : Shared} {Q : Value -> Shared -> Prop} (k : Int) (u : Tok), (∀ tk, Q (.bool (t == .int)) { s with toks := tk }) -> wpAny (model W.prog W.w) A (call (.builtin "isinstance") [.int k u, .type (dH t)]) Q E s
 fs : ∀ {s : Shared} {Q : Value -> Shared -> Prop} (x : Str) (u : Tok), (∀ tk, Q (.bool (t == .str)) { s with toks := tk }) -> wpAny (model W.prog W.w) A (call (.builtin "isinstance") [.str x u, .type (dH t)]) Q E s
 ft : ∀ {s : Shared} {Q : Value -> Shared -> Prop} (a : Addr) (o : Obj), s.heap.get? a = some o -> o.cls = .type "tuple" -> (∀ tk, Q (.bool (t == .tuple)) { s with toks := tk }) -> wpAny (model W.prog W.w) A (call (.builtin "isinstance") [.ref a, .type (dH t)]) Q E s
 fl : ∀ {s : Shared} {Q : Value -> Shared -> Prop} (a : Addr) (o : Obj), s.heap.get? a = some o -> o.cls = .type "list" -> (∀ tk, Q (.bool (t == .list)) { s with toks := tk }) -> wpAny (model W.prog W.w) A (call (.builtin "isinstance") [.ref a, .type (dH t)]) Q E s
 fd : ∀ {s : Shared} {Q : Value -> Shared -> Prop} (a : Addr) (o : Obj), s.heap.get? a = some o -> o.cls = .type "dict" -> (∀ tk, Q (.bool (t == .dict)) { s with toks := tk }) -> wpAny (model W.prog W.w) A (call (.builtin "isinstance") [.ref a, .type (dH t)]) Q E s
theorem isiT (E : Value -> Shared -> Prop) {t : Ty} (ht : ∀ c, t ≠ .cls c) : IsiT W A E t := by
 cases t with
 | int => exact ⟨fun {s} {Q} h => IsiPair.NoneType_int (h _), fun {s} {Q} y_ h => IsiPair.bool_int (h s.toks), fun {s} {Q} y_ y_ h => IsiPair.int_int (h s.toks), fun {s} {Q} y_ y_ h => IsiPair.str_int (h _), fun {s} {Q} y_ y_ e c h => IsiPair.tuple_int e c (h _), fun {s} {Q} y_ y_ e c h => IsiPair.list_int e c (h _), fun {s} {Q} y_ y_ e c h => IsiPair.dict_int e c (h _)⟩
 | bool => exact ⟨fun {s} {Q} h => IsiPair.NoneType_bool (h _), fun {s} {Q} y_ h => IsiPair.bool_bool (h s.toks), fun {s} {Q} y_ y_ h => IsiPair.int_bool (h _), fun {s} {Q} y_ y_ h => IsiPair.str_bool (h _), fun {s} {Q} y_ y_ e c h => IsiPair.tuple_bool e c (h _), fun {s} {Q} y_ y_ e c h => IsiPair.list_bool e c (h _), fun {s} {Q} y_ y_ e c h => IsiPair.dict_bool e c (h _)⟩
 | str => exact ⟨fun {s} {Q} h => IsiPair.NoneType_str (h _), fun {s} {Q} y_ h => IsiPair.bool_str (h _), fun {s} {Q} y_ y_ h => IsiPair.int_str (h _), fun {s} {Q} y_ y_ h => IsiPair.str_str (h s.toks), fun {s} {Q} y_ y_ e c h => IsiPair.tuple_str e c (h _), fun {s} {Q} y_ y_ e c h => IsiPair.list_str e c (h _), fun {s} {Q} y_ y_ e c h => IsiPair.dict_str e c (h _)⟩
 | list => exact ⟨fun {s} {Q} h => IsiPair.NoneType_list (h _), fun {s} {Q} y_ h => IsiPair.bool_list (h _), fun {s} {Q} y_ y_ h => IsiPair.int_list (h _), fun {s} {Q} y_ y_ h => IsiPair.str_list (h _), fun {s} {Q} y_ y_ e c h => IsiPair.tuple_list e c (h _), fun {s} {Q} y_ y_ e c h => IsiPair.list_list e c (h s.toks), fun {s} {Q} y_ y_ e c h => IsiPair.dict_list e c (h _)⟩
 | tuple => exact ⟨fun {s} {Q} h => IsiPair.NoneType_tuple (h _), fun {s} {Q} y_ h => IsiPair.bool_tuple (h _), fun {s} {Q} y_ y_ h => IsiPair.int_tuple (h _), fun {s} {Q} y_ y_ h => IsiPair.str_tuple (h _), fun {s} {Q} y_ y_ e c h => IsiPair.tuple_tuple e c (h s.toks), fun {s} {Q} y_ y_ e c h => IsiPair.list_tuple e c (h _), fun {s} {Q} y_ y_ e c h => IsiPair.dict_tuple e c (h _)⟩
 | dict => exact ⟨fun {s} {Q} h => IsiPair.NoneType_dict (h _), fun {s} {Q} y_ h => IsiPair.bool_dict (h _), fun {s} {Q} y_ y_ h => IsiPair.int_dict (h _), fun {s} {Q} y_ y_ h => IsiPair.str_dict (h _), fun {s} {Q} y_ y_ e c h => IsiPair.tuple_dict e c (h _), fun {s} {Q} y_ y_ e c h => IsiPair.list_dict e c (h _), fun {s} {Q} y_ y_ e c h => IsiPair.dict_dict e c (h s.toks)⟩
 | cls c => exact absurd rfl (ht c)
structure IsiE (S : Sig) (m : MH) (t : Ty) : Prop where
 en : eN S .none t m = .ok false m
 eb : ∀ b, eN S (.bool b) t m = .ok (t == .int || t == .bool) m
 ei : ∀ i, eN S (.int i) t m = .ok (t == .int) m
 es : ∀ x, eN S (.str x) t m = .ok (t == .str) m
 et : ∀ x, eN S (.tup x) t m = .ok (t == .tuple) m
 er : ∀ n, eN S (.ref n) t m = (match m[n]? with | some (.list _) => .ok (t == .list) m | some (.dict _ _) => .ok (t == .dict) m | _ => .bad)
 ef : ∀ k, eN S (.fn k) t m = .bad
 ee : ∀ k, eN S (.exc k) t m = .bad
 ec : ∀ k, eN S (.scr k) t m = .bad
theorem cV3 {S : Sig} {t : Ty} (ht : ∀ c, t ≠ .cls c) : IsiE S m t := by
 cases t with
 | cls c => exact absurd rfl (ht c)
 | _ => exact ⟨rfl, fun y_ => rfl, fun y_ => rfl, fun y_ => rfl, fun y_ => rfl, fun y_ => rfl, fun y_ => rfl, fun y_ => rfl, fun y_ => rfl⟩
theorem cL1 {S : Sig} (H : HR W s.heap io m) {t : Ty} (ht : ∀ c, t ≠ .cls c) {v : V} {u : Value} (k : VR W s.heap io v u) : Si W own A fs BV (call (.builtin "isinstance") [u, .type (dH t)]) s io m (eN S v t m) := by
 have X := fun E => isiT (W := W) (A := A) E ht
 have e := cV3 (S := S) (m := m) ht
 induction k using VR.elim with
 | none => rw [e.en]; exact fun y_ => (X _).fn fun tk => fQ H
 | bool b => rw [e.eb]; exact fun y_ => (X _).fb b fun tk => fQ H
 | int i t => rw [e.ei]; exact fun y_ => (X _).fi i t fun tk => fQ H
 | str x t hx => rw [e.es]; exact fun y_ => (X _).fs x t fun tk => fQ H
 | tup ha hx => rw [e.et]; exact fun y_ => (X _).ft _ _ ha rfl fun tk => fQ H
 | @ref n a d hi =>
  rw [e.er]
  cases hm : m[n]? with
  | none => exact .bad
  | some o =>
   have ho := H.obj _ _ _ hi hm
   cases o with
   | list xs =>
    obtain ⟨y_, us, c, h1, y_⟩ := ho
    exact fun y_ => (X _).fl _ _ h1 rfl fun tk => fQ H
   | dict kvs e =>
    obtain ⟨y_, o, es, c, h1, h2, y_⟩ := ho
    exact fun y_ => (X _).fd _ _ h1 h2.1 fun tk => fQ H
   | inst c fs => exact .bad
 | fn k => rw [e.ef]; exact .bad
 | exc => rw [e.ee]; exact .bad
 | scr => rw [e.ec]; exact .bad
end
end Mini
namespace Mini
open PySem PySem.W PyProof.Rows
inductive StrKs : List Str -> List (Value × Value) -> Prop
 | nil : StrKs [] []
 | cons {k : Str} {t : Tok} {v : Value} {ks : List Str} {ps : List (Value × Value)} : StrKs ks ps -> StrKs (k :: ks) ((.str k t, v) :: ps)
noncomputable def cE8 (W : Wd) (ks : List Str) : Heap -> Io -> List V -> List (Value × Value) -> Prop := fun h io vs ps => VRs W h io vs (ps.map (·.2)) /\ StrKs ks ps
noncomputable def SiP (W : Wd) (A : Around) (fs : List Env) (env : Env) (vis : List (Option Str)) (ks : List Str) (t : Sem (List (Value × Value))) (c : Lo -> Mn (List V)) : Prop :=
 ∀ (s : Shared) (io : Io) (m : MH) (r : Lo), Sit W fs env vis s io m r -> Si W [] A fs (cE8 W ks) t s io m (c r m)
section
variable {W : Wd} {fs : List Env} {env : Env} {vis : List (Option Str)} {A : Around} {pos p : Pos}
theorem p_nil : SiP W A fs env vis [] (evalPairs (pairTrees [] [] env pos)) (fun y_ => ret []) := fun y_ y_ y_ y_ Z => .pure Z.H ⟨.nil, .nil⟩
theorem cT8 {k : Str} {ks : List Str} {j : Nat} {v : Expr} {keys : List (Option Expr)} {vs : List Expr} {ca : Lo -> Mn V} {cl : Lo -> Mn (List V)} (hk : PyData.strOk k = true) (ha : SiE W A fs env vis (eval v env) ca) (hl : SiP W A fs env vis ks (evalPairs (pairTrees keys vs env pos)) cl) :
  SiP W A fs env vis (k :: ks) (evalPairs (pairTrees (some (.Constant (.str k) j p) :: keys) (v :: vs) env pos)) (fun r => bnd (ca r) fun x => bnd (cl r) fun xs => ret (x :: xs)) := by
 intro s io m r Z
 have hc : SiE W A fs env vis (eval (.Constant (.str k) j p) env) (fun y_ => ret (V.str k)) := bP4 (v := .str k) (k := .str k) (by simp [hk])
 show Si W [] A fs (cE8 W (k :: ks)) (evalPairs ((eval (.Constant (.str k) j p) env, do let x <- eval v env; standAt pos; pure x) :: pairTrees keys vs env pos)) s io m (bnd (ret (V.str k)) (fun y_ => bnd (ca r) fun x => bnd (cl r) fun xs => ret (x :: xs)) m)
 rw [evalPairs]
 refine Si.bind (hc s io m r Z) fun u s₁ io₁ m₁ kv e st H₁ k1 sm => ?_
 cases e
 refine VR.dStr k1 fun t y_ => ?_
 have Z₁ := Z.step H₁ st
 have br : ∀ R : Res V, R.bind ret = R := fun R => by cases R <;> rfl
 have hv : Si W [] A fs (VP W) (do let x <- eval v env; standAt pos; pure x) s₁ io₁ m (ca r m) := by
  rw [<- br (ca r m)]
  exact Si.bind (ha _ _ _ r Z₁) fun u' s₂ io₂ m₂ x e₂ st₂ H₂ k₂ sm₂ => .standAt (.pure H₂ k₂)
 refine Si.bind (Si.holding hv) fun u' s₂ io₂ m₂ x e₂ st₂ H₂ k₂ sm₂ => ?_
 refine Si.bind (Si.holding (hl _ _ _ r (Z₁.step H₂ st₂))) fun ps s₃ io₃ m₃ xs e₃ st₃ H₃ k₃ sm₃ => ?_
 exact .pure H₃ ⟨.cons (k₂.step st₃) k₃.1, .cons k₃.2⟩
theorem StrKs.length {ks : List Str} {ps : List (Value × Value)} (h : StrKs ks ps) : ks.length = ps.length := by
 induction h with
 | nil => rfl
 | cons y_ ih => exact congrArg (· + 1) ih
theorem StrKs.carries {prog : Program} {w : World} {ks : List Str} {ps : List (Value × Value)} (h : StrKs ks ps) : Carries (PySem.strKind prog w) ps (ks.zip (ps.map (·.2))) := by
 induction h with
 | nil => exact trivial
 | @cons k t v ks ps y_ ih => exact ⟨by simp [PySem.strKind, Value.isStrOf], rfl, ih⟩
theorem cN6 {ks : List Str} {keys : List (Option Expr)} {es : List Expr} {cl : Lo -> Mn (List V)} (hall : keys.all (·.isSome) = true) (hl : keys.length = es.length) (h0 : keys ≠ []) (h15 : keys.length <= 15) (hk15 : ks.length <= 15) (nd : ks.Nodup) (hok : ∀ k ∈ ks, PyData.strOk k = true)
  (hp : SiP W A fs env vis ks (evalPairs (pairTrees keys es env pos)) cl) : SiE W A fs env vis (eval (.Dict keys es pos) env) (fun r => bnd (cl r) fun us => alloc (.dict ((ks.map Ky.str).zip us) 0)) := by
 intro s io m r Z hne
 have hkeep : ∀ b o, s.heap.get? b = some o -> (s.heap.push { cls := .type "dict", data := .dict #[] }).get? b = some o := aN _
 have st0 : Step [] (frs fs) s.heap io m (s.heap.push { cls := .type "dict", data := .dict #[] }) io m := .of_keeps Z.H hkeep
 have H0 := Z.H.of_keeps hkeep
 refine wpAny_Dict_walk (knd := PySem.strKind W.prog W.w) hall hl h0 h15 (wpAny_mono (hp { s with heap := s.heap.push { cls := .type "dict", data := .dict #[] } } io m r (Z.step H0 st0) (Res.bind_ne hne)) (fun ps s₁ q => ?_) fun e s₁ q => (q.mono st0 ⟨rfl, rfl⟩).bind .refl (.refl _))
 refine hide fun G_ g_ => ?_
 obtain ⟨us, m₁, io₁, e1, st1, H₁, ⟨kv, ks'⟩, sm₁⟩ := q
 refine g_ ?_
 clear g_ G_
 have nf : ¬ cU io s.heap.objs.size := fun f => by
  obtain ⟨o, ho, y_⟩ := Z.H.foot f
  exact absurd (Heap.lt_size ho) (Nat.lt_irrefl _)
 have nfr : s.heap.objs.size ∉ frs fs := fun q => by
  obtain ⟨o, y_, y_, y_, ho, y_⟩ := bO4 Z.G q
  exact absurd (Heap.lt_size ho) (Nat.lt_irrefl _)
 have hD : s₁.heap.get? s.heap.objs.size = some { cls := .type "dict", data := .dict #[] } := st1.keep _ _ (Heap.get?_push_size _ rfl) nf (fun q => nomatch q) nfr
 have lk := ks'.length
 have lu : us.length = ks.length := by rw [lk, <- kv.length, List.length_map]
 refine ⟨ks.zip (ps.map (·.2)), ks'.carries, ⟨_, #[], 0, hD, ⟨rfl, rfl, rfl⟩, rfl, fun y_ he => by simp at he, Pairs.nil, List.nodup_nil⟩, fun h' hd hsb => ?_⟩
 have nf1 : ¬ cU io₁ s.heap.objs.size := st1.nofoot (Heap.get?_push_size _ rfl) nf
 have basD : W.base.get? s.heap.objs.size = none := by
  cases q : W.base.get? s.heap.objs.size with
  | none => rfl
  | some o => exact absurd (Heap.lt_size (Z.H.keep _ _ q)) (Nat.lt_irrefl _)
 rw [merged_nil_of_nodup _ (by rw [List.map_fst_zip (by rw [List.length_map, lk]; exact Nat.le_refl _)]; exact nd)] at hd
 refine hide fun G_ g_ => ?_
 obtain ⟨o', es', n2, d1, d2, d3, d4, d5, d6⟩ := hd
 refine g_ ?_
 clear g_ G_
 have hk' : ∀ b o, b ≠ s.heap.objs.size -> s₁.heap.get? b = some o -> h'.get? b = some o := fun b o q e => cI hsb b o q e
 have hs' : ∀ o, s₁.heap.get? s.heap.objs.size = some o -> ¬ cA o /\ ∃ o', h'.get? s.heap.objs.size = some o' := fun o e => by
  rw [hD] at e; cases e
  refine ⟨?_, _, d1⟩
  rintro (⟨y_, vs, n, q⟩ | ⟨C, vs, q, y_⟩)
  ·cases q
  ·cases q
 have stD : Step [s.heap.objs.size] (frs fs) s₁.heap io₁ m₁ h' io₁ m₁ := eS H₁ (.head _) hk' hs' nf1
 have H2 : HR W h' io₁ m₁ := HR.ofOwn (own := [s.heap.objs.size]) H₁ (.head _) hk' hs' nf1 basD
 have st2 : Step [] (frs fs) s.heap io m h' io₁ m₁ := Step.shrink Z.H ((st1.wk fun y_ q => nomatch q).trans stD) hkeep (fun b hb => .inl (by rw [List.mem_singleton.mp hb]; exact aP _)) fun b hb => .inr hb
 have kv2 : VRs W h' (io₁ ++ [(s.heap.objs.size, s.heap.objs.size)]) us (ps.map (·.2)) := (kv.step stD).ext fun n p e => by rw [List.getElem?_append_left (List.getElem?_eq_some_iff.mp e).1]; exact e
 have ef : ((ks.map Ky.str).zip us).map (·.1) = ks.map Ky.str := List.map_fst_zip (by rw [List.length_map, lu]; exact Nat.le_refl _)
 have es2 : ((ks.map Ky.str).zip us).map (·.2) = us := List.map_snd_zip (by rw [List.length_map, lu]; exact Nat.le_refl _)
 obtain ⟨st3, H3, v3⟩ := cE6 (D := s.heap.objs.size) (ob := .dict ((ks.map Ky.str).zip us) 0) st2 H2 ⟨rfl, o', es', n2, d1, d2, d3, ERs.of_pairs strEmb (fun e he => d4 e (Array.mem_toList_iff.mp he)) d5 (by
   rw [ef, show (fun p : Str × Value => Ky.str p.1) = Ky.str ∘ Prod.fst from rfl, <- List.map_map, List.map_fst_zip (by rw [List.length_map, lk]; exact Nat.le_refl _)]) (by rw [es2, List.map_snd_zip (by rw [List.length_map, lk]; exact Nat.le_refl _)]; exact kv2) (fun k u hk hi => by
   obtain ⟨t, rfl⟩ := Value.isStrOf_shape hi
   rw [ef] at hk
   obtain ⟨k', hk', e⟩ := List.mem_map.mp hk
   cases e
   exact .str _ _ (hok _ hk')), by rw [ef]; exact (List.pairwise_map.mpr (nd.imp fun h e => h (ky_s e))), by rw [List.length_zip, List.length_map, lu, Nat.min_self]; exact Nat.le_trans hk15 (by decide)⟩ nf1 (aP _) basD
 have ee : bnd (cl r) (fun us => alloc (.dict ((ks.map Ky.str).zip us) 0)) m = .ok (.ref m₁.length) (m₁ ++ [.dict ((ks.map Ky.str).zip us) 0]) := by
  show Res.bind (cl r m) _ = _
  rw [e1]; rfl
 exact ⟨_, _, _, ee, st3, H3, v3, sm₁.1, sm₁.2⟩
end
end Mini
namespace Mini
open PySem PySem.W PyProof.Rows
open Builtin Builtin.Str
section
variable {W : Wd} {K : Frag} {fs : List Env} {s : Shared} {io : Io} {m : MH} {A : Around}
theorem bX0 {x : Str} {t : Tok} {Q : Value -> Shared -> Prop} {E : Value -> Shared -> Prop} (hd : x.cps.toList.all cL5 = true) (hn : x.cps.toList.isEmpty = false) (hl : x.length <= 600) (h : Q (.int (digV x.cps.toList) s.toks) { s with toks := s.toks + 1 }) : wpAny (model W.prog W.w) A (call (.type "int") [.str x t]) Q E s := by
 refine KIN.call_text (PySem.intText_digits (fun c hc => ?_) (fun e => ?_) (Nat.le_trans hl (by decide))) (Nat.le_trans hl (by decide)) h
 ·have := List.all_eq_true.mp hd c hc
  have := Bool.and_eq_true_iff.mp this
  exact ⟨of_decide_eq_true this.1, of_decide_eq_true this.2⟩
 ·rw [e] at hn; cases hn
end
end Mini
namespace Mini
open PySem PySem.W PyProof.Rows PySem.Calls PySem.Builtin PySem.Builtin.ObjectAttr PySem.Builtin.Getset_descriptor
noncomputable def eP (K : Frag) (D : Addr) : Bool :=
 findIn K (.ref D) "__getattribute__" == some (some (.builtin "BaseException.__getattribute__")) && findIn K (.ref D) "__getattr__" == some none && findIn K (.ref D) "__class__" == some (some (.builtin "object.__class__")) && specialIn K (.builtin "object.__class__") "__get__" == some (some (.builtin "getset_descriptor.__get__")) && takesIn K (.builtin "object.__class__") == some true &&
 mroIn K D (.type "object") == some true && mroIn K D (.type "BaseException") == some true && (match K.lookup D with | some o => (match o.data with | .cls _ => true | _ => false) | none => false)
section
variable {prog : Program} {w : World} {A : Around} {E : Value -> Shared -> Prop} {h : Heap} {g : Array GenState} {d : Drawn} {t : Nat} {os : OsState} {a D : Addr} {K : Frag}
theorem cN1 {R : Result -> Shared -> Prop} (X : K.In h) (L0 : Looks (model prog w) h (typeOf (.ref a)) (.ref D)) (hm : mroIn K D (.type "object") = some true) (hq : R (.ok (.ret (.ref D))) ⟨h, g, d, t, os⟩) :
  codeAny (model prog w) A (.call (.builtin "getset_descriptor.__get__") ⟨[.builtin "object.__class__", .ref a, .ref D], []⟩) R ⟨h, g, d, t, os⟩ := by
 have L1 := looks_mroIn (M := model prog w) X hm
 refine codeAny_call_builtin KF.slot_gs.plain KF.entry_gs (KF.slot_gs.check _ _ _ _ _ _ _ _ KF.type_class (KF.args_gs _ _ _) ?_)
 unfold Builtin.«getset_descriptor.__get__» descrGet
 rw [dga_obj]
 refine wpAny_bind (wpAny_pure ?_)
 unfold descrGetter descrCheckInstance descrNameAndClass isInstance
 simp only [KF.owner_class]
 repeat lk
 refine ⟨Code.quiet_builtin _ (by decide +kernel), codeAny_builtin KF.entry_class ?_⟩
 unfold Builtin.«object.__class__» shownTypeOf
 repeat lk
 exact hq
theorem bO7 {tk : Tok} {Q : Fin -> Shared -> Prop} (X : K.In h) (L0 : Looks (model prog w) h (typeOf (.ref a)) (.ref D)) (hm : mroIn K D (.type "object") = some true) (LF : Looks (model prog w) h (find (.ref a) (.ref D) "__class__") (.bind (.builtin "getset_descriptor.__get__") (.builtin "object.__class__"))) (hq : Q (.done (.ret (.ref D))) ⟨h, g, d, t, os⟩) :
  wpAny (model prog w) A (Builtin.«object.__getattribute__» ⟨[.ref a, .str "__class__" tk], []⟩) Q E ⟨h, g, d, t, os⟩ := by
 repeat (any_goals (first | assumption | with_reducible refine Looks.at L0 ?_ | with_reducible refine Looks.at LF ?_ | wp_step))
 refine cN1 X L0 hm ?_
 repeat (any_goals (first | assumption | wp_step))
theorem bO8 {M : Model} {nameV : Value} {Q : Unit -> Shared -> Prop} (X : K.In h) (L0 : Looks M h (typeOf (.ref a)) (.ref D)) (hb : mroIn K D (.type "BaseException") = some true) (hq : Q () ⟨h, g, d, t, os⟩) : wpAny M A (checkBuiltinCall "BaseException.__getattribute__" ⟨[.ref a, nameV], []⟩) Q E ⟨h, g, d, t, os⟩ := by
 have hk : builtinKind "BaseException.__getattribute__" = some .slot := by decide +kernel
 have hsplit : splitId "BaseException.__getattribute__" = some ("BaseException", "__getattribute__") := by decide +kernel
 have L1 := looks_mroIn (M := M) X hb
 have ha := F.args_bexc_ga (.ref a) nameV
 simp only [checkBuiltinCall, hk, hsplit]
 refine wpAny_bind ?_
 unfold isInstance
 repeat (first | with_reducible refine Looks.at L0 ?_ | with_reducible refine Looks.at L1 ?_ | wp_step)
 exact hq
theorem bY2 {tk : Tok} {R : Result -> Shared -> Prop} (X : K.In h) (L0 : Looks (model prog w) h (typeOf (.ref a)) (.ref D)) (hm : mroIn K D (.type "object") = some true) (hb : mroIn K D (.type "BaseException") = some true) (LF : Looks (model prog w) h (find (.ref a) (.ref D) "__class__") (.bind (.builtin "getset_descriptor.__get__") (.builtin "object.__class__"))) (hq : R (.ok (.ret (.ref D))) ⟨h, g, d, t, os⟩) :
  codeAny (model prog w) A (.call (.builtin "BaseException.__getattribute__") ⟨[.ref a, .str "__class__" tk], []⟩) R ⟨h, g, d, t, os⟩ :=
 codeAny_call_builtin F.attr_ValueError.ga.plain F.entry_bexc_ga (bO8 X L0 hb (bO7 X L0 hm LF hq))
theorem cX1 {tk : Tok} {Q : Value -> Shared -> Prop} (X : K.In h) (L0 : Looks (model prog w) h (typeOf (.ref a)) (.ref D)) (hc : eP K D = true) (hq : Q (.ref D) ⟨h, g, d, t, os⟩) :
  wpAny (model prog w) A (getAttrBy (.ref a) (.str "__class__" tk) false) Q E ⟨h, g, d, t, os⟩ := by
 simp only [eP, Bool.and_eq_true, beq_iff_eq] at hc
 refine hide fun G_ g_ => ?_
 obtain ⟨⟨⟨⟨⟨⟨⟨c1, c2⟩, c3⟩, c4⟩, c5⟩, c6⟩, c7⟩, c8⟩ := hc
 refine g_ ?_
 clear g_ G_
 have L1 := looks_findIn (M := model prog w) X c1
 have L2 := looks_findIn (M := model prog w) X c2
 have f3 := F.attr_ValueError.ga.bind (.ref a)
 have hx2 : (Value.builtin "BaseException.__getattribute__" == Value.builtin "object.__getattribute__") = false := by decide +kernel
 have hx1 : (onTheHeap (Value.ref D) && Value.builtin "BaseException.__getattribute__" == Value.builtin "object.__getattribute__") = false := by rw [hx2]; rfl
 have LF : Looks (model prog w) h (find (.ref a) (.ref D) "__class__") (.bind (.builtin "getset_descriptor.__get__") (.builtin "object.__class__")) := by
  refine (looks_findIn (M := model prog w) X c3).andThen ((looks_specialIn (M := model prog w) X c4).andThen ?_)
  exact (show Looks (model prog w) h (dataDescriptor? (some (.builtin "object.__class__")) (some (.builtin "getset_descriptor.__get__"))) (some (.builtin "getset_descriptor.__get__", .builtin "object.__class__")) from (looks_takesIn (M := model prog w) X c5).andThen .now).andThen (Looks.tag .now)
 repeat (any_goals (first | assumption | with_reducible refine Looks.at L0 ?_ | with_reducible refine Looks.at L1 ?_ | with_reducible refine Looks.at L2 ?_ | wp_step))
 refine bY2 X L0 c6 c7 LF ?_
 repeat (any_goals (first | assumption | wp_step))
theorem bY3 {Q : Option Value -> Shared -> Prop} (X : K.In h) (L0 : Looks (model prog w) h (typeOf (.ref a)) (.ref D)) (hc : eP K D = true) (hq : Q (some (.ref D)) ⟨h, g, d, t + 1, os⟩) :
  wpAny (model prog w) A (getAttr? (.ref a) "__class__") Q E ⟨h, g, d, t, os⟩ := by
 unfold getAttr? getAttrBy?
 repeat (any_goals (first | assumption | with_reducible apply cX1 X L0 hc | wp_step))
end
noncomputable def ExcAt (a D : Addr) (h : Heap) : Prop := ∃ o, h.get? a = some o /\ o.cls = .ref D
theorem ExcAt.ty {a D : Addr} {h : Heap} {M : Model} (p : ExcAt a D h) : Looks M h (typeOf (.ref a)) (.ref D) := by
 refine hide fun G_ g_ => ?_
 obtain ⟨o, h1, h2⟩ := p
 refine g_ ?_
 clear g_ G_
 exact h2 ▸ (Looks.ld h1).andThen .now
set_option tactic.hygienic true in
theorem bW1 {K : Frag} {a D : Addr} (hc : eP K D = true) : KitX K (.ref a) (.ref D) (ExcAt a D) where
 ty := fun y_ y_ y_ p => p.ty
 it := fun M h X y_ => by
  simp only [eP, Bool.and_eq_true] at hc
  have hc := hc.2
  split at hc
  ·rename_i o ho
   split at hc
   ·rename_i cd hd
    intro A' Q' E' s' k q
    refine hide fun G_ g_ => ?_
    obtain ⟨oc, odi, oda, osl⟩ := o
    refine g_ ?_
    clear g_ G_
    dsimp only at hd
    subst hd
    unfold isType loadHead
    exact wpAny_bind (wpAny_loadPart (k _ _ (X _ _ ho)) (wpAny_pure q))
   ·cases hc
  ·cases hc
 ne := fun h tp dd its n sl X htp => by
  refine Bool.eq_false_iff.mpr fun q => ?_
  have e : D = tp := Value.ref.inj (beq_iff_eq.mp q)
  subst e
  simp only [eP, Bool.and_eq_true] at hc
  have hc := hc.2
  split at hc
  ·rename_i o ho
   split at hc
   ·rename_i cd hd
    have z := (X _ _ ho).symm.trans htp
    cases z
    cases hd
   ·cases hc
  ·cases hc
 ca := fun {_ _ _ _ _ s} X p k => by obtain ⟨h, g, d, t, os⟩ := s; exact bY3 X p.ty hc k
theorem bN5 {W : Wd} {S : Sig} {K : Frag} {A : Around} {fs : List Env} {s : Shared} {io : Io} {m : MH} {own : List Addr} {c : Nat} {cv : Value} (X : K.In W.base) (hrel : ∀ d x, S.cls[d]? = some x -> x.exc = true -> eP K (W.ca d) = true /\ kitOne K (.ref (W.ca d)) cv = some (x.supers.contains c))
  (H : HR W s.heap io m) {v : V} {u : Value} (k : VR W s.heap io v u) : Si W own A fs BV (call (.builtin "isinstance") [u, cv]) s io m (eN S v (.cls c) m) := by
 induction k using VR.elim with
 | @exc d a o vs h1 h2 h3 =>
  have e0 : eN S (.exc d) (.cls c) m = (match S.cls[d]? with | some x => if x.exc then .ok (x.supers.contains c) m else .bad | none => .bad) := rfl
  rw [e0]
  cases ed : S.cls[d]? with
  | none => exact .bad
  | some x =>
   dsimp only
   by_cases hx : x.exc = true
   ·rw [if_pos hx]
    obtain ⟨q1, q2⟩ := hrel d x ed hx
    exact fun y_ => kia_one (bW1 q1) (X.keeps H.keep) ⟨o, h1, h2⟩ q2 (by intro q; cases q) fun tk => ⟨_, m, io, rfl, .refl, H, rfl, rfl, rfl⟩
   ·rw [if_neg hx]; exact .bad
 | _ => exact .bad
end Mini
namespace Mini
open PySem PySem.W PyProof.Rows
noncomputable def cZ2 : Bi -> Value
 | .len => .builtin "len"
 | .abs => .builtin "abs"
 | .int => .type "int"
 | .str => .type "str"
 | .list => .type "list"
 | .tuple => .type "tuple"
 | .dict => .type "dict"
 | .sorted => .builtin "sorted"
 | .max2 => .builtin "max"
 | .min2 => .builtin "min"
 | .max1 => .builtin "max"
 | .lenset => .none
section
variable {W : Wd} {K : Frag} {h h' h₀ : Heap} {fs : List Env} {env : Env} {vis : List (Option Str)} {s s' s₀ : Shared} {io io' io₀ : Io} {m m' m₀ : MH} {r r' : Lo} {fr fr' own own' : List Addr} {A : Around} {n : Nat} {pos p : Pos}
theorem aR9 {D : Addr} {us : Array Value} {c tk : Nat} {L : List V} (H : HR W s.heap io m) (hk : ∀ b o, s.heap.get? b = some o -> h'.get? b = some o) (hD : h'.get? D = some (e7 us c)) (hus : VRs W s.heap io L us.toList) (hl : L.length <= lid) (hD0 : s.heap.get? D = none) :
  NP W own fr s io m (VP W) (alloc (.list L) m) (.ref D) { s with heap := h', toks := tk } := by
 have st : Step own fr s.heap io m h' io m := .of_keeps H hk
 have nf : ¬ cU io D := fun f => by
  refine hide fun G_ g_ => ?_
  obtain ⟨o, ho, y_⟩ := H.foot f
  refine g_ ?_
  clear g_ G_
  rw [hD0] at ho; cases ho
 have basD : W.base.get? D = none := by
  cases q : W.base.get? D with
  | none => rfl
  | some o => rw [H.keep _ _ q] at hD0; cases hD0
 refine hide fun G_ g_ => ?_
 obtain ⟨a1, a2, a3⟩ := cP2 st (H.of_keeps hk) hD (hus.step st) hl nf hD0 basD
 refine g_ ?_
 clear g_ G_
 exact ⟨_, _, _, rfl, a1, a2, a3, rfl, rfl⟩
theorem aA7 {k : Nat} (hk : k <= lid) : (k : Int) < 2 ^ 63 := by have : lid = 4194304 := rfl; omega
theorem cL7 {xs : List V} {is : List Int} {us : List Value} (h : aD2 xs = some is) (k : VRs W s.heap io xs us) : IntsAre us is /\ is.length = xs.length := by
 induction xs generalizing is us with
 | nil => cases k; cases h; exact ⟨.nil, rfl⟩
 | cons x xs ih =>
  refine VRs.dCons k fun y_ y_ k1 k2 => ?_
  ·
   induction k1 using VR.elim <;> simp only [aD2] at h <;> first | cases h | skip
   cases q : aD2 xs with
   | none => rw [q] at h; cases h
   | some js =>
    rw [q] at h
    simp only [Option.map_some, Option.some.injEq] at h
    subst h
    obtain ⟨a, b⟩ := ih q k2
    exact ⟨.cons _ _ a, by simp [b]⟩
theorem aM7 {us : List Value} {is : List Int} (k : IntsAre us is) : VRs W h io (is.map V.int) us := by
 induction k with
 | nil => exact .nil
 | cons n t y_ ih => exact .cons (.int n t) ih
theorem aC3 (x : Int) : ∀ l : List Int, (Mini.insI x l).Perm (x :: l)
 | [] => .refl _
 | y :: r => by
  unfold Mini.insI; split
  ·exact .refl _
  ·exact ((aC3 x r).cons y).trans (.swap _ _ _)
theorem dO : ∀ ns, (Mini.sortI ns).Perm ns
 | [] => .refl _
 | x :: r => (aC3 x _).trans ((dO r).cons x)
theorem aH3 (x : Int) : ∀ l : List Int, l.Pairwise (· <= ·) -> (Mini.insI x l).Pairwise (· <= ·)
 | [], _ => by simp [Mini.insI]
 | y :: r, h => by
  obtain ⟨h1, h2⟩ := List.pairwise_cons.mp h
  unfold Mini.insI; split
  ·refine List.pairwise_cons.mpr ⟨fun z hz => ?_, h⟩
   rcases List.mem_cons.mp hz with rfl | hz
   ·assumption
   ·have := h1 z hz; omega
  ·refine List.pairwise_cons.mpr ⟨fun z hz => ?_, aH3 x r h2⟩
   rcases List.mem_cons.mp ((aC3 x r).mem_iff.mp hz) with rfl | hz
   ·omega
   ·exact h1 z hz
theorem aC7 : ∀ ns, (Mini.sortI ns).Pairwise (· <= ·)
 | [] => .nil
 | x :: r => aH3 x _ (aC7 r)
theorem aI3 {ns ns' : List Int} (hp : ns'.Perm ns) (hs : ns'.Pairwise (· <= ·)) : ns' = Mini.sortI ns :=
 List.Perm.eq_of_pairwise (fun y_ y_ y_ y_ a b => Int.le_antisymm a b) hs (aC7 ns) (hp.trans (dO ns).symm)
theorem int_dict (H : HR W s.heap io m) {k : Nat} {p : Addr × Addr} {kvs : List (Ky × V)} {e : Nat} {is : List Int} (hi : io[k]? = some p) (hm : m[k]? = some (.dict kvs e)) (hk : bX kvs = some is) :
  ∃ (l : List (Int × Value)) (ep : Nat), s.heap.DictAt (intKind W.prog W.w) p.1 l ep /\ l.map (·.1) = is /\ is.length = kvs.length /\ kvs.length <= lid := by
 refine hide fun G_ g_ => ?_
 obtain ⟨y_, o, es, c, h1, h2, h3, h4, h5, h6⟩ := H.obj _ _ _ hi hm
 have keys : ∀ (kvs : List (Ky × V)) (is : List Int), bX kvs = some is -> kvs.map (·.1) = is.map Ky.int := by
  intro kvs
  induction kvs with
  | nil => intro is h; cases h; rfl
  | cons q r ih =>
   intro is h
   obtain ⟨q1, q2⟩ := q
   cases q1 <;> simp only [bX] at h <;> first | cases h | skip
   cases w : bX r with
   | none => rw [w] at h; cases h
   | some js =>
    rw [w] at h
    simp only [Option.map_some, Option.some.injEq] at h
    subst h
    simp [ih js w]
 have ke := keys kvs is hk
 have hall : ∀ q ∈ kvs, ∃ j, q.1 = Ky.int j := fun q hq => by
  have : q.1 ∈ kvs.map (·.1) := List.mem_map.mpr ⟨q, hq, rfl⟩
  rw [ke] at this
  refine hide fun G_ g_ => ?_
  obtain ⟨j, y_, e⟩ := List.mem_map.mp this
  refine g_ ?_
  clear g_ G_
  exact ⟨j, e.symm⟩
 obtain ⟨l, l1, l2, l3⟩ := h4.pairs intEmb hall
 refine g_ ?_
 clear g_ G_
 have l4 : l.map (·.1) = is := by
  rw [ke] at l2
  have : (l.map (·.1)).map Ky.int = is.map Ky.int := by rw [List.map_map]; exact l2
  exact (List.map_inj_right fun y_ y_ e => ky_i e).mp this
 refine ⟨l, c, ⟨o, es, h1, h2, h3, ?_, l1, ?_⟩, l4, ?_, h6⟩
 ·intro e he
  exact h4.keysOf intEmb hall e (by simpa using he)
 ·rw [l4]
  rw [ke] at h5
  exact (List.pairwise_map.mp h5).imp fun h q => h (by rw [q])
 ·have := congrArg List.length ke
  simpa using this.symm
noncomputable def cP8 : Bi -> Bool
 | .len | .abs | .int | .list | .sorted | .dict => true
 | _ => false
set_option tactic.hygienic true in
theorem bB2 {l : List (Int × Value)} {acc : Array Value} (h : ItemsOf (fun i v => ∃ k x, l[i]? = some (k, x) /\ (intKind W.prog W.w).is k v = true) acc l.length) : IntsAre acc.toList (l.map (·.1)) := by
 have key : ∀ (l : List (Int × Value)) (vs : List Value), vs.length = l.length -> (∀ (j : Nat) (v : Value), vs[j]? = some v -> ∃ k x, l[j]? = some (k, x) /\ (intKind W.prog W.w).is k v = true) -> IntsAre vs (l.map (·.1)) := by
  intro l
  induction l with
  | nil => intro vs hl _; cases vs with
   | nil => exact .nil
   | cons => cases hl
  | cons q r ih =>
   intro vs hl hv
   cases vs with
   | nil => cases hl
   | cons v vs =>
    refine hide fun G_ g_ => ?_
    obtain ⟨k, x, e1, e2⟩ := hv 0 v rfl
    refine g_ ?_
    clear g_ G_
    simp at e1
    subst e1
    have : ∃ t, v = .int k t := by
     cases v <;> simp [intKind, Value.isInt] at e2
     rename_i j t
     exact ⟨t, by rw [e2]⟩
    obtain ⟨t, rfl⟩ := this
    exact .cons k t (ih vs (by simpa using hl) fun j v e => by simpa using hv (j + 1) v (by simpa using e))
 exact key l acc.toList (by simpa using h.1) fun j v e => h.2 j v (by rw [<- Array.getElem?_toList]; exact e)
theorem bU8 {xs : List V} {is : List Int} {us : List Value} (hk : VRs W s.heap io xs us) (h : aR8 xs = some is) : is.length = xs.length /\ aC5 s.heap us fun i => is.getD i 0 := by
 induction xs generalizing is us with
 | nil => cases h; cases hk; exact ⟨rfl, fun i q => absurd q (Nat.not_lt_zero _)⟩
 | cons x xs ih =>
  obtain ⟨u, us, rfl, k1, k2⟩ := hk
  cases x with
  | tup ys =>
   cases ys with
   | nil => cases h
   | cons y ys =>
    cases y with
    | int j =>
     have h : (aR8 xs).map (j :: ·) = some is := h
     obtain ⟨js, hj, rfl⟩ := Option.map_eq_some_iff.mp h
     obtain ⟨e1, e2⟩ := ih k2 hj
     obtain ⟨a, vs, c, rfl, g1, g2⟩ := k1
     obtain ⟨v, r, e3, g3, y_⟩ := g2
     obtain ⟨t, rfl⟩ := g3
     refine ⟨congrArg Nat.succ e1, fun i q => ?_⟩
     cases i with
     | zero => exact ⟨a, vs, c, t, r, rfl, g1, e3⟩
     | succ i => exact e2 i (Nat.lt_of_succ_lt_succ q)
    | _ => cases h
  | _ => cases h
theorem bX7 {i : Nat} : ∀ {is : List Int} {xs : List V}, is.length = xs.length -> is.Nodup -> i < is.length -> ((is.zip xs).find? fun p => p.1 == is.getD i 0).map (·.2) = some (xs.getD i .none) := by
 induction i with
 | zero =>
  intro is xs e nd hi
  cases is with
  | nil => exact absurd hi (Nat.not_lt_zero _)
  | cons j is =>
   cases xs with
   | nil => cases e
   | cons x xs => rw [List.zip_cons_cons, List.find?_cons_of_pos (by exact beq_self_eq_true j)]; rfl
 | succ i ih =>
  intro is xs e nd hi
  cases is with
  | nil => exact absurd hi (Nat.not_lt_zero _)
  | cons j is =>
   cases xs with
   | nil => cases e
   | cons x xs =>
    have hi' : i < is.length := Nat.lt_of_succ_lt_succ hi
    have hm : is.getD i 0 ∈ is := by rw [List.getD_eq_getElem?_getD, List.getElem?_eq_getElem hi']; exact List.getElem_mem hi'
    have nd := List.nodup_cons.mp nd
    show (((j, x) :: is.zip xs).find? fun p => p.1 == is.getD i 0).map (·.2) = some (xs.getD i .none)
    rw [List.find?_cons_of_neg (by intro q; exact nd.1 ((show j = is.getD i 0 from eq_of_beq q) ▸ hm))]
    exact ih (Nat.succ.inj e) nd.2 hi'
theorem bX4 {is : List Int} (nd : is.Nodup) {i j : Nat} (hi : i < is.length) (hj : j < is.length) (e : is.getD i 0 = is.getD j 0) : i = j := by
 rw [List.getD_eq_getElem?_getD, List.getD_eq_getElem?_getD, List.getElem?_eq_getElem hi, List.getElem?_eq_getElem hj] at e
 exact (List.getElem_inj nd).mp e
theorem bM1 {α : Type} (l : List α) (d : α) : (List.range l.length).map (fun i => l.getD i d) = l := by
 refine List.ext_getElem? fun i => ?_
 rw [List.getElem?_map]
 rcases Nat.lt_or_ge i l.length with q | q
 ·rw [List.getElem?_eq_getElem (by simpa using q), List.getElem_range, Option.map_some, List.getD_eq_getElem?_getD, List.getElem?_eq_getElem q]; rfl
 ·rw [List.getElem?_eq_none q, List.getElem?_eq_none (by simpa using q)]; rfl
theorem bU0 {xs : List V} {is : List Int} {p : Array Nat} (e : is.length = xs.length) (nd : is.Nodup) (P : Pe xs.length p) (u : Up (fun i => is.getD i 0) p xs.length) : bD3 xs is = p.toList.map fun i => xs.getD i .none := by
 have hm : ∀ i ∈ p.toList, i < is.length := fun i hi => by
  have := (Array.Perm.mem_iff P).mp (Array.mem_toList_iff.mp hi)
  rw [e]; simpa using this
 have hp : (p.toList.map fun i => is.getD i 0).Perm is := by
  have h2 : (p.toList.map fun i => is.getD i 0).Perm ((List.range xs.length).map fun i => is.getD i 0) := List.Perm.map _ (by simpa using P.toList)
  rw [<- e, bM1] at h2
  exact h2
 have hs : (p.toList.map fun i => is.getD i 0).Pairwise (· <= ·) := by
  rw [List.pairwise_map, List.pairwise_iff_getElem]
  intro i j hi hj hij
  have si : i < p.size := by simpa using hi
  have sj : j < p.size := by simpa using hj
  have := u i j hij (by rw [<- P.size]; exact sj)
  unfold kk at this
  rw [aH5 si, aH5 sj] at this
  exact Int.le_of_lt this
 unfold bD3
 rw [<- aI3 hp hs, List.filterMap_map]
 have : ∀ l : List Nat, (∀ i ∈ l, i < is.length) -> l.filterMap ((fun i => ((is.zip xs).find? fun p => p.1 == i).map (·.2)) ∘ fun i => is.getD i 0) = l.map fun i => xs.getD i .none := by
  intro l
  induction l with
  | nil => intro _; rfl
  | cons a l ih =>
   intro h
   have fz := bX7 e nd (h a (.head _))
   rw [List.filterMap_cons, show ((fun i => ((is.zip xs).find? fun p => p.1 == i).map (·.2)) ∘ fun i => is.getD i 0) a = some (xs.getD a .none) from fz, ih fun i q => h i (.tail _ q)]; rfl
 exact this _ hm
theorem bG3 {xs : List V} {us : List Value} (hk : VRs W s.heap io xs us) : ∀ l : List Nat, (∀ i ∈ l, i < xs.length) -> VRs W s.heap io (l.map fun i => xs.getD i .none) (l.map fun i => us.getD i .none)
 | [], _ => .nil
 | a :: l, h => by
  have ha := h a (.head _)
  obtain ⟨u, e, k⟩ := hk.get (List.getElem?_eq_getElem ha)
  refine .cons ?_ (bG3 hk l fun i q => h i (.tail _ q))
  show VR W s.heap io (xs.getD a V.none) (us.getD a Value.none)
  rw [List.getD_eq_getElem?_getD, List.getD_eq_getElem?_getD, List.getElem?_eq_getElem ha, e]; exact k
theorem bD2 (H : HR W s.heap io m) {k a d : Nat} {xs : List V} (hi : io[k]? = some (a, d)) (hm : m[k]? = some (.list xs)) : Si W [] A fs (VP W) (call (.builtin "sorted") [.ref a]) s io m (aK6 xs m) := by
 unfold aK6
 cases hp : aR8 xs with
 | none => exact .bad
 | some is =>
  show Si W [] A fs (VP W) _ s io m (if is.length < 64 /\ is.Nodup then _ else _)
  by_cases hc : is.length < 64 /\ is.Nodup
  ·rw [if_pos hc]
   obtain ⟨y_, ws, c, h1, h2, h3⟩ := H.obj _ _ _ hi hm
   obtain ⟨e, ht⟩ := bU8 h2 hp
   have el : ws.toList.length = xs.length := h2.length
   refine fun y_ => aQ8 (vs := ws.toList) ⟨_, h1, rfl, c, by simp⟩ ht (fun i j q1 q2 => bX4 hc.2 (by rw [e, <- el]; exact q1) (by rw [e, <- el]; exact q2)) (by rw [el, <- e]; exact hc.1) fun p P u => ?_
   rw [el] at P u
   obtain ⟨ce, hat⟩ := sortedAll_at s.heap ws.toList (List.toArray (p.toList.map fun i => ws.toList.getD i .none))
   have hm : ∀ i ∈ p.toList, i < xs.length := fun i hi => by simpa using (Array.Perm.mem_iff P).mp (Array.mem_toList_iff.mp hi)
   rw [bU0 e hc.2 P u]
   refine aR9 (tk := s.toks) H (fun b o e => sortedAll_old e) hat (bG3 h2 _ hm) (by rw [List.length_map, Array.length_toList, P.size]; exact h3) ?_
   cases q : s.heap.get? (s.heap.objs.size + 1) with
   | none => rfl
   | some o => exact absurd (Heap.lt_size q) (Nat.not_lt.mpr (Nat.le_succ _))
  ·rw [if_neg hc]; exact .bad
theorem bZ3 {Pr : Bi -> List V -> Prop} (l1 : ∀ s, Pr .len [.str s]) (l2 : ∀ xs, Pr .len [.tup xs]) (l3 : ∀ ns, Pr .len [.scr ns]) (l4 : ∀ n, Pr .len [.ref n]) (a1 : ∀ i, Pr .abs [.int i]) (i1 : ∀ c, Pr .int [.bool c]) (i2 : ∀ s, Pr .int [.str s]) (s1 : ∀ i, Pr .str [.int i]) (t1 : ∀ xs, Pr .list [.tup xs]) (t2 : ∀ n, Pr .list [.ref n])
  (o1 : ∀ n, Pr .sorted [.ref n]) (u1 : ∀ n, Pr .tuple [.ref n]) (d1 : ∀ n, Pr .dict [.ref n]) (x1 : ∀ i j, Pr .max2 [.int i, .int j]) (x2 : ∀ i j, Pr .min2 [.int i, .int j]) (bad : ∀ b vs, cP8 b = false \/ biV b vs = (fun y_ => .bad) -> Pr b vs) (b : Bi) (vs : List V) : Pr b vs := by
 cases hb : cP8 b with
 | false => exact bad b vs (.inl hb)
 | true =>
  cases vs with
  | nil => exact bad b [] (.inr (by cases b <;> rfl))
  | cons v vs =>
   cases vs with
   | nil =>
    cases b <;> first | (cases hb; done) | skip
    all_goals cases v <;> first | (exact l1 _) | (exact l2 _) | (exact l3 _) | (exact l4 _) | (exact a1 _) | (exact i1 _) | (exact i2 _) | (exact s1 _) | (exact t1 _) | (exact t2 _) | (exact o1 _) | (exact u1 _) | (exact d1 _) | (exact bad _ _ (.inr rfl))
   | cons v' vs =>
    cases vs with
    | nil =>
     cases b <;> first | (exact bad _ _ (.inr rfl)) | skip
     all_goals cases v <;> first | (exact bad _ _ (.inr rfl)) | skip
     all_goals cases v' <;> first | (exact x1 _ _) | (exact x2 _ _) | (exact bad _ _ (.inr rfl))
    | cons v'' vs => exact bad _ _ (.inr (by cases b <;> first | rfl | (cases v <;> first | rfl | (cases v' <;> rfl))))
set_option tactic.hygienic true in
theorem cZ1 (ok : WOk W) (hh : A.handled = none) {b : Bi} (hb : cP8 b = true) : SiF W A fs (cZ2 b) (biV b) := by
 intro s io m vs us H G hu
 revert us
 revert hb
 refine bZ3 (Pr := fun b vs => cP8 b = true -> ∀ us, VRs W s.heap io vs us -> Si W [] A fs (VP W) (call (cZ2 b) us) s io m (biV b vs m)) ?_ ?_ ?_ ?_ ?_ ?_ ?_ ?_ ?_ ?_ ?_ ?_ ?_ ?_ ?_ ?_ b vs
 ·intro x hb us hu
  refine VRs.d1 hu fun y_ k1 => ?_; refine VR.dStr k1 fun t hx => ?_
  show Si W [] A fs (VP W) _ s io m (if x.length <= lid then .ok (.int x.length) m else .bad)
  split
  ·rename_i hl
   exact fun y_ => P.len_str (by have := aA7 hl; omega) (a9 H (.int _ _))
  ·exact .bad
 ·intro xs hb us hu
  refine VRs.d1 hu fun y_ k1 => ?_; refine VR.dTup k1 fun a ws c ha hx => ?_
  show Si W [] A fs (VP W) _ s io m (if xs.length <= lid then .ok (.int xs.length) m else .bad)
  split
  ·rename_i hl
   have e : ws.size = xs.length := hx.size
   have := PyProof.Rows.len_tuple (prog := W.prog) (w := W.w) (A := A) (E := XP W [] fs s io m (.ok (.int xs.length) m : Res V)) (s := s) (Q := NP W [] (frs fs) s io m (VP W) (.ok (.int xs.length) m)) ⟨_, ha, rfl, c, rfl⟩ (by rw [e]; exact aA7 hl) (by rw [e]; exact a9 H (.int _ _))
   exact fun y_ => this
  ·exact .bad
 ·intro ns hb us hu
  refine VRs.d1 hu fun y_ k1 => ?_; refine VR.dScr k1 fun l o ws c hl hc hd hi hn => ?_
  have e : ws.size = ns.length := by simpa using hi.length
  refine fun y_ => Calls.call_len_list ⟨o, H.keep _ _ hl, hc, c, hd⟩ (by rw [e]; exact aA7 hn) ?_
  rw [e]; exact a9 H (.int _ _)
 ·intro k hb us hu
  refine VRs.d1 hu fun y_ k1 => ?_; refine VR.dRef k1 fun a d hi => ?_
  show Si W [] A fs (VP W) _ s io m (match m[k]? with | some (.list xs) => .ok (.int xs.length) m | _ => .bad)
  split
  ·rename_i xs hm
   refine hide fun G_ g_ => ?_
   obtain ⟨y_, ws, c, h1, h2, h3⟩ := H.obj _ _ _ hi hm
   refine g_ ?_
   clear g_ G_
   have e : ws.size = xs.length := h2.size
   refine fun y_ => Calls.call_len_list ⟨_, h1, rfl, c, rfl⟩ (by rw [e]; exact aA7 h3) ?_
   rw [e]; exact a9 H (.int _ _)
  ·exact .bad
 ·intro i hb us hu
  refine VRs.d1 hu fun y_ k1 => ?_; cases k1
  exact fun y_ => PyProof.Rows.call_abs_int fun u tk => a9 H (.int _ _)
 ·intro c hb us hu
  refine VRs.d1 hu fun y_ k1 => ?_; cases k1
  exact fun y_ => call_int_bool (a9 H (.int _ _))
 ·intro x hb us hu
  refine VRs.d1 hu fun y_ k1 => ?_; refine VR.dStr k1 fun t hx => ?_
  show Si W [] A fs (VP W) _ s io m (if (x.cps.toList.all cL5 && (!x.cps.toList.isEmpty && decide (x.length <= 600))) = true then .ok (.int (digV x.cps.toList)) m else .bad)
  split
  ·rename_i hc
   obtain ⟨h1, h2⟩ := Bool.and_eq_true_iff.mp hc
   obtain ⟨h3, h4⟩ := Bool.and_eq_true_iff.mp h2
   exact fun y_ => bX0 h1 (by simpa using h3) (of_decide_eq_true h4) (a9 H (.int _ _))
  ·exact .bad
 ·intro i hb; cases hb
 ·intro xs hb us hu; exact .bad
 ·intro k hb us hu
  refine VRs.d1 hu fun y_ k1 => ?_; refine VR.dRef k1 fun a d hi => ?_
  show Si W [] A fs (VP W) _ s io m (match m[k]? with | some (.list xs) => alloc (.list xs) m | some (.dict kvs _) => (match bX kvs with | some is => alloc (.list (is.map .int)) m | Option.none => .bad) | _ => .bad)
  split
  ·rename_i xs hm
   refine hide fun G_ g_ => ?_
   obtain ⟨y_, ws, c, h1, h2, h3⟩ := H.obj _ _ _ hi hm
   refine g_ ?_
   clear g_ G_
   refine fun y_ => call_list_seq a (.inl rfl) h1 rfl rfl (fun h' c' hk hD => ?_) (by rw [h2.size]; exact aM h3)
   exact aR9 (tk := s.toks) H hk hD h2 h3 (aP _)
  ·rename_i kvs e hm
   split
   ·rename_i is hk
    refine hide fun G_ g_ => ?_
    obtain ⟨l, ep, q1, q2, q3, q4⟩ := int_dict H hi hm hk
    refine g_ ?_
    clear g_ G_
    have e : l.length = kvs.length := by rw [<- q3, <- q2]; simp
    refine fun y_ => kdl_call (kdl_dict (H.notSys ok ⟨_, List.mem_of_getElem? hi, .inl rfl⟩)) hh q1 (by rw [e]; exact aM q4) fun h' tk acc c' hk' hD hacc => ?_
    have ia := bB2 hacc
    rw [q2] at ia
    exact aR9 (tk := tk) H hk' hD (aM7 ia) (by simp [q3, q4]) (aP _)
   ·exact .bad
  ·exact .bad
 ·intro k hb us hu
  refine VRs.d1 hu fun y_ k1 => ?_; refine VR.dRef k1 fun a d hi => ?_
  show Si W [] A fs (VP W) _ s io m (match m[k]? with | some (.list xs) => (match aD2 xs with | some is => if is.length < 64 then alloc (.list ((sortI is).map .int)) m else .bad | Option.none => aK6 xs m) | some (.dict kvs _) => (match bX kvs with | some is => if is.length < 64 then alloc (.list ((sortI is).map .int)) m else .bad | Option.none => .bad) | _ => .bad)
  split
  ·rename_i xs hm
   split
   ·rename_i is hk
    split
    ·rename_i h64
     refine hide fun G_ g_ => ?_
     obtain ⟨y_, ws, c, h1, h2, h3⟩ := H.obj _ _ _ hi hm
     refine g_ ?_
     clear g_ G_
     obtain ⟨ia, il⟩ := cL7 (s := s) hk h2
     refine fun y_ => sorted_ints (vs := ws.toList) (ns := is) ⟨_, h1, rfl, c, by simp⟩ ia (by rw [h2.length, <- il]; exact h64) fun out ns' a1 a2 a3 => ?_
     rw [aI3 a2 a3] at a1
     obtain ⟨ce, hat⟩ := sortedAll_at s.heap ws.toList out
     refine aR9 (tk := s.toks) H (fun b o e => sortedAll_old e) hat (aM7 a1) (by simp [(dO is).length_eq]; have : lid = 4194304 := rfl; omega) ?_
     cases q : s.heap.get? (s.heap.objs.size + 1) with
     | none => rfl
     | some o => exact absurd (Heap.lt_size q) (Nat.not_lt.mpr (Nat.le_succ _))
    ·exact .bad
   ·exact bD2 H hi hm
  ·rename_i kvs e hm
   split
   ·rename_i is hk
    split
    ·rename_i h64
     refine hide fun G_ g_ => ?_
     obtain ⟨l, ep, q1, q2, q3, q4⟩ := int_dict H hi hm hk
     refine g_ ?_
     clear g_ G_
     have e : l.length = kvs.length := by rw [<- q3, <- q2]; simp
     intro y_
     refine Calls.call_function_entry kind_sorted plain_sorted entry_sorted (args_sorted1 _) ?_
     unfold Builtin.«sorted»
     refine wpAny_bind (m := checkCount "sorted" 1 1 _) (wpAny_pure ?_)
     refine wpAny_bind (kdu_collect (A := A.in1) (kdl_dict (H.notSys ok ⟨_, List.mem_of_getElem? hi, .inl rfl⟩)) hh q1 (by rw [e]; exact aM q4) fun h' tk acc hk' hacc => ?_)
     have ia := bB2 hacc
     rw [q2] at ia
     have hl : acc.toList.length < 64 := by
      have : acc.size = l.length := hacc.1
      simp only [Array.length_toList]; omega
     refine wpAny_bind (wpAny_newList ?_ (by have : sizeLine = 16777216 := sizeLine_eq; omega))
     have hoL : (h'.push (seqObj "list" acc.toList.toArray 0)).get? h'.objs.size = some (seqObj "list" acc.toList.toArray 0) := Heap.get?_push_size _ rfl
     refine wpAny_bind (wpAny_holding (wpAny_call_entry slot_list_sort ⟨_, hoL, rfl⟩ entry_list_sort (list_sort_tree hoL ia hl fun out ns' a1 a2 a3 => ⟨_, rfl, ?_⟩) (args_list_sort _)))
     refine wpAny_pure ⟨_, rfl, ?_⟩
     rw [aI3 a2 a3] at a1
     obtain ⟨ce, hat⟩ := sortedHeap_at (out := out) hoL
     have dead : s.heap.get? h'.objs.size = none := by
      cases q : s.heap.get? h'.objs.size with
      | none => rfl
      | some o => have := hk' _ _ q; rw [aP] at this; cases this
     refine aR9 (tk := tk) H (fun b o e => ?_) hat (aM7 a1) (by simp [(dO is).length_eq]; have : lid = 4194304 := rfl; omega) dead
     have e1 := aN (seqObj "list" acc.toList.toArray 0) b o (hk' b o e)
     rw [sortedHeap_old (Nat.ne_of_lt (Heap.lt_size (hk' b o e))) (Heap.lt_size e1)]
     exact e1
    ·exact .bad
   ·exact .bad
  ·exact .bad
 ·intro i hb; cases hb
 ·intro k hb us hu
  refine VRs.d1 hu fun y_ k1 => ?_; refine VR.dRef k1 fun a d hi => ?_
  show Si W [] A fs (VP W) _ s io m (match m[k]? with | some (.dict kvs _) => (if aB3 kvs = true then alloc (.dict kvs 0) m else .bad) | _ => .bad)
  cases hm : m[k]? with
  | none => exact .bad
  | some o =>
   cases o with
   | dict kvs e =>
    show Si W [] A fs (VP W) _ s io m (if aB3 kvs = true then alloc (.dict kvs 0) m else .bad)
    by_cases hk : aB3 kvs = true
    ·rw [if_pos hk]; exact bP6 ok H hi hm hk
    ·rw [if_neg hk]; exact .bad
   | _ => exact .bad
 ·intro i j hb; cases hb
 ·intro i j hb; cases hb
 ·intro b vs hq hb us hu
  rcases hq with hq | hq
  ·rw [hq] at hb; cases hb
  ·rw [hq]; exact .bad
end
end Mini
namespace Mini
open PySem PySem.W PyProof.Rows
section
variable {W : Wd} {fs : List Env} {s : Shared} {io : Io} {m : MH} {A : Around}
end
end Mini
namespace Mini
open PySem PySem.W PyProof.Rows
noncomputable def bJ5 : Nat -> String
 | 0 => "list"
 | 1 => "dict"
 | _ => "str"
noncomputable def bJ6 : Sm -> String
 | .append => "append"
 | .pop => "pop"
 | .clear => "clear"
 | .get => "get"
 | .join => "join"
 | .split => "split"
 | .count => "count"
 | .index => "index"
noncomputable def smId (k : Nat) (n : Sm) : String := match k, n with
 | 0, .append => "list.append"
 | 0, .pop => "list.pop"
 | 0, .count => "list.count"
 | 0, .index => "list.index"
 | 1, .pop => "dict.pop"
 | 2, .split => "str.split"
 | 0, .clear => "list.clear"
 | 1, .clear => "dict.clear"
 | _, _ => "str.join"
section
variable {W : Wd} {K : Frag} {h h' h₀ : Heap} {fs : List Env} {env : Env} {vis : List (Option Str)} {s s' s₀ : Shared} {io io' io₀ : Io} {m m' m₀ : MH} {r r' : Lo} {fr fr' own own' : List Addr} {A : Around} {n : Nat} {pos p : Pos}
theorem eX {α β : Type} {P : Heap -> Io -> β -> α -> Prop} (H : HR W s.heap io m) {i : Nat} {p : Addr × Addr} {xs xs' : List V} (hi : io[i]? = some p) (hm : m[i]? = some (.list xs)) {h' : Heap} {tk : Nat} (hs : Heap.SameBut p.1 s.heap h') {us' : Array Value} {c' : Nat} (h1 : h'.get? p.1 = some (e7 us' c')) (h2 : VRs W s.heap io xs' us'.toList) (h3 : xs'.length <= lid) {v : β} {u : α}
  (hP : ∀ st : Step own fr s.heap io m h' io (m.set i (.list xs')), P h' io v u) : NP W own fr s io m P (.ok v (m.set i (.list xs'))) u { s with heap := h', toks := tk } := by
 obtain ⟨hpp, y_⟩ := H.obj _ _ _ hi hm
 have hk : ∀ b o, b ≠ p.1 -> b ≠ p.2 -> s.heap.get? b = some o -> h'.get? b = some o := fun b o q y_ ho => cI hs b o q ho
 have hd : ∀ kv ep, MObj.list xs = .dict kv ep -> ∃ kvs2 e2, MObj.list xs' = .dict kvs2 e2 /\ ep < e2 := fun kv ep q => by cases q
 have st : Step own fr s.heap io m h' io (m.set i (.list xs')) := aE4 H hi hm hk ⟨_, h1⟩ ⟨_, hpp ▸ h1⟩ hd
 exact ⟨v, _, io, rfl, st, H.set hi hm hk hd ⟨_, h1⟩ ⟨_, hpp ▸ h1⟩ ⟨hpp, us', c', h1, h2.step st, h3⟩, hP st, rfl, rfl⟩
set_option tactic.hygienic true in
theorem bT5 {xs : List V} {l : List Str} {us : List Value} (h : d7 xs = some l) (k : VRs W s.heap io xs us) : ∃ ts : List (Str × Tok), us = strValues ts /\ ts.map (·.1) = l /\ ∀ x ∈ l, PyData.strOk x = true := by
 induction xs generalizing l us with
 | nil => cases k; cases h; exact ⟨[], rfl, rfl, fun y_ q => nomatch q⟩
 | cons x xs ih =>
  refine VRs.dCons k fun y_ y_ k1 k2 => ?_
  ·
   induction k1 using VR.elim <;> simp only [d7] at h <;> first | cases h | skip
   rename_i y t hy
   cases q : d7 xs with
   | none => rw [q] at h; cases h
   | some js =>
    rw [q] at h
    simp only [Option.map_some, Option.some.injEq] at h
    subst h
    refine hide fun G_ g_ => ?_
    obtain ⟨ts, a, b, c⟩ := ih q k2
    refine g_ ?_
    clear g_ G_
    refine ⟨(y, t) :: ts, by rw [a]; rfl, by simp [b], fun z hz => ?_⟩
    rcases List.mem_cons.mp hz with rfl | hz
    ·exact hy
    ·exact c z hz
theorem bX2 (sep : Str) (l : List Str) : Txt.join sep l = aJ4 sep l := by
 show (⟨(l.drop 1).foldl (fun acc p => acc ++ sep.cps ++ p.cps) (l.headD Str.empty).cps⟩ : Str) = aJ4 sep l
 cases l with
 | nil => rfl
 | cons x r =>
  show (⟨r.foldl (fun acc p => acc ++ sep.cps ++ p.cps) x.cps⟩ : Str) = r.foldl (fun acc p => acc ++ sep ++ p) x
  induction r generalizing x with
  | nil => rfl
  | cons y r ih => exact ih (x ++ sep ++ y)
theorem bW5 {sep : Str} {l : List Str} (hs : PyData.strOk sep = true) (hl : ∀ x ∈ l, PyData.strOk x = true) : PyData.strOk (aJ4 sep l) = true := by
 cases l with
 | nil => show PyData.strOk Str.empty = true; simp [PyData.strOk, Str.empty]
 | cons x r =>
  have key : ∀ (r : List Str) (x : Str), PyData.strOk x = true -> (∀ y ∈ r, PyData.strOk y = true) -> PyData.strOk (r.foldl (fun acc p => acc ++ sep ++ p) x) = true := by
   intro r
   induction r with
   | nil => intro x hx _; exact hx
   | cons y r ih => intro x hx hr; exact ih _ (eC (eC hx hs) (hr y (.head _))) fun z hz => hr z (.tail _ hz)
  exact key r x (hl x (.head _)) fun y hy => hl y (.tail _ hy)
theorem cB2 {k : Nat} {sm : Sm} (h : smH k sm = true) : (k = 0 /\ sm = .append) \/ (k = 2 /\ sm = .join) \/ (k = 0 /\ sm = .clear) \/ (k = 1 /\ sm = .clear) := by
 unfold smH at h
 split at h <;> first | (exact .inl ⟨rfl, rfl⟩) | (exact .inr (.inl ⟨rfl, rfl⟩)) | (exact .inr (.inr (.inl ⟨rfl, rfl⟩))) | (exact .inr (.inr (.inr ⟨rfl, rfl⟩))) | cases h
theorem Si.res0 {α β : Type} {P : Heap -> Io -> α -> β -> Prop} {t : Sem β} {R R' : Res α} (x : Si W own A fs P t s io m R) (e : R' = R) : Si W own A fs P t s io m R' := e ▸ x
theorem cS3 {q : Nat} {n : Sm} {vs : List V} {o : Option MObj} (hm : m[q]? = o) : cW 0 (.ref q) n vs m = (match (generalizing := false) o with | some (.list xs) => bM6 q xs n vs m | _ => .bad) := by subst hm; rfl
theorem bJ4 {o : V} {n : Sm} {vs : List V} {u : Value} {t : Sem Value} (kx : VR W s.heap io o u) (h : ∀ (q : Nat) (a d : Addr) (xs : List V), o = .ref q -> u = .ref a -> io[q]? = some (a, d) -> m[q]? = some (.list xs) -> Si W [] A fs (VP W) t s io m (bM6 q xs n vs m)) : Si W [] A fs (VP W) t s io m (cW 0 o n vs m) := by
 induction kx using VR.elim with
 | @ref q a d hi =>
  cases hm : m[q]? with
  | none => rw [cS3 hm]; exact .bad
  | some o =>
   rw [cS3 hm]
   cases o with
   | list xs => exact h q a d xs rfl rfl hi hm
   | _ => exact .bad
 | _ => exact .bad
set_option tactic.hygienic true in
theorem cS2 {k : Nat} {sm : Sm} (hH : smH k sm = true) (H : HR W s.heap io m) {x : V} {u : Value} {vs : List V} {us : List Value} (kx : VR W s.heap io x u) (hu : VRs W s.heap io vs us) :
  Si W [] A fs (VP W) (call (.builtin (smId k sm)) (u :: us)) s io m (cW k x sm vs m) := by
 rcases cB2 hH with ⟨rfl, rfl⟩ | ⟨rfl, rfl⟩ | ⟨rfl, rfl⟩ | ⟨rfl, rfl⟩
 ·refine bJ4 kx fun q a d xs ho hu' hi hm => ?_
  subst ho; subst hu'
  obtain ⟨y_, ws, c, h1, h2, h3⟩ := H.obj _ _ _ hi hm
  induction hu using VRs.elim with
  | nil => exact .bad
  | cons k1 k2 =>
   induction k2 using VRs.elim with
   | cons y_ y_ => exact .bad
   | nil =>
    show Si W [] A fs (VP W) _ s io m (if xs.length < lid then _ else _)
    split
    ·rename_i hl
     refine fun y_ => wpAny_list_append_plain ⟨c, h1⟩ (fun h' ⟨c', hD⟩ hs => ?_) (by rw [h2.size]; exact aM h3)
     exact eX (tk := s.toks) H hi hm hs hD (by rw [Array.toList_push]; exact h2.snoc k1) (by simp; omega) fun y_ => .none
    ·exact .bad
 ·induction kx using VR.elim with
  | str z tz hz =>
   induction hu using VRs.elim with
   | nil => exact .bad
   | cons k1 k2 =>
    induction k2 using VRs.elim with
    | cons y_ y_ => exact .bad
    | nil =>
     induction k1 using VR.elim with
     | @ref q a d hi =>
      show Si W [] A fs (VP W) _ s io m (match m[q]? with | some (.list xs) => (match d7 xs with | some l => if fH z l <= lid then .ok (.str (aJ4 z l)) m else .bad | Option.none => .bad) | _ => .bad)
      cases hm : m[q]? with
      | none => exact .bad
      | some o =>
       cases o with
       | list xs =>
        cases hl : d7 xs with
        | none => show Si W [] A fs (VP W) _ s io m (match d7 xs with | some l => if fH z l <= lid then .ok (.str (aJ4 z l)) m else .bad | Option.none => .bad); rw [hl]; exact .bad
        | some l =>
         show Si W [] A fs (VP W) _ s io m (match d7 xs with | some l => if fH z l <= lid then .ok (.str (aJ4 z l)) m else .bad | Option.none => .bad)
         rw [hl]
         show Si W [] A fs (VP W) _ s io m (if fH z l <= lid then .ok (.str (aJ4 z l)) m else .bad)
         by_cases hlen : fH z l <= lid
         ·rw [if_pos hlen]
          obtain ⟨y_, ws, c, h1, h2, h3⟩ := H.obj _ _ _ hi hm
          obtain ⟨ts, e1, e2, e3⟩ := bT5 (s := s) hl h2
          have htl : Builtin.Str.tooLong ((ts.map (·.1)).toArray.foldl (· + ·.length + z.length) 0) = false := by
           rw [e2]
           have : sizeLine = 16777216 := sizeLine_eq
           have q : (l.toArray.foldl (· + ·.length + z.length) 0) = fH z l := by simp [fH]
           rw [q]
           unfold Builtin.Str.tooLong
           have : lid = 4194304 := rfl
           simp; omega
          refine fun y_ => call_meets PySem.F.slot_str_join (typeIs_str _ _ _) PySem.F.entry_str_join (PySem.F.args_str_join_2 _ _) (meets_str_join_list z tz a ts htl) ⟨⟨_, h1, rfl, c, ?_⟩, post_join ts ⟨joinFit_length htl, fun t' k' => ?_⟩⟩
          ·show Data.seq ws c = _
           rw [<- e1, Array.toArray_toList]
          ·rw [e2, bX2]
           exact a9 H (.str _ _ (bW5 hz e3))
         ·rw [if_neg hlen]; exact .bad
       | _ => exact .bad
     | _ => exact .bad
  | _ => exact .bad
 ·refine bJ4 kx fun q a d xs ho hu' hi hm => ?_
  subst ho; subst hu'
  induction hu using VRs.elim with
  | cons y_ y_ => exact .bad
  | nil =>
   obtain ⟨y_, ws, c, h1, h2, h3⟩ := H.obj _ _ _ hi hm
   refine fun y_ => call_meets PySem.F.slot_list_clear ⟨_, h1, rfl⟩ PySem.F.entry_list_clear (PySem.F.args_list_clear_1 _) (PySem.AutoSeq1.list_clear_list_0 a ws c (by rw [h2.size]; exact aM h3)) ⟨h1, ?_⟩
   exact eX (tk := s.toks) H hi hm (Heap.SameBut.update ..) (PySem.IsL.update h1 (fun y_ => #[])) .nil (Nat.zero_le _) fun y_ => .none
 ·induction kx using VR.elim with
  | @ref q a d hi =>
   cases hm : m[q]? with
   | none => exact Si.res0 .bad (by show (match m[q]? with | some (.dict kvs e) => bE7 q kvs e .clear vs m | _ => .bad) = _; rw [hm])
   | some o =>
    cases o with
    | dict kvs e =>
     refine Si.res0 (R := bE7 q kvs e .clear vs m) ?_ (by show (match m[q]? with | some (.dict kvs e) => bE7 q kvs e .clear vs m | _ => .bad) = _; rw [hm])
     induction hu using VRs.elim with
     | cons y_ y_ => exact .bad
     | nil =>
      by_cases hk : aB3 kvs = true
      ·exact Si.res0 (bF2 H hi hm hk) (if_pos hk)
      ·exact Si.res0 .bad (if_neg hk)
    | _ => exact Si.res0 .bad (by show (match m[q]? with | some (.dict kvs e) => bE7 q kvs e .clear vs m | _ => .bad) = _; rw [hm])
  | _ => exact .bad
end
end Mini
namespace Mini
open PySem PySem.W PyProof.Rows
noncomputable def eK : Expr -> Bool
 | .Call (.Name _ _) [] [] _ => false
 | _ => true
section
variable {W : Wd} {K : Frag} {h h' h₀ : Heap} {fs : List Env} {env : Env} {vis : List (Option Str)} {s s' s₀ : Shared} {io io' io₀ : Io} {m m' m₀ : MH} {r r' : Lo} {fr fr' own own' : List Addr} {A : Around} {n : Nat} {pos p apos : Pos}
set_option tactic.hygienic true in
theorem aY8 {o : Expr} {name : Str} (h : eK o = true) : attributeBase o name env (eval o env) = eval o env := by
 cases o <;> first | rfl | skip
 rename_i f es kws pos
 cases f <;> first | rfl | skip
 cases es <;> first | rfl | skip
 cases kws <;> first | rfl | (exact aD9 h)
theorem aR5 {es : List Expr} (h : aV es = true) : (backTo pos (starEach es env)).all (fun x => !x.1) = true := by
 induction es with
 | nil => rfl
 | cons e rest ih => rw [eE h]; exact ih (fR h)
theorem cH5 (k : Nat) (sm : Sm) (h : smH k sm = true) : PlainAttrs (bJ5 k) /\ Slot (bJ5 k) (Str.ofString (bJ6 sm)) (smId k sm) /\ typeOf (.builtin (smId k sm)) = Pure.pure (.type "method_descriptor") := by
 rcases cB2 h with ⟨rfl, rfl⟩ | ⟨rfl, rfl⟩ | ⟨rfl, rfl⟩ | ⟨rfl, rfl⟩
 ·exact ⟨PySem.F.plainAttrs_list, slot_list_append, type_list_append⟩
 ·exact ⟨PySem.F.plainAttrs_str, PySem.F.slot_str_join, PySem.F.type_str_join⟩
 ·exact ⟨PySem.F.plainAttrs_list, PySem.F.slot_list_clear, PySem.F.type_list_clear⟩
 ·exact ⟨PySem.F.plainAttrs_dict, PySem.F.slot_dict_clear, PySem.F.type_dict_clear⟩
theorem Si.res {α β : Type} {P : Heap -> Io -> α -> β -> Prop} {t : Sem β} {R R' : Res α} (x : Si W own A fs P t s io m R) (e : R' = R) : Si W own A fs P t s io m R' := e ▸ x
set_option tactic.hygienic true in
theorem cN3 {o : Expr} {es : List Expr} {sm : Sm} {co : Lo -> Mn V} {cl : Lo -> Mn (List V)} (hb : eK o = true) (hs : aV es = true) (hfew : es.length < 29) (hline : (apos.endLine == pos.line) = true) (ho : SiE W A fs env vis (eval o env) co) (hl : SiL W A fs env vis (spliced (backTo pos (starEach es env))) cl) :
  SiE W A fs env vis (eval (.Call (.Attribute o (Str.ofString (bJ6 sm)) apos) es [] pos) env) (fun r => bnd (co r) fun x => fun m => match smK x m with | some k => if smH k sm then bnd (cl r) (fun vs => cW k x sm vs) m else .bad | none => .bad) := by
 intro s io m r Z hne
 dsimp only at hne ⊢
 refine wpAny_Call_method_late (aY8 hb) ?_ hline rfl ?_
 ·rw [aR5 hs]; rw [arm_keywordEach_nil]; simp [backToKw]; omega
 refine wpAny_mono (ho s io m r Z (Res.bind_ne hne)) (fun ov s₁ q => ?_) fun y_ y_ q => q.bind .refl (.refl _)
 refine hide fun G_ g_ => ?_
 obtain ⟨x, m₁, io₁, e1, st, H₁, kx, sm₁⟩ := q
 refine g_ ?_
 clear g_ G_
 have ee : ∀ f : V -> Mn V, bnd (co r) f m = f x m₁ := fun f => by show (co r m).bind _ = _; rw [e1]; rfl
 rw [ee] at hne ⊢
 cases hk : smK x m₁ with
 | none => rw [hk] at hne; exact absurd rfl hne
 | some k =>
  rw [hk] at hne
  dsimp only at hne ⊢
  by_cases hH : smH k sm = true
  ·rw [if_pos hH] at hne ⊢
   have Z₁ := Z.step H₁ st
   have ty : s₁.TypeIs ov (bJ5 k) /\ (∀ a, ov = .ref a -> ∃ ob, s₁.heap.get? a = some ob /\ ob.dict = none) := by
    induction kx using VR.elim with
    | @ref q a d hi =>
     simp only [smK] at hk
     split at hk
     ·rename_i xs hm
      cases hk
      refine hide fun G_ g_ => ?_
      obtain ⟨y_, ws, c, h1, y_⟩ := H₁.obj _ _ _ hi hm
      refine g_ ?_
      clear g_ G_
      exact ⟨⟨_, h1, rfl⟩, fun b e => by cases e; exact ⟨_, h1, rfl⟩⟩
     ·rename_i kvs e hm
      cases hk
      refine hide fun G_ g_ => ?_
      obtain ⟨y_, o', es', c, h1, h2, y_⟩ := H₁.obj _ _ _ hi hm
      refine g_ ?_
      clear g_ G_
      exact ⟨⟨_, h1, h2.1⟩, fun b e => by cases e; exact ⟨_, h1, h2.2.1⟩⟩
     ·cases hk
    | str x t hx => cases hk; exact ⟨typeIs_str _ _ _, fun y_ e => nomatch e⟩
    | none => cases hk
    | bool b => cases hk
    | int i t => cases hk
    | fn k => cases hk
    | tup => cases hk
    | exc => cases hk
    | scr => cases hk
   have call : wpAny (model W.prog W.w) A (callWith pos (.builtin (smId k sm)) [ov] (backTo pos (starEach es env)) []) (NP W [] (frs fs) s io m (VP W) (bnd (cl r) (fun vs => cW k x sm vs) m₁)) (XP W [] fs s io m (bnd (cl r) (fun vs => cW k x sm vs) m₁)) s₁ := by
    refine Calls.callWith_builtin (dP hs) (dW hs ?_)
    refine wpAny_mono (hl s₁ io₁ m₁ r Z₁ (Res.bind_ne hne)) (fun us s₂ q => ?_) fun y_ y_ q => (q.mono st sm₁).bind .refl (.refl _)
    refine hide fun G_ g_ => ?_
    obtain ⟨vs, m₂, io₂, e2, st2, H2, kv, sm2⟩ := q
    refine g_ ?_
    clear g_ G_
    have ee2 : bnd (cl r) (fun vs => cW k x sm vs) m₁ = cW k x sm vs m₂ := by show (cl r m₁).bind _ = _; rw [e2]; rfl
    rw [ee2] at hne ⊢
    exact wpAny_mono (cS2 hH H2 (VR.step st2 kx) kv hne) (fun y_ y_ z => z.mono (st.trans st2) (sm₁.trans sm2)) fun y_ y_ z => z.mono (st.trans st2) (sm₁.trans sm2)
   refine hide fun G_ g_ => ?_
   obtain ⟨p1, p2, p3⟩ := cH5 k sm hH
   refine g_ ?_
   clear g_ G_
   exact ⟨_, _, p1, p2, p3, ty.1, ty.2, call⟩
  ·rw [if_neg hH] at hne; exact absurd rfl hne
theorem cI6 (R : AR A fs n) (H : HR W s.heap io m) {x y v : V} {u iu vu : Value} (kx : VR W s.heap io x u) (ky : VR W s.heap io y iu) (kv : VR W s.heap io v vu) : Si W own A fs (fun y_ y_ (_ _ : Unit) => True) (setItem u iu vu) s io m (bV x y v m) := by
 have bad : ∀ {R : Res Unit}, R = .bad -> Si W own A fs (fun y_ y_ (_ _ : Unit) => True) (setItem u iu vu) s io m R := fun e => e ▸ .bad
 induction kx using VR.elim with
 | @ref q a d hi =>
  cases hm : m[q]? with
  | none => exact bad (by unfold bV; dsimp only; rw [hm])
  | some o =>
   cases o with
   | inst c fls => exact bad (by unfold bV; dsimp only; rw [hm])
   | dict kvs e =>
    have ee : bV (.ref q) y v m = match eB y with | some k => if aU k kvs && kvs.length < lid then .ok () (m.set q (.dict (put k v kvs) (e + 1))) else .bad | Option.none => .bad := by unfold bV; dsimp only; rw [hm] <;> rfl
    refine Si.res ?_ ee
    cases hk : eB y with
    | none => exact .bad
    | some k =>
     dsimp only
     by_cases hc : (aU k kvs && decide (kvs.length < lid)) = true
     ·refine Si.res ?_ (if_pos hc)
      obtain ⟨h1, h2⟩ := Bool.and_eq_true_iff.mp hc
      exact bU1 H R hi hm ky kv hk h1 (of_decide_eq_true h2)
     ·exact Si.res .bad (if_neg hc)
   | list xs =>
    induction ky using VR.elim with
    | int k t =>
     have ee : bV (.ref q) (.int k) v m = if 0 <= k /\ k < xs.length then .ok () (m.set q (.list (xs.set k.toNat v))) else if k < 0 /\ 0 <= k + xs.length then .ok () (m.set q (.list (xs.set (k + xs.length).toNat v))) else .bad := by unfold bV; dsimp only; rw [hm]
     refine Si.res ?_ ee
     refine hide fun G_ g_ => ?_
     obtain ⟨hpp, ws, c, h1, h2, h3⟩ := H.obj _ _ _ hi hm
     refine g_ ?_
     clear g_ G_
     have hsz : ws.size = xs.length := h2.size
     by_cases hc : 0 <= k /\ k < xs.length
     ·refine Si.res ?_ (if_pos hc)
      refine fun y_ => aW3 h1 hc.1 (by have : xs.length <= 4194304 := h3; omega) (by omega) ?_
      have z := PySem.IsL.update h1 (fun xs => xs.setIfInBounds k.toNat vu)
      exact eX (tk := s.toks) H hi hm (Heap.SameBut.update ..) z (by rw [Array.toList_setIfInBounds]; exact h2.set _ kv) (by rw [List.length_set]; exact h3) fun y_ => trivial
     ·refine Si.res ?_ (if_neg hc)
      by_cases hd : k < 0 /\ 0 <= k + xs.length
      ·refine Si.res ?_ (if_pos hd)
       refine fun y_ => aW2 h1 hd.1 (by have : xs.length <= 4194304 := h3; omega) (by omega) ?_
       rw [hsz]
       have z := PySem.IsL.update h1 (fun xs_1 => xs_1.setIfInBounds (k + xs.length).toNat vu)
       exact eX (tk := s.toks) H hi hm (Heap.SameBut.update ..) z (by rw [Array.toList_setIfInBounds]; exact h2.set _ kv) (by rw [List.length_set]; exact h3) fun y_ => trivial
      ·exact Si.res .bad (if_neg hd)
    | _ => exact bad (by unfold bV; dsimp only; rw [hm])
 | _ => exact bad rfl
theorem a_idx {o i : Expr} {co ci : Lo -> Mn V} (R : AR A (env :: fs) n) (ho : SiE W A (env :: fs) env vis (eval o env) co) (hi : SiE W A (env :: fs) env vis (eval i env) ci) : SiA W A fs env vis (.Subscript o i pos) (fun v r => bnd (co r) fun x => bnd (ci r) fun y => bnd (bV x y v) fun y_ => ret r) := by
 intro s io m r v u Z k
 rw [arm_assign_Subscript]
 refine Si.bindE (Si.holding (ho s io m r Z.sit)) fun ov s₁ io₁ m₁ x y_ st₁ H₁ kx sm₁ => ?_
 have Z₁ := Z.step H₁ st₁
 refine Si.bindE (Si.holding (hi s₁ io₁ m₁ r Z₁.sit)) fun iv s₂ io₂ m₂ y y_ st₂ H₂ ky sm₂ => .standAt ?_
 have Z₂ := Z₁.step H₂ st₂
 refine Si.bindE (Si.holding (cI6 R H₂ (VR.step st₂ kx) ky ((VR.step st₁ k).step st₂))) fun y_ s₃ io₃ m₃ y_ y_ st₃ H₃ y_ sm₃ => ?_
 exact fun y_ => wpAny_release ⟨r, m₃, io₃, rfl, .refl, H₃, Z₂.F.step0 Z₂.H st₃, .refl _⟩
theorem cN7 : SiE W A fs env vis (eval (.Dict [] [] pos) env) (fun y_ => alloc (.dict [] 0)) := by
 intro s io m r Z
 exact fun y_ => wpAny_Dict_empty (cJ5 (tk := s.toks) Z.H)
end
end Mini
namespace Mini
open PySem PySem.W
section
variable {W : Wd} {fs : List Env} {env : Env} {vis : List (Option Str)} {A : Around} {n : Nat} {pos p p' : Pos}
end
end Mini
namespace Mini
open PySem PySem.W PyProof.Rows
section
variable {W : Wd} {K : Frag} {fs : List Env} {env : Env} {vis : List (Option Str)} {s : Shared} {io : Io} {m : MH} {r : Lo} {A : Around} {pos p : Pos}
end
end Mini
namespace Mini
open PySem PySem.W PyProof.Rows
section
variable {W : Wd} {K : Frag} {h h' h₀ : Heap} {fs : List Env} {env : Env} {vis : List (Option Str)} {s s' s₀ : Shared} {io io' io₀ : Io} {m m' m₀ : MH} {r r' : Lo} {fr fr' own own' : List Addr} {A : Around} {n : Nat} {pos p apos : Pos}
theorem bO0 {v : V} {u : Value} (k : VR W h io v u) : handedOut u = Pure.pure u := by induction k using VR.elim <;> rfl
theorem aY0 {a d : Addr} {c : Nat} {mA : Str -> Option Value} (hne : a ≠ d) (h1 : h.get? a = some (cL9 (W.ca c) d)) (h2 : h.Ns1 d mA) : h.Inst a (W.ca c) mA :=
 ⟨_, h1, rfl, (fun y_ q => by cases q), .inr ⟨d, rfl, fun q => hne q.symm, h2⟩⟩
theorem cA1 {v : V} {u : Value} {k : Nat} {x : Str} (hx : W.S.attrs[k]? = some x) (hf : ∀ (c : Nat) (D : ClsD), W.S.cls[c]? = some D -> D.meths.lookup k = none) (H : HR W s.heap io m) (kv : VR W s.heap io v u) : Si W own A fs (VP W) (getAttr u x true) s io m (aB7 v k m) := by
 intro hne
 have bad : aB7 v k m = .bad -> False := hne
 induction kv using VR.elim with
 | @ref q a d hi =>
  cases hm : m[q]? with
  | none => exact (bad (by unfold aB7; dsimp only; rw [hm])).elim
  | some o =>
   cases o with
   | list xs => exact (bad (by unfold aB7; dsimp only; rw [hm])).elim
   | dict kvs e => exact (bad (by unfold aB7; dsimp only; rw [hm])).elim
   | inst c fls =>
    have ea : aB7 (.ref q) k m = ofO (aQ0 k fls) m := by unfold aB7; dsimp only; rw [hm]
    rw [ea] at hne ⊢
    cases hg : aQ0 k fls with
    | none => rw [hg] at hne; exact absurd rfl hne
    | some w =>
     refine hide fun G_ g_ => ?_
     obtain ⟨e1, mA, h1, h2, h3, D, N, mN, C⟩ := H.obj _ _ _ hi hm
     refine g_ ?_
     clear g_ G_
     obtain ⟨x', u', ex', hu, kw⟩ := h3.2 k w hg
     rw [hx] at ex'
     cases ex'
     obtain ⟨nm, qn, bs, sn, sub, col, dd, k0, k1, k2, k3, k5, hC⟩ := C.obj
     have hna : mN x = none := by rw [C.has k x hx, hf c D C.dat]; rfl
     exact load_attr (H.keep _ _ hC) (C.ns.keeps H.keep) C.ga hna (C.low k x hx) (aY0 e1 h1 h2) hu (bO0 kw) ⟨w, m, io, rfl, .refl, H, kw, .refl _⟩
 | none => exact (bad rfl).elim
 | bool b => exact (bad rfl).elim
 | int i t => exact (bad rfl).elim
 | str y t hy => exact (bad rfl).elim
 | fn k => exact (bad rfl).elim
 | tup => exact (bad rfl).elim
 | exc => exact (bad rfl).elim
 | scr => exact (bad rfl).elim
theorem cY1 {o : Expr} {x : Str} {k : Nat} {ca : Lo -> Mn V} (hb : eK o = true) (hx : W.S.attrs[k]? = some x) (hf : ∀ (c : Nat) (D : ClsD), W.S.cls[c]? = some D -> D.meths.lookup k = none) (ho : SiE W A fs env vis (eval o env) ca) :
  SiE W A fs env vis (eval (.Attribute o x apos) env) (fun r => bnd (ca r) fun v => aB7 v k) := by
 intro s io m r Z
 refine Si.res (R := (ca r m).bind fun v => aB7 v k) ?_ rfl
 intro hne
 refine Attribute_any_ ?_ (by rw [arm_eval_Attribute, aY8 hb])
 refine wpAny_mono (ho s io m r Z (Res.bind_ne hne)) (fun u s₁ q => ?_) fun y_ y_ q => q.bind .refl (.refl _)
 obtain ⟨v, m₁, io₁, e1, st, H₁, kv, sm⟩ := q
 have ee : (ca r m).bind (fun v => aB7 v k) = aB7 v k m₁ := by rw [e1]; rfl
 rw [ee] at hne ⊢
 exact wpAny_mono (cA1 (own := []) (fs := fs) hx hf H₁ kv hne) (fun y_ y_ z => z.mono st sm) fun y_ y_ z => z.mono st sm
theorem aF1 {k j : Nat} {v : V} : ∀ {fls : List (Nat × V)}, aQ0 j (d8 k v fls) = if j = k then some v else aQ0 j fls
 | [] => by
  show (if k = j then some v else none) = _
  by_cases q : j = k
  ·rw [if_pos q, if_pos q.symm]
  ·rw [if_neg q, if_neg (fun z => q z.symm)]; rfl
 | (i, w) :: fls => by
  show aQ0 j (if i = k then (i, v) :: fls else (i, w) :: d8 k v fls) = _
  by_cases z : i = k
  ·rw [if_pos z]
   subst z
   show (if i = j then some v else aQ0 j fls) = if j = i then some v else if i = j then some w else aQ0 j fls
   by_cases q : j = i
   ·rw [if_pos q, if_pos q.symm]
   ·rw [if_neg q, if_neg (fun z => q z.symm), if_neg (fun z => q z.symm)]
  ·rw [if_neg z]
   show (if i = j then some w else aQ0 j (d8 k v fls)) = if j = k then some v else if i = j then some w else aQ0 j fls
   rw [aF1]
   by_cases q : i = j
   ·rw [if_pos q, if_neg (fun e => z (q.trans e)), if_pos q]
   ·rw [if_neg q, if_neg q]
theorem FEs.put {fls : List (Nat × V)} {mA : Str -> Option Value} {k : Nat} {x : Str} {v : V} {u : Value} (e : FEs W h io fls mA) (hx : W.S.attrs[k]? = some x) (hu : ∀ (i j : Nat) (x : Str), W.S.attrs[i]? = some x -> W.S.attrs[j]? = some x -> i = j) (kv : VR W h io v u) :
  FEs W h io (d8 k v fls) (fun y => if y = x then some u else mA y) := by
 constructor
 ·intro y w q
  by_cases z : y = x
  ·subst z
   have q' : some u = some w := by rw [<- q]; exact (if_pos rfl).symm
   cases q'
   exact ⟨k, v, hx, by rw [aF1, if_pos rfl], kv⟩
  ·have q' : mA y = some w := by rw [<- q]; exact (if_neg z).symm
   obtain ⟨i, w', a, b, c⟩ := e.1 y w q'
   refine ⟨i, w', a, ?_, c⟩
   rw [aF1, if_neg (fun ik => ?_)]
   ·exact b
   ·subst ik; rw [hx] at a; cases a; exact z rfl
 ·intro i w q
  rw [aF1] at q
  by_cases z : i = k
  ·rw [if_pos z] at q
   cases q
   subst z
   exact ⟨x, u, hx, if_pos rfl, kv⟩
  ·rw [if_neg z] at q
   obtain ⟨y, w', a, b, c⟩ := e.2 i w q
   refine ⟨y, w', a, ?_, c⟩
   show (if y = x then some u else mA y) = some w'
   rw [if_neg (fun yx => ?_)]
   ·exact b
   ·subst yx; exact z (hu i k y a hx)
theorem bG0 {fls : List (Nat × V)} {mA : Str -> Option Value} (e : FEs W h io fls mA) : Within mA W.S.attrs := by
 intro y hy
 cases q : mA y with
 | none => exact absurd q hy
 | some u =>
  obtain ⟨i, v, a, y_⟩ := e.1 y u q
  exact List.mem_of_getElem? a
theorem aW1 {v y : V} {u w : Value} {k : Nat} {x : Str} (hx : W.S.attrs[k]? = some x) (hf : ∀ (c : Nat) (D : ClsD), W.S.cls[c]? = some D -> D.meths.lookup k = none) (H : HR W s.heap io m) (kv : VR W s.heap io v u) (ky : VR W s.heap io y w) : Si W own A fs (fun y_ y_ (_ _ : Unit) => True) (setAttr u x w) s io m (dB v k y m) := by
 intro hne
 have bad : dB v k y m = .bad -> False := hne
 induction kv using VR.elim with
 | @ref q a d hi =>
  cases hm : m[q]? with
  | none => exact (bad (by unfold dB; dsimp only; rw [hm])).elim
  | some o =>
   cases o with
   | list xs => exact (bad (by unfold dB; dsimp only; rw [hm])).elim
   | dict kvs e => exact (bad (by unfold dB; dsimp only; rw [hm])).elim
   | inst c fls =>
    have ea : dB (.ref q) k y m = .ok () (m.set q (.inst c (d8 k y fls))) := by unfold dB; dsimp only; rw [hm]
    rw [ea]
    refine hide fun G_ g_ => ?_
    obtain ⟨e1, mA, h1, h2, h3, D, N, mN, C⟩ := H.obj _ _ _ hi hm
    refine g_ ?_
    clear g_ G_
    obtain ⟨nm, qn, bs, sn, sub, col, dd, k0, k1, k2, k3, k5, hC⟩ := C.obj
    have hna : mN x = none := by rw [C.has k x hx, hf c D C.dat]; rfl
    have hac : a ≠ W.ca c := fun q => by
     have := H.fresh a ⟨_, List.mem_of_getElem? hi, .inl rfl⟩
     rw [q, hC] at this; cases this
    refine store_attr F.store_object (H.keep _ _ hC) (C.ns.keeps H.keep) C.sa hna (C.low k x hx) hac (aY0 e1 h1 h2) (fun h' tk' I' hk hsame => ?_) (bG0 h3) (Nat.le_trans C.few (by decide))
    obtain ⟨o₁, g1, c1, c2, c3, c4⟩ := hsame _ h1
    have eo : o₁ = cL9 (W.ca c) d := by
     obtain ⟨oc, od, odt, osl⟩ := o₁
     have c4' := c4 d rfl
     dsimp only at c1 c2 c3 c4'
     rw [c1, c2, c3, c4']
    rw [eo] at g1
    obtain ⟨o₂, g2, y_, y_, hd⟩ := I'
    rw [g1] at g2
    cases g2
    rcases hd with ⟨q, _⟩ | ⟨d', ed, _, hns⟩
    ·cases q
    cases ed
    have hk' : ∀ b o, b ≠ a -> b ≠ d -> s.heap.get? b = some o -> h'.get? b = some o := fun b o n1 n2 e => hk b o n1 (fun o₀ dx e0 e2 => by rw [h1] at e0; cases e0; cases e2; exact n2) e
    have hd' : ∃ o', h'.get? d = some o' := let ⟨o', _, _, e, _⟩ := hns; ⟨o', e⟩
    have st : Step own (frs fs) s.heap io m h' io (m.set q (.inst c (d8 k y fls))) := aE4 H hi hm hk' ⟨_, g1⟩ hd' (fun y_ y_ q => by cases q)
    exact ⟨(), _, io, rfl, st, H.set hi hm hk' (fun y_ y_ q => by cases q) ⟨_, g1⟩ hd' ⟨e1, _, g1, hns, (h3.step st).put hx C.uniq (ky.step st), D, N, mN, C⟩, trivial, rfl, rfl⟩
 | none => exact (bad rfl).elim
 | bool b => exact (bad rfl).elim
 | int i t => exact (bad rfl).elim
 | str y t hy => exact (bad rfl).elim
 | fn k => exact (bad rfl).elim
 | tup => exact (bad rfl).elim
 | exc => exact (bad rfl).elim
 | scr => exact (bad rfl).elim
theorem dA1 {o : Expr} {x : Str} {k : Nat} {co : Lo -> Mn V} (hx : W.S.attrs[k]? = some x) (hf : ∀ (c : Nat) (D : ClsD), W.S.cls[c]? = some D -> D.meths.lookup k = none) (ho : SiE W A (env :: fs) env vis (eval o env) co) : SiA W A fs env vis (.Attribute o x pos) (fun v r => bnd (co r) fun y => bnd (dB y k v) fun y_ => ret r) := by
 intro s io m r v u Z kv
 rw [arm_assign_Attribute]
 refine Si.bindE (Si.holding (ho s io m r Z.sit)) fun ov s₁ io₁ m₁ y y_ st₁ H₁ ky sm₁ => .standAt ?_
 have Z₁ := Z.step H₁ st₁
 refine Si.bindE (Si.holding (aW1 hx hf H₁ ky (VR.step st₁ kv))) fun y_ s₃ io₃ m₃ y_ y_ st₃ H₃ y_ sm₃ => ?_
 exact fun y_ => wpAny_release ⟨r, m₃, io₃, rfl, .refl, H₃, Z₁.F.step0 Z₁.H st₃, .refl _⟩
theorem cX7 {o : Expr} {x : Str} {k : Nat} {es : List Expr} {co : Lo -> Mn V} {cl : Lo -> Mn (List V)} {F : Nat -> List V -> Mn V} (gl : Gl W K) (hb : eK o = true) (hs : aV es = true) (hfew : es.length < 29) (hline : (apos.endLine == pos.line) = true) (hx : W.S.attrs[k]? = some x)
  (hobj : ∀ j, j < W.S.fns.length -> ∃ ob fd, K.lookup (W.fa j) = some ob /\ ob.data = .func fd /\ ob.cls = .type "function") (hF : ∀ j, j < W.S.fns.length -> SiF W A fs (.ref (W.fa j)) (F j))
  (ho : SiE W A fs env vis (eval o env) co) (hl : SiL W A fs env vis (spliced (backTo pos (starEach es env))) cl) :
  SiE W A fs env vis (eval (.Call (.Attribute o x apos) es [] pos) env) (fun r => bnd (co r) fun v => bnd (fD W.S k v) fun j => bnd (cl r) fun vs => F j (v :: vs)) := by
 intro s io m r Z hne
 dsimp only at hne ⊢
 rw [arm_eval_Call, aY8 hb]
 refine wpAny_bind (wpAny_mono (ho s io m r Z (Res.bind_ne hne)) (fun u s₁ q => ?_) fun y_ y_ q => q.bind .refl (.refl _))
 obtain ⟨v, m₁, io₁, e1, st, H₁, kv, sm⟩ := q
 have ee : ∀ f : V -> Mn V, bnd (co r) f m = f v m₁ := fun f => by show (co r m).bind _ = _; rw [e1]; rfl
 rw [ee] at hne ⊢
 refine wpAny_bind (wpAny_standAt ?_)
 have hform : methodCallForm (es.length + ([] : List Keyword).length) (backTo pos (starEach es env)) (backToKw pos (keywordEach [] env)) = true := by
  unfold methodCallForm
  rw [aR5 hs]; rw [arm_keywordEach_nil]; simp [backToKw]; omega
 have hpos : methodCallPos true o env apos pos = Pure.pure pos := by unfold methodCallPos; rw [hline]; rfl
 unfold methodCall
 rw [hform]
 have bad : fD W.S k v m₁ = .bad -> False := fun q => hne (by show (fD W.S k v m₁).bind _ = _; rw [q]; rfl)
 induction kv using VR.elim with
 | @ref q0 a d hi =>
  cases hm : m₁[q0]? with
  | none => exact (bad (by unfold fD; dsimp only; rw [hm])).elim
  | some ob =>
   cases ob with
   | list xs => exact (bad (by unfold fD; dsimp only; rw [hm])).elim
   | dict kvs e => exact (bad (by unfold fD; dsimp only; rw [hm])).elim
   | inst c fls =>
    refine hide fun G_ g_ => ?_
    obtain ⟨g1, mA, h1, h2, h3, D, N, mN, C⟩ := H₁.obj _ _ _ hi hm
    refine g_ ?_
    clear g_ G_
    cases hg : aQ0 k fls with
    | some w => exact (bad (by unfold fD; dsimp only; rw [hm]; dsimp only; rw [C.dat]; dsimp only; rw [hg])).elim
    | none =>
     cases hq : D.meths.lookup k with
     | none => exact (bad (by unfold fD; dsimp only; rw [hm]; dsimp only; rw [C.dat]; dsimp only; rw [hg]; dsimp only; rw [hq]; rfl)).elim
     | some j =>
      have em : fD W.S k (.ref q0) m₁ = .ok j m₁ := by unfold fD; dsimp only; rw [hm]; dsimp only; rw [C.dat]; dsimp only; rw [hg]; dsimp only; rw [hq]; rfl
      have e2 : bnd (fD W.S k (.ref q0)) (fun j => bnd (cl r) fun vs => F j (.ref q0 :: vs)) m₁ = bnd (cl r) (fun vs => F j (.ref q0 :: vs)) m₁ := by show (fD W.S k (.ref q0) m₁).bind _ = _; rw [em]; rfl
      rw [e2] at hne ⊢
      obtain ⟨nm, qn, bs, sn, sub, col, dd, k0, k1, k2, k3, k5, hC⟩ := C.obj
      obtain ⟨fo, fd, f1, f2, f3⟩ := hobj j (C.mlt k j hq)
      have hmn : mN x = some (.ref (W.fa j)) := by rw [C.has k x hx, hq]; rfl
      have hma : mA x = none := by
       cases z : mA x with
       | none => rfl
       | some w =>
        obtain ⟨i', v', a1, a2, y_⟩ := h3.1 x w z
        rw [C.uniq i' k x a1 hx, hg] at a2; cases a2
      have Z₁ := Z.step H₁ st
      refine wpAny_bind (wpAny_holding ?_)
      unfold calleeOf
      rw [if_pos rfl]
      refine method_of (H₁.keep _ _ hC) (C.ns.keeps H₁.keep) C.ga C.gh hmn (H₁.get gl f1) f3 (C.low k x hx) (aY0 g1 h1 h2) hma ?_
      refine wpAny_bind (wpAny_of_eq hpos ?_)
      refine Calls.callWith_function (o := fo) (fd := fd) (dW hs ?_)
      refine wpAny_mono (hl s₁ io₁ m₁ r Z₁ (Res.bind_ne hne)) (fun us s₂ q => ?_) fun y_ y_ q => (q.mono st sm).bind .refl (.refl _)
      refine hide fun G_ g_ => ?_
      obtain ⟨vs, m₂, io₂, e3, st2, H2, kvs, sm2⟩ := q
      refine g_ ?_
      clear g_ G_
      have ee2 : bnd (cl r) (fun vs => F j (.ref q0 :: vs)) m₁ = F j (.ref q0 :: vs) m₂ := by show (cl r m₁).bind _ = _; rw [e3]; rfl
      rw [ee2] at hne ⊢
      refine ⟨⟨H2.get gl f1, f2⟩, ?_⟩
      exact wpAny_mono (hF j (C.mlt k j hq) _ _ _ _ _ H2 (Z₁.G.step0 st2) (.cons (.ref (st2.io_get hi)) kvs) hne) (fun y_ y_ z => z.mono (st.trans st2) (sm.trans sm2)) fun y_ y_ z => z.mono (st.trans st2) (sm.trans sm2)
 | none => exact (bad rfl).elim
 | bool b => exact (bad rfl).elim
 | int i t => exact (bad rfl).elim
 | str y t hy => exact (bad rfl).elim
 | fn k => exact (bad rfl).elim
 | tup => exact (bad rfl).elim
 | exc => exact (bad rfl).elim
 | scr => exact (bad rfl).elim
theorem bI1 {C : Addr} {rest : List Value} : A.under (.builtin "type.__call__" ⟨.ref C :: rest, []⟩) = born A := by
 have h1 : (Code.builtin "type.__call__" ⟨.ref C :: rest, []⟩).weight = 1 := by kernel_rfl
 have h2 : (Code.builtin "type.__call__" ⟨.ref C :: rest, []⟩).cUnits = 1 := by kernel_rfl
 have h3 : (Code.builtin "type.__call__" ⟨.ref C :: rest, []⟩).envs = [] := by kernel_rfl
 have h4 : (Code.builtin "type.__call__" ⟨.ref C :: rest, []⟩).guards = [] := by kernel_rfl
 unfold Around.under born
 rw [h1, h2, h3, h4]; rfl
theorem e_new {x : Str} {c k0 : Nat} {D : ClsD} {N : Addr} {mN : Str -> Option Value} {es : List Expr} {cl : Lo -> Mn (List V)} {F : Nat -> List V -> Mn V} (gl : Gl W K) (e : nsIn K mainGlobals x = some (some (.ref (W.ca c)))) (hx : env.kindOf x = some .globalImplicit) (hd : (x == ("__debug__" : Str)) = false) (hs : aV es = true)
  (C : ClsOk W c D N mN) (hD : D.init = some k0) (hkeep : keepIn K (.ref (W.ca c)) = true) (hmk : makesIn K (W.ca c) = true) (hin : findIn K (.ref (W.ca c)) "__init__" = some (some (.ref (W.fa k0)))) (hty : typeIn K (.ref (W.fa k0)) = some (.type "function")) (hF : SiK W (born A) fs (.ref (W.fa k0)) (F k0))
  (hl : SiL W A fs env vis (spliced (backTo pos (starEach es env))) cl) :
  SiE W A fs env vis (eval (.Call (.Name x p) es [] pos) env) (fun r => bnd (cl r) fun vs => cK0 W.S F c vs) := by
 intro s io m r Z hne
 dsimp only at hne ⊢
 refine wpAny_Call_NameR (aL5 gl Z e hx hd (callWith_of (P := fun h => K.In h) (by rw [dP hs]; rfl) (fun h X => keeps_K hkeep h X) (dW hs ?_)))
 refine wpAny_mono (hl s io m r Z (Res.bind_ne hne)) (fun us s₁ q => ?_) fun y_ y_ q => q.bind .refl (.refl _)
 obtain ⟨vs, m₁, io₁, e1, st, H₁, kvs, sm⟩ := q
 have X : K.In s₁.heap := fun a o h => H₁.get gl h
 have ee : bnd (cl r) (fun vs => cK0 W.S F c vs) m = (F k0 (.ref m₁.length :: vs) (m₁ ++ [.inst c []])).bind (cU5 (.ref m₁.length)) := by
  show (cl r m).bind _ = _
  rw [e1]
  show cK0 W.S F c vs m₁ = _
  unfold cK0
  rw [C.dat]; dsimp only; rw [C.exc, hD]; rfl
 rw [ee] at hne ⊢
 refine ⟨X, ?_⟩
 obtain ⟨hh, gg, dr, tk, os⟩ := s₁
 dsimp only at st H₁ kvs X
 refine wpAny_call (make_core (makes_of X hmk) (looks_findIn X hin) (fun self => bind_fn X self hty) (.inl rfl) ?_)
 rw [bI1]
 have keeps : ∀ b o, hh.get? b = some o -> ((hh.push emptyDict).push (instObj (W.ca c) hh.objs.size)).get? b = some o := fun b o h => Heap.get?_push_of_some _ (Heap.get?_push_of_some _ h)
 have nx : hh.get? (hh.objs.size + 1) = none := Heap.get?_none_of_le (Nat.le_succ _)
 have nd : hh.get? hh.objs.size = none := aP hh
 have gx : ((hh.push emptyDict).push (instObj (W.ca c) hh.objs.size)).get? (hh.objs.size + 1) = some (instObj (W.ca c) hh.objs.size) := by heap_get
 have gd : ((hh.push emptyDict).push (instObj (W.ca c) hh.objs.size)).get? hh.objs.size = some emptyDict := Heap.get?_push_of_some _ (Heap.get?_push_at rfl rfl)
 have st2 : Step [] (frs fs) hh io₁ m₁ ((hh.push emptyDict).push (instObj (W.ca c) hh.objs.size)) (io₁ ++ [(hh.objs.size + 1, hh.objs.size)]) (m₁ ++ [.inst c []]) := dJ H₁ keeps nx nd
 have H2 : HR W ((hh.push emptyDict).push (instObj (W.ca c) hh.objs.size)) (io₁ ++ [(hh.objs.size + 1, hh.objs.size)]) (m₁ ++ [.inst c []]) :=
  H₁.alloc keeps nx nd ⟨fun q => absurd q (Nat.succ_ne_self _), fun y_ => none, gx, Heap.Ns1.of_empty ⟨_, #[], _, gd, rfl, fun e he => absurd he (by simp), fun y_ => rfl⟩, ⟨(fun y_ y_ q => by cases q), (fun y_ y_ q => by cases q)⟩, D, N, mN, C⟩
 have last : (io₁ ++ [(hh.objs.size + 1, hh.objs.size)])[m₁.length]? = some (hh.objs.size + 1, hh.objs.size) := by rw [<- H₁.len]; simp
 refine codeAny_mono (hF ⟨_, gg, dr, tk, os⟩ _ _ (.ref m₁.length :: vs) (.ref (hh.objs.size + 1) :: us) H2 ((Z.G.step0 st).step0 st2) (.cons (.ref last) (kvs.step st2)) (Res.bind_ne hne)) (fun rr s' z => ?_)
 have st3 := st.trans st2
 cases rr with
 | error e => exact (XP.mono (s₁ := ⟨_, gg, dr, tk, os⟩) z st3 sm).bind .refl (.refl _)
 | ok f =>
  cases f with
  | ret v =>
   obtain ⟨u, m3, io3, e3, st4, H3, ku, sm3⟩ := z
   have e4 : (F k0 (.ref m₁.length :: vs) (m₁ ++ [.inst c []])).bind (cU5 (.ref m₁.length)) = cU5 (.ref m₁.length) u m3 := by rw [e3]; rfl
   rw [e4] at hne
   have hu : u = .none := by
    cases u <;> first | rfl | exact absurd rfl hne
   subst hu
   cases ku
   refine ⟨rfl, ?_⟩
   show NP W [] (frs fs) s io m (VP W) _ _ s'
   rw [e4]
   exact ⟨_, m3, io3, rfl, st3.trans st4, H3, .ref (st4.io_get last), sm.trans sm3⟩
  | _ => exact z
end
end Mini
namespace Mini
open PySem PySem.W PyProof.Rows
structure Cx where
 sc : Scope
 vis : List (Option Str)
structure Px where
 K : Frag
 S : Sig
 fa : Nat -> Addr
 ca : Nat -> Addr
 /-- loops may stand here (no exception is handled) -/
 loud : Bool
 /-- what may be called: all, or these -/
 ok : Option (List Nat)
 /-- what may be called while an exception is handled -/
 qok : List Nat
noncomputable def Px.can (P : Px) (k : Nat) : Bool := match P.ok with
 | none => true
 | some l => l.contains k
noncomputable def Px.quiet (P : Px) : Px := { P with loud := false, ok := some P.qok, qok := [] }
noncomputable def cV7 (Γ : Cx) (i : Nat) (x : Str) : Bool := (Γ.vis[i]? == some (some x)) && (Γ.sc.names.lookup x == some .local || Γ.sc.names.lookup x == some .cell || Γ.sc.names.lookup x == some .free) && !(x == ("__debug__" : Str)) && !(x == ("__classdict__" : Str))
noncomputable def bE2 (Γ : Cx) (i : Nat) (x : Str) : Bool := (Γ.vis[i]? == some (some x)) && (Γ.sc.names.lookup x == some .local || Γ.sc.names.lookup x == some .cell)
noncomputable def bE3 (Γ : Cx) (x : Str) : Bool := (Γ.sc.names.lookup x == some .globalImplicit) && !(x == ("__debug__" : Str)) && !(x == ("__name__" : Str))
noncomputable def bW9 (P : Px) (Γ : Cx) (x : Str) (id : String) : Bool := bE3 Γ x && (nsIn P.K mainGlobals x == some none) && (bootBuiltins x == some (.builtin id))
noncomputable def aX8 (P : Px) (Γ : Cx) (x : Str) (id : String) : Bool := bE3 Γ x && (nsIn P.K mainGlobals x == some none) && (bootBuiltins x == some (.type id))
noncomputable def isFd (d : Data) : Bool := match d with
 | .func _ => true
 | _ => false
noncomputable def cV8 (P : Px) (Γ : Cx) (k : Nat) (x : Str) : Bool := P.can k && bE3 Γ x && (nsIn P.K mainGlobals x == some (some (.ref (P.fa k)))) && (P.K.lookup (P.fa k)).any fun o => isFd o.data
noncomputable def isBi (P : Px) (Γ : Cx) (b : Bi) (x : Str) : Bool := match cZ2 b with
 | .builtin id => bW9 P Γ x id
 | .type id => aX8 P Γ x id
 | _ => false
noncomputable def bmV : List Value := [.type "ValueError", .type "Exception", .type "BaseException", .type "object"]
noncomputable def clsV (P : Px) (c : Nat) : Value := match c with
 | 0 => .type "ValueError"
 | c => .ref (P.ca c)
noncomputable def aS6 (P : Px) (Γ : Cx) (c : Nat) (x : Str) : Bool := bE3 Γ x && (nsIn P.K mainGlobals x == some (some (.ref (P.ca c))))
noncomputable def isCls (P : Px) (Γ : Cx) (c : Nat) (x : Str) : Bool := match c with
 | 0 => aX8 P Γ x "ValueError"
 | c + 1 => aS6 P Γ (c + 1) x
noncomputable def aU9 (f : Nat -> ClsD -> Bool) : Nat -> List ClsD -> Bool
 | _, [] => true
 | k, d :: ds => f k d && aU9 f (k + 1) ds
noncomputable def relI (P : Px) (c : Nat) (d : Nat) (x : ClsD) : Bool := !x.exc || (eP P.K (P.ca d) && kitOne P.K (.ref (P.ca d)) (clsV P c) == some (x.supers.contains c))
noncomputable def relT (P : Px) (c : Nat) (d : Nat) (x : ClsD) : Bool := !(x.supers.contains c) || exmOne P.K (.ref (P.ca d)) (.ref (P.ca c)) == some true
noncomputable def bN7 (P : Px) (n : Nat) (x : Str) : Bool := match P.S.attrs[n]? with | some y => y == x | none => false
noncomputable def cL4 (P : Px) (n : Nat) (x : Str) : Bool := bN7 P n x && P.S.cls.all fun d => (d.meths.lookup n).isNone
noncomputable def aF3 (P : Px) (N : Addr) (D : ClsD) : Nat -> List Str -> Bool
 | _, [] => true
 | i, x :: r => nsIn P.K N x == some ((D.meths.lookup i).map fun k => .ref (P.fa k)) && (match fastLookup "object" x with | some none => true | _ => false) && aF3 P N D (i + 1) r
noncomputable def six {α : Type} (l : List α) : Option (α × α × α × α × α × α) := match l with
 | [] => none
 | a :: l => match l with
  | [] => none
  | b :: l => match l with
   | [] => none
   | c :: l => match l with
    | [] => none
    | d :: l => match l with
     | [] => none
     | e :: l => match l with
      | [] => none
      | f :: l => match l with
       | [] => some (a, b, c, d, e, f)
       | _ :: _ => none
noncomputable def cY6 (d : Data) : Option ClassData := match d with
 | .cls cd => some cd
 | _ => none
noncomputable def bA3 (K : Frag) (C : Addr) : Option Addr := (K.lookup C).bind fun o => (cY6 o.data).bind fun cd => (six o.slots.toList).bind fun q =>
 if o.cls == .type "type" && cd.mro == [.ref C, .type "object"] && q.2.2.2.2.1 == some (.builtin "object.__new__") && !cd.hasDel && cd.hasDict && !cd.abstract && nsOkIn K cd.ns then some cd.ns else none
noncomputable def bV2 (P : Px) (c : Nat) : Bool := match P.S.cls[c]? with
 | some d => !d.exc && (match d.init with | some k => decide (k < P.S.fns.length) && findIn P.K (.ref (P.ca c)) "__init__" == some (some (.ref (P.fa k))) && typeIn P.K (.ref (P.fa k)) == some (.type "function") | none => false)
  && keepIn P.K (.ref (P.ca c)) && makesIn P.K (P.ca c)
  && (match bA3 P.K (P.ca c) with
   | some N => nsIn P.K N "__getattribute__" == some none && nsIn P.K N "__getattr__" == some none && nsIn P.K N "__setattr__" == some none && aF3 P N d 0 P.S.attrs
   | none => false)
  && decide P.S.attrs.Nodup && decide (P.S.attrs.length <= 1000) && (d.meths.all fun q => decide (q.2 < P.S.fns.length))
 | none => false
noncomputable def cL6 : Lt -> Const -> Bool
 | .none, .none => true
 | .bool b, .bool d => b == d
 | .int i, .int j => i == j
 | .str x, .str y => x == y && PyData.strOk x
 | _, _ => false
noncomputable def cV5 (v : Value) (l : Lt) : Bool := match l with
 | .int i => (match v with | .int j _ => i == j | _ => false)
 | .str x => (match v with | .str y _ => x == y && PyData.strOk x | _ => false)
 | .bool b => (match v with | .bool c => b == c | _ => false)
 | .none => (match v with | .none => true | _ => false)
noncomputable def cV9 (P : Px) (Γ : Cx) (i : Nat) (x : Str) : Bool := bE3 Γ x && (nsIn P.K mainGlobals x).any fun o => o.any fun v => (P.S.globs[i]?).any fun p => cV5 v p.2
noncomputable def cV6 : Bool -> BoolOp -> Bool
 | true, .And => true
 | false, .Or => true
 | _, _ => false
noncomputable def eV {β : Type} (d : β) (hBoolOp : BoolOp -> List Expr -> β) (hBinOp : Expr -> Operator -> Expr -> β) (hUnaryOp : UnaryOp -> Expr -> β) (hIfExp : Expr -> Expr -> Expr -> β) (hDict : List (Option Expr) -> List Expr -> β) (hSet : β) (hListComp : Expr -> List Comprehension -> Scope -> β) (hSetComp : β) (hDictComp : β) (hCompare : Expr -> List CmpOp -> List Expr -> β) (hCall : Expr -> List Expr -> List Keyword -> Pos -> β) (hConstant : Const -> β) (hAttribute : Expr -> Str -> Pos -> β) (hSubscript : Expr -> Expr -> β) (hName : Str -> Pos -> β) (hList : List Expr -> β) (hTuple : List Expr -> β) (hSlice : Option Expr -> Option Expr -> Option Expr -> β) (e : Expr) : β := Expr.casesOn (motive_1 := fun y_ => β) e (fun a0 a1 y_ => hBoolOp a0 a1) (fun y_ y_ y_ => d) (fun a0 a1 a2 y_ => hBinOp a0 a1 a2) (fun a0 a1 y_ => hUnaryOp a0 a1) (fun y_ y_ y_ y_ => d) (fun a0 a1 a2 y_ => hIfExp a0 a1 a2) (fun a0 a1 y_ => hDict a0 a1) (fun y_ y_ y_ => hSet) (fun a0 a1 a2 y_ => hListComp a0 a1 a2) (fun y_ y_ y_ y_ => hSetComp) (fun y_ y_ y_ y_ y_ => hDictComp) (fun y_ y_ y_ y_ => d) (fun y_ y_ => d) (fun y_ y_ => d) (fun y_ y_ => d) (fun a0 a1 a2 y_ => hCompare a0 a1 a2) (fun a0 a1 a2 a3 => hCall a0 a1 a2 a3) (fun y_ y_ y_ y_ => d) (fun y_ y_ => d) (fun a0 y_ y_ => hConstant a0) (fun a0 a1 a2 => hAttribute a0 a1 a2) (fun a0 a1 y_ => hSubscript a0 a1) (fun y_ y_ => d) (fun a0 a1 => hName a0 a1) (fun a0 y_ => hList a0) (fun a0 y_ y_ => hTuple a0) (fun a0 a1 a2 y_ => hSlice a0 a1 a2)
noncomputable def cJ8 : Expr -> Bool := eV true (fun y_ y_ => true) (fun y_ y_ y_ => true) (fun y_ y_ => true) (fun y_ y_ y_ => true) (fun y_ y_ => true) true (fun y_ y_ y_ => true) true true (fun y_ y_ y_ => true) (fun y_ y_ y_ y_ => true) (fun y_ => true) (fun y_ y_ y_ => true) (fun y_ y_ => true) (fun y_ y_ => true) (fun y_ => true) (fun y_ => true) (fun y_ y_ y_ => false)
noncomputable def aO4 : Expr -> Bool := eV true (fun y_ y_ => true) (fun y_ y_ y_ => true) (fun y_ y_ => true) (fun y_ y_ y_ => true) (fun y_ y_ => true) false (fun y_ y_ y_ => true) true true (fun y_ y_ y_ => true) (fun y_ y_ y_ y_ => true) (fun y_ => true) (fun y_ y_ y_ => true) (fun y_ y_ => true) (fun y_ y_ => true) (fun y_ => true) (fun y_ => true) (fun y_ y_ y_ => true)
noncomputable def bD6 : CE -> Bool
 | .cnst .none => true
 | _ => false
noncomputable def bW8 : UnaryOp -> Bool | .Not => true | _ => false
noncomputable def aR6 : Expr -> Bool := eV true (fun y_ y_ => false) (fun y_ y_ y_ => true) (fun op y_ => !bW8 op) (fun y_ y_ y_ => false) (fun y_ y_ => true) true (fun y_ y_ y_ => true) true true (fun y_ y_ y_ => false) (fun y_ y_ y_ y_ => true) (fun y_ => true) (fun y_ y_ y_ => true) (fun y_ y_ => true) (fun y_ y_ => true) (fun y_ => true) (fun y_ => true) (fun y_ y_ y_ => true)
noncomputable def aN5 (scope : Scope) (x : Str) : List (Option Str) -> List (Option Str)
 | [] => [some x]
 | o :: r => (match o with | some y => (match scope.names.lookup y with | some .free => some y | _ => none) | none => none) :: aN5 scope x r
noncomputable def cI3 (scope : Scope) (sc : Scope) : Scope :=
 { scope with names := scope.names.map fun (n, k) => if (k == .free && sc.kind == .function && sc.names.lookup n == some .cell) then (n, .cell) else (n, k) }
noncomputable def aM3 (scope : Scope) (x : Str) (Γ : Cx) : Cx := ⟨cI3 scope Γ.sc, aN5 scope x Γ.vis⟩
noncomputable def bQ0 (scope : Scope) (x : Str) (Γ : Cx) : Bool :=
 scope.kind == .function && (scope.names.all fun p => !(p.2 == .local) || scope.names.lookup p.1 == some .local) && (scope.names.all fun p => !(p.2 == .cell)) &&
 (scope.names.all fun p => !(p.2 == .free) || (Γ.vis.contains (some p.1) && (Γ.sc.names.lookup p.1 == some .cell || Γ.sc.names.lookup p.1 == some .free))) && scope.names.lookup x == some .local && decide (Γ.vis.filterMap id).Nodup && Γ.sc.kind == .function
noncomputable def aF5 : Expr -> Option Const := eV none (fun y_ y_ => none) (fun y_ y_ y_ => none) (fun y_ y_ => none) (fun y_ y_ y_ => none) (fun y_ y_ => none) none (fun y_ y_ y_ => none) none none (fun y_ y_ y_ => none) (fun y_ y_ y_ y_ => none) (fun c => some c) (fun y_ y_ y_ => none) (fun y_ y_ => none) (fun y_ y_ => none) (fun y_ => none) (fun y_ => none) (fun y_ y_ y_ => none)
noncomputable def bY : Expr -> Option (Str × Pos) := eV none (fun y_ y_ => none) (fun y_ y_ y_ => none) (fun y_ y_ => none) (fun y_ y_ y_ => none) (fun y_ y_ => none) none (fun y_ y_ y_ => none) none none (fun y_ y_ y_ => none) (fun y_ y_ y_ y_ => none) (fun y_ => none) (fun y_ y_ y_ => none) (fun y_ y_ => none) (fun x p => some (x, p)) (fun y_ => none) (fun y_ => none) (fun y_ y_ y_ => none)
noncomputable def cR3 : Expr -> Option (Expr × Operator × Expr) := eV none (fun y_ y_ => none) (fun l op r => some (l, op, r)) (fun y_ y_ => none) (fun y_ y_ y_ => none) (fun y_ y_ => none) none (fun y_ y_ y_ => none) none none (fun y_ y_ y_ => none) (fun y_ y_ y_ y_ => none) (fun y_ => none) (fun y_ y_ y_ => none) (fun y_ y_ => none) (fun y_ y_ => none) (fun y_ => none) (fun y_ => none) (fun y_ y_ y_ => none)
noncomputable def vUn : Expr -> Option (UnaryOp × Expr) := eV none (fun y_ y_ => none) (fun y_ y_ y_ => none) (fun op x => some (op, x)) (fun y_ y_ y_ => none) (fun y_ y_ => none) none (fun y_ y_ y_ => none) none none (fun y_ y_ y_ => none) (fun y_ y_ y_ y_ => none) (fun y_ => none) (fun y_ y_ y_ => none) (fun y_ y_ => none) (fun y_ y_ => none) (fun y_ => none) (fun y_ => none) (fun y_ y_ y_ => none)
noncomputable def aV7 : Expr -> Option (BoolOp × List Expr) := eV none (fun op es => some (op, es)) (fun y_ y_ y_ => none) (fun y_ y_ => none) (fun y_ y_ y_ => none) (fun y_ y_ => none) none (fun y_ y_ y_ => none) none none (fun y_ y_ y_ => none) (fun y_ y_ y_ y_ => none) (fun y_ => none) (fun y_ y_ y_ => none) (fun y_ y_ => none) (fun y_ y_ => none) (fun y_ => none) (fun y_ => none) (fun y_ y_ y_ => none)
noncomputable def cA9 : Expr -> Option (Expr × List CmpOp × List Expr) := eV none (fun y_ y_ => none) (fun y_ y_ y_ => none) (fun y_ y_ => none) (fun y_ y_ y_ => none) (fun y_ y_ => none) none (fun y_ y_ y_ => none) none none (fun l ops cs => some (l, ops, cs)) (fun y_ y_ y_ y_ => none) (fun y_ => none) (fun y_ y_ y_ => none) (fun y_ y_ => none) (fun y_ y_ => none) (fun y_ => none) (fun y_ => none) (fun y_ y_ y_ => none)
noncomputable def bG4 : Expr -> Option (List Expr) := eV none (fun y_ y_ => none) (fun y_ y_ y_ => none) (fun y_ y_ => none) (fun y_ y_ y_ => none) (fun y_ y_ => none) none (fun y_ y_ y_ => none) none none (fun y_ y_ y_ => none) (fun y_ y_ y_ y_ => none) (fun y_ => none) (fun y_ y_ y_ => none) (fun y_ y_ => none) (fun y_ y_ => none) (fun y_ => none) (fun es => some es) (fun y_ y_ y_ => none)
noncomputable def bG9 : Expr -> Option (List Expr) := eV none (fun y_ y_ => none) (fun y_ y_ y_ => none) (fun y_ y_ => none) (fun y_ y_ y_ => none) (fun y_ y_ => none) none (fun y_ y_ y_ => none) none none (fun y_ y_ y_ => none) (fun y_ y_ y_ y_ => none) (fun y_ => none) (fun y_ y_ y_ => none) (fun y_ y_ => none) (fun y_ y_ => none) (fun es => some es) (fun y_ => none) (fun y_ y_ y_ => none)
noncomputable def bH3 : Expr -> Option (List (Option Expr) × List Expr) := eV none (fun y_ y_ => none) (fun y_ y_ y_ => none) (fun y_ y_ => none) (fun y_ y_ y_ => none) (fun es fs => some (es, fs)) none (fun y_ y_ y_ => none) none none (fun y_ y_ y_ => none) (fun y_ y_ y_ y_ => none) (fun y_ => none) (fun y_ y_ y_ => none) (fun y_ y_ => none) (fun y_ y_ => none) (fun y_ => none) (fun y_ => none) (fun y_ y_ y_ => none)
noncomputable def bR9 : Expr -> Option (Expr × Expr) := eV none (fun y_ y_ => none) (fun y_ y_ y_ => none) (fun y_ y_ => none) (fun y_ y_ y_ => none) (fun y_ y_ => none) none (fun y_ y_ y_ => none) none none (fun y_ y_ y_ => none) (fun y_ y_ y_ y_ => none) (fun y_ => none) (fun y_ y_ y_ => none) (fun x y => some (x, y)) (fun y_ y_ => none) (fun y_ => none) (fun y_ => none) (fun y_ y_ y_ => none)
noncomputable def aQ2 : Expr -> Option (Option Expr × Option Expr × Option Expr) := eV none (fun y_ y_ => none) (fun y_ y_ y_ => none) (fun y_ y_ => none) (fun y_ y_ y_ => none) (fun y_ y_ => none) none (fun y_ y_ y_ => none) none none (fun y_ y_ y_ => none) (fun y_ y_ y_ y_ => none) (fun y_ => none) (fun y_ y_ y_ => none) (fun y_ y_ => none) (fun y_ y_ => none) (fun y_ => none) (fun y_ => none) (fun l h s => some (l, h, s))
noncomputable def aN0 : Expr -> Option (Expr × List Expr × List Keyword × Pos) := eV none (fun y_ y_ => none) (fun y_ y_ y_ => none) (fun y_ y_ => none) (fun y_ y_ y_ => none) (fun y_ y_ => none) none (fun y_ y_ y_ => none) none none (fun y_ y_ y_ => none) (fun f es kws pos => some (f, es, kws, pos)) (fun y_ => none) (fun y_ y_ y_ => none) (fun y_ y_ => none) (fun y_ y_ => none) (fun y_ => none) (fun y_ => none) (fun y_ y_ y_ => none)
noncomputable def aF6 : Expr -> Option (Expr × Str × Pos) := eV none (fun y_ y_ => none) (fun y_ y_ y_ => none) (fun y_ y_ => none) (fun y_ y_ y_ => none) (fun y_ y_ => none) none (fun y_ y_ y_ => none) none none (fun y_ y_ y_ => none) (fun y_ y_ y_ y_ => none) (fun y_ => none) (fun x nm p => some (x, nm, p)) (fun y_ y_ => none) (fun y_ y_ => none) (fun y_ => none) (fun y_ => none) (fun y_ y_ y_ => none)
noncomputable def aQ4 : Expr -> Option (Expr × List Comprehension × Scope) := eV none (fun y_ y_ => none) (fun y_ y_ y_ => none) (fun y_ y_ => none) (fun y_ y_ y_ => none) (fun y_ y_ => none) none (fun e gs sc => some (e, gs, sc)) none none (fun y_ y_ y_ => none) (fun y_ y_ y_ y_ => none) (fun y_ => none) (fun y_ y_ y_ => none) (fun y_ y_ => none) (fun y_ y_ => none) (fun y_ => none) (fun y_ => none) (fun y_ y_ y_ => none)
noncomputable def cA8 {α : Type} : List α -> Option α | [x] => some x | _ => none
noncomputable def vTwo {α : Type} : List α -> Option (α × α) | [x, y] => some (x, y) | _ => none
noncomputable def cV (e : Expr) : Option (Str × List Expr) := (aN0 e).bind fun q => if q.2.2.1.isEmpty then (bY q.1).map fun x => (x.1, q.2.1) else none
noncomputable def mSrc (P : Px) (Γ : Cx) (f : List Expr -> Bool) (k : IK) (e : Expr) : Bool := P.loud && match k with
 | .expr => f [e]
 | .range => (cV e).any fun q => aX8 P Γ q.1 "range" && aV q.2 && f q.2
 | .enum => false
noncomputable def isTy (P : Px) (Γ : Cx) (t : Ty) (y : Str) : Bool := match t with
 | .cls c => isCls P Γ c y && aU9 (relI P c) 0 P.S.cls
 | t => aX8 P Γ y (dH t) && !(dH t == "")
noncomputable def kEs : List Str -> List (Option Expr) -> Bool
 | [], es => es.isEmpty
 | k :: ks, es => match es with
  | [] => false
  | o :: es => (o.any fun e => (aF5 e).any fun c => cL6 (.str k) c) && kEs ks es
mutual
noncomputable def mE (P : Px) (Γ : Cx) : CE -> Expr -> Bool
 | .cnst v, e => (aF5 e).any fun c => cL6 v c
 | .var i, e => (bY e).any fun x => cV7 Γ i x.1
 | .bin op a b, e => (cR3 e).any fun q => decide (op = q.2.1) && mE P Γ a q.1 && mE P Γ b q.2.2
 | .neg _, _ => false
 | .not a, e => (vUn e).any fun q => bW8 q.1 && mE P Γ a q.2
 | .boolop c as, e => (aV7 e).any fun q => cV6 c q.1 && mEs P Γ as q.2 && !as.isEmpty
 | .cmp a ops bs, e => (cA9 e).any fun q => decide (ops = q.2.1) && mE P Γ a q.1 && mEs P Γ bs q.2.2 && decide (ops.length = bs.length) && !bs.isEmpty && q.2.2.all aO4
 | .ite _ _ _, _ => false
 | .tup as, e => (bG4 e).any fun es => mEs P Γ as es && aV es && decide (as.length <= 1000)
 | .list as, e => (bG9 e).any fun es => mEs P Γ as es && aV es && decide (as.length <= 1000)
 | .dict ks vs, e => (bH3 e).any fun q => if ks.isEmpty then vs.isEmpty && q.1.isEmpty && q.2.isEmpty else kEs ks q.1 && decide (ks.length <= 15) && decide ks.Nodup && decide (q.1.length = q.2.length) && mEs P Γ vs q.2
 | .idx a i, e => (bR9 e).any fun q => cJ8 q.2 && mE P Γ a q.1 && mE P Γ i q.2
 | .slice a lo hi st, e => (bR9 e).any fun q => mE P Γ a q.1 && (aQ2 q.2).any fun t => t.1.elim (bD6 lo) (fun l => mE P Γ lo l) && t.2.1.elim (bD6 hi) (fun l => mE P Γ hi l) && t.2.2.elim (bD6 st) (fun l => mE P Γ st l)
 | .call k as, e => (cV e).any fun q => cV8 P Γ k q.1 && aV q.2 && mEs P Γ as q.2
 | .bi b as, e => (cV e).any fun q => P.loud && (cP8 b && isBi P Γ b q.1 && aV q.2 && mEs P Γ as q.2)
 | .smeth o n as, e => (aN0 e).any fun q => (aF6 q.1).any fun t => t.2.1 == Str.ofString (bJ6 n) && eK t.1 && aV q.2.1 && decide (q.2.1.length < 29) && t.2.2.endLine == q.2.2.2.line && q.2.2.1.isEmpty && mE P Γ o t.1 && mEs P Γ as q.2.1
 | .isi a t, e => (cV e).any fun q => (vTwo q.2).any fun p => (bY p.2).any fun y => bW9 P Γ q.1 "isinstance" && isTy P Γ t y.1 && aV [p.1] && mE P Γ a p.1
 | .listrange _, _ => false
 | .comp elt t nl k src ifs, e => (aQ4 e).any fun q => (cA8 q.2.1).any fun g => (bY g.target).any fun x => decide (t = .one Γ.vis.length) && decide (nl = 1) && g.is_async == 0 && bQ0 q.2.2 x.1 Γ && aO4 g.iter && mSrc P Γ (fun es => mEs P Γ src es) k g.iter && bV8 P (aM3 q.2.2 x.1 Γ) ifs g.ifs && mE P (aM3 q.2.2 x.1 Γ) elt q.1
 | .glob i, e => (bY e).any fun x => cV9 P Γ i x.1
 | .fnv _, _ => false
 | .attr a n, e => (aF6 e).any fun q => eK q.1 && cL4 P n q.2.1 && mE P Γ a q.1
 | .callv _ _, _ => false
 | .new c as, e => (cV e).any fun q => P.ok.isNone && aS6 P Γ c q.1 && bV2 P c && aV q.2 && mEs P Γ as q.2
 | .meth o n as, e => (aN0 e).any fun q => (aF6 q.1).any fun t => P.ok.isNone && bN7 P n t.2.1 && eK t.1 && aV q.2.1 && decide (q.2.1.length < 29) && t.2.2.endLine == q.2.2.2.line && q.2.2.1.isEmpty && mE P Γ o t.1 && mEs P Γ as q.2.1
noncomputable def mEs (P : Px) (Γ : Cx) : List CE -> List Expr -> Bool
 | [], es => es.isEmpty
 | a :: as, es => match es with
  | [] => false
  | e :: es => mE P Γ a e && mEs P Γ as es
noncomputable def mB (P : Px) (Γ : Cx) : CB -> Expr -> Bool
 | .not b, e => (vUn e).any fun q => bW8 q.1 && mB P Γ b q.2
 | .all c bs, e => (aV7 e).any fun q => cV6 c q.1 && bV8 P Γ bs q.2
 | .val c, e => (aR6 e || (cA9 e).isSome) && mE P Γ c e
noncomputable def bV8 (P : Px) (Γ : Cx) : List CB -> List Expr -> Bool
 | [], es => es.isEmpty
 | b :: bs, es => match es with
  | [] => false
  | e :: es => mB P Γ b e && bV8 P Γ bs es
end
noncomputable def aB2 : Expr -> Bool := eV false (fun y_ y_ => false) (fun y_ y_ y_ => false) (fun y_ y_ => false) (fun y_ y_ y_ => false) (fun y_ y_ => false) false (fun y_ y_ y_ => true) true true (fun y_ y_ y_ => false) (fun y_ y_ y_ y_ => false) (fun y_ => false) (fun y_ y_ y_ => false) (fun y_ y_ => false) (fun y_ y_ => false) (fun y_ => false) (fun y_ => false) (fun y_ y_ y_ => false)
noncomputable def sV {β : Type} (d : β) (hReturn : Option Expr -> β) (hAssign : List Expr -> Expr -> Pos -> β) (hFor : Expr -> Expr -> List Stmt -> List Stmt -> β) (hWhile : Expr -> List Stmt -> List Stmt -> β) (hIf : Expr -> List Stmt -> List Stmt -> β) (hRaise : Option Expr -> Option Expr -> β) (hTry : List Stmt -> List ExceptHandler -> List Stmt -> List Stmt -> β) (hExpr : Expr -> β) (hPass : β) (hContinue : β) (e : Stmt) : β := Stmt.casesOn (motive_2 := fun y_ => β) e (fun y_ y_ y_ y_ y_ y_ y_ y_ y_ y_ => d) (fun y_ y_ y_ y_ y_ y_ y_ y_ y_ y_ => d) (fun y_ y_ y_ y_ y_ y_ y_ y_ y_ y_ y_ => d) (fun a0 y_ => hReturn a0) (fun y_ y_ => d) (fun a0 a1 a2 => hAssign a0 a1 a2) (fun y_ y_ y_ y_ y_ y_ y_ => d) (fun y_ y_ y_ y_ => d) (fun y_ y_ y_ y_ y_ => d) (fun a0 a1 a2 a3 y_ => hFor a0 a1 a2 a3) (fun y_ y_ y_ y_ y_ => d) (fun a0 a1 a2 y_ => hWhile a0 a1 a2) (fun a0 a1 a2 y_ => hIf a0 a1 a2) (fun y_ y_ y_ => d) (fun y_ y_ y_ => d) (fun y_ y_ y_ => d) (fun a0 a1 y_ => hRaise a0 a1) (fun a0 a1 a2 a3 y_ => hTry a0 a1 a2 a3) (fun y_ y_ y_ y_ y_ => d) (fun y_ y_ y_ => d) (fun y_ y_ => d) (fun y_ y_ y_ y_ => d) (fun y_ y_ => d) (fun y_ y_ => d) (fun a0 y_ => hExpr a0) (fun y_ => hPass) (fun y_ => d) (fun y_ => hContinue)
noncomputable def cR4 : Stmt -> Option (List Expr × Expr × Pos) := sV none (fun y_ => none) (fun ts v pos => some (ts, v, pos)) (fun y_ y_ y_ y_ => none) (fun y_ y_ y_ => none) (fun y_ y_ y_ => none) (fun y_ y_ => none) (fun y_ y_ y_ y_ => none) (fun y_ => none) none none
noncomputable def cP5 : Stmt -> Option Expr := sV none (fun y_ => none) (fun y_ y_ y_ => none) (fun y_ y_ y_ y_ => none) (fun y_ y_ y_ => none) (fun y_ y_ y_ => none) (fun y_ y_ => none) (fun y_ y_ y_ y_ => none) (fun v => some v) none none
noncomputable def cP4 : Stmt -> Option (Expr × List Stmt × List Stmt) := sV none (fun y_ => none) (fun y_ y_ y_ => none) (fun y_ y_ y_ y_ => none) (fun y_ y_ y_ => none) (fun t x y => some (t, x, y)) (fun y_ y_ => none) (fun y_ y_ y_ y_ => none) (fun y_ => none) none none
noncomputable def cR2 : Stmt -> Option (Expr × Expr × List Stmt × List Stmt) := sV none (fun y_ => none) (fun y_ y_ y_ => none) (fun t i b e => some (t, i, b, e)) (fun y_ y_ y_ => none) (fun y_ y_ y_ => none) (fun y_ y_ => none) (fun y_ y_ y_ y_ => none) (fun y_ => none) none none
noncomputable def bS1 : Stmt -> Option (Option Expr) := sV none (fun v => some v) (fun y_ y_ y_ => none) (fun y_ y_ y_ y_ => none) (fun y_ y_ y_ => none) (fun y_ y_ y_ => none) (fun y_ y_ => none) (fun y_ y_ y_ y_ => none) (fun y_ => none) none none
noncomputable def bT1 : Stmt -> Bool := sV false (fun y_ => false) (fun y_ y_ y_ => false) (fun y_ y_ y_ y_ => false) (fun y_ y_ y_ => false) (fun y_ y_ y_ => false) (fun y_ y_ => false) (fun y_ y_ y_ y_ => false) (fun y_ => false) false true
noncomputable def bS3 : Stmt -> Bool := sV false (fun y_ => false) (fun y_ y_ y_ => false) (fun y_ y_ y_ y_ => false) (fun y_ y_ y_ => false) (fun y_ y_ y_ => false) (fun y_ y_ => false) (fun y_ y_ y_ y_ => false) (fun y_ => false) true false
noncomputable def vRse : Stmt -> Option (Option Expr × Option Expr) := sV none (fun y_ => none) (fun y_ y_ y_ => none) (fun y_ y_ y_ y_ => none) (fun y_ y_ y_ => none) (fun y_ y_ y_ => none) (fun e c => some (e, c)) (fun y_ y_ y_ y_ => none) (fun y_ => none) none none
noncomputable def vTry : Stmt -> Option (List Stmt × List ExceptHandler × List Stmt × List Stmt) := sV none (fun y_ => none) (fun y_ y_ y_ => none) (fun y_ y_ y_ y_ => none) (fun y_ y_ y_ => none) (fun y_ y_ y_ => none) (fun y_ y_ => none) (fun b h o f => some (b, h, o, f)) (fun y_ => none) none none
noncomputable def cG5 : ExceptHandler -> Option (Expr × Option Str × Expr)
 | .ExceptHandler (some t) nm [s] _ => (bS1 s).bind fun o => o.map fun e => (t, nm, e)
 | _ => none
noncomputable def okNm (Γ : Cx) (ni : Option Nat) (nm : Option Str) : Bool := match ni, nm with
 | none, none => true
 | _, _ => false
mutual
noncomputable def qS : CS -> Bool
 | .exp _ => true
 | .ret _ => true
 | .ite _ a b => qSs a && qSs b
 | _ => false
noncomputable def qSs : List CS -> Bool
 | [] => true
 | c :: cs => qS c && qSs cs
end
noncomputable def bL7 (Γ : Cx) (y : Str × Pos) (v : Expr) : Bool := !aB2 v || (aQ4 v).any fun q => !(Γ.sc.names.lookup y.1 == some .local) || (y.2.line == v.pos.line && !(q.2.2.names.any fun (n, k) => n == y.1 && (k == .local || k == .cell)))
noncomputable def mT (Γ : Cx) (t : CT) (e : Expr) : Bool := match t with
 | .one i => (bY e).any fun x => bE2 Γ i x.1
 | .many _ => false
noncomputable def mTs (Γ : Cx) : List Nat -> List Expr -> Bool
 | [], es => es.isEmpty
 | i :: is, es => match es with
  | [] => false
  | e :: es => (bY e).any (fun x => bE2 Γ i x.1) && mTs Γ is es
noncomputable def mTF (Γ : Cx) (t : CT) (e : Expr) : Bool := match t with
 | .one i => (bY e).any fun x => bE2 Γ i x.1
 | .many is => (bG4 e).any fun es => mTs Γ is es
noncomputable def mAsg (P : Px) (Γ : Cx) (t : CTgt) (c : CE) (tg v : Expr) : Bool := match t with
 | .one t => match t with
  | .one i => mT Γ (.one i) tg && mE P Γ c v && (bY tg).any fun y => bL7 Γ y v
  | .many is => P.loud && mTF Γ (.many is) tg && mE P Γ c v && !aB2 v && (bG4 v).isNone
 | .idx o i => (bR9 tg).any fun q => mE P Γ o q.1 && mE P Γ i q.2 && mE P Γ c v && !aB2 v
 | .attr o n => (aF6 tg).any fun q => cL4 P n q.2.1 && mE P Γ o q.1 && mE P Γ c v && !aB2 v
 | .idx2 _ _ _ _ => false
mutual
noncomputable def mS (P : Px) (Γ : Cx) : CS -> Stmt -> Bool
 | .asg t e, s => (cR4 s).any fun q => (cA8 q.1).any fun tg => mAsg P Γ t e tg q.2.1
 | .exp e, s => (cP5 s).any fun v => mE P Γ e v && !aB2 v
 | .ite c a b, s => (cP4 s).any fun q => mB P Γ c q.1 && mSs P Γ a q.2.1 && mSs P Γ b q.2.2
 | .for_ k t src body, s => (cR2 s).any fun q => q.2.2.2.isEmpty && mTF Γ t q.1 && aO4 q.2.1 && mSrc P Γ (fun es => mEs P Γ src es) k q.2.1 && mSs P Γ body q.2.2.1
 | .wh _ _, _ => false
 | .ret e, s => (bS1 s).any fun o => o.any fun v => mE P Γ e v
 | .cont, s => bT1 s
 | .pass, s => bS3 s
 | .rse c msg, s => (vRse s).any fun q => q.2.isNone && q.1.any fun e => (cV e).any fun t => P.loud && aS6 P Γ c t.1 && excIn P.K (P.ca c) bmV "ValueError.__new__" && aV t.2 && mEs P Γ [.cnst (.str msg)] t.2
 | .try_ body c ni h, s => (vTry s).any fun q => q.2.2.1.isEmpty && q.2.2.2.isEmpty && (cA8 q.2.1).any fun hd => (cG5 hd).any fun t => (bY t.1).any fun x => aS6 P Γ c x.1 && aU9 (relT P c) 0 P.S.cls && okNm Γ ni t.2.1 && qSs body && mSs P Γ body q.1 && mE P.quiet Γ h t.2.2
noncomputable def mSs (P : Px) (Γ : Cx) : List CS -> List Stmt -> Bool
 | [], ss => ss.isEmpty
 | a :: as, ss => match ss with
  | [] => false
  | s :: ss => mS P Γ a s && mSs P Γ as ss
end
noncomputable def mF (P : Px) (k : Nat) (d : FnD) : Bool := match P.K.lookup (P.fa k) with
 | some o => (match o.data with
  | .func fd => (match fd.body with
   | .stmts body => o.cls == .type "function" && bO2 P.K fd d && mSs P ⟨fd.scope, d.names.map some⟩ d.body body
   | _ => false)
  | _ => false)
 | none => false
noncomputable def mFs (P : Px) : Nat -> List FnD -> Bool
 | _, [] => true
 | k, d :: ds => (!P.can k || mF P k d) && mFs P (k + 1) ds
end Mini
namespace Mini
open PySem PySem.W PyProof.Rows
structure Fx (W : Wd) (P : Px) (A : Around) (fs : List Env) (n : Nat) (F : Fns) : Prop where
 gl : Gl W P.K
 R : AR A fs n
 S : W.S = P.S
 fa : W.fa = P.fa
 ca : W.ca = P.ca
 hh : P.loud = true -> A.handled = none
 calls : ∀ k, P.can k = true -> SiF W A fs (.ref (W.fa k)) (F k)
 new : P.ok = none -> ∀ k, k < P.S.fns.length -> SiK W (born A) fs (.ref (W.fa k)) (F k)
 qcalls : ∀ A', AR A' fs n -> ∀ k, P.qok.contains k = true -> SiF W A' fs (.ref (W.fa k)) (F k)
 objs : P.ok = none -> ∀ k, k < P.S.fns.length -> ∃ o fd, P.K.lookup (P.fa k) = some o /\ o.data = .func fd /\ o.cls = .type "function"
section
variable {W : Wd} {P : Px} {fs : List Env} {env : Env} {A : Around} {n : Nat} {F : Fns} {pos p : Pos} {Γ : Cx}
theorem aX {a b : Bool} (h : (a && b) = true) : a = true /\ b = true := Bool.and_eq_true_iff.mp h
theorem cC4 {a : Bool} (h : (!a) = true) : a = false := (Bool.not_eq_true' _).mp h
theorem aS8 {x : Str} (hsc : env.scope = Γ.sc) (h : bE3 Γ x = true) : env.kindOf x = some .globalImplicit /\ (x == ("__debug__" : Str)) = false /\ (x == ("__name__" : Str)) = false := by
 refine ⟨?_, cC4 (aX (aX h).1).2, cC4 (aX h).2⟩
 show env.scope.names.lookup x = _
 rw [hsc]; exact eq_of_beq (aX (aX h).1).1
theorem cD8 {x : Str} {id : String} (hsc : env.scope = Γ.sc) (h : bW9 P Γ x id = true) : env.kindOf x = some .globalImplicit /\ (x == ("__debug__" : Str)) = false /\ (x == ("__name__" : Str)) = false /\ nsIn P.K mainGlobals x = some none /\ bootBuiltins x = some (.builtin id) :=
 have g := aS8 hsc (aX (aX h).1).1
 ⟨g.1, g.2.1, g.2.2, eq_of_beq (aX (aX h).1).2, eq_of_beq (aX h).2⟩
theorem aZ4 {x : Str} {id : String} (hsc : env.scope = Γ.sc) (h : aX8 P Γ x id = true) : env.kindOf x = some .globalImplicit /\ (x == ("__debug__" : Str)) = false /\ (x == ("__name__" : Str)) = false /\ nsIn P.K mainGlobals x = some none /\ bootBuiltins x = some (.type id) :=
 have g := aS8 hsc (aX (aX h).1).1
 ⟨g.1, g.2.1, g.2.2, eq_of_beq (aX (aX h).1).2, eq_of_beq (aX h).2⟩
theorem fd_of {d : Data} (h : isFd d = true) : ∃ fd, d = .func fd := by
 cases d with
 | func fd => exact ⟨fd, rfl⟩
 | _ => exact absurd h Bool.false_ne_true
theorem cW2 {x : Str} {k : Nat} (hsc : env.scope = Γ.sc) (h : cV8 P Γ k x = true) : P.can k = true /\ env.kindOf x = some .globalImplicit /\ (x == ("__debug__" : Str)) = false /\ nsIn P.K mainGlobals x = some (some (.ref (P.fa k))) /\ ∃ o fd, P.K.lookup (P.fa k) = some o /\ o.data = .func fd := by
 have h1 := aX (aX h).1
 have g := aS8 hsc (aX h1.1).2
 refine ⟨(aX h1.1).1, g.1, g.2.1, eq_of_beq h1.2, ?_⟩
 have h2 := (aX h).2
 cases q : P.K.lookup (P.fa k) with
 | none => rw [q] at h2; exact absurd h2 Bool.false_ne_true
 | some o => rw [q] at h2; exact (fd_of h2).elim fun fd e => ⟨o, fd, rfl, e⟩
theorem bA5 {x : Str} {c : Nat} (hsc : env.scope = Γ.sc) (h : aS6 P Γ c x = true) : env.kindOf x = some .globalImplicit /\ (x == ("__debug__" : Str)) = false /\ nsIn P.K mainGlobals x = some (some (.ref (P.ca c))) :=
 have g := aS8 hsc (aX h).1
 ⟨g.1, g.2.1, eq_of_beq (aX h).2⟩
theorem aC4 {f : Nat -> ClsD -> Bool} : ∀ {ds : List ClsD} {j i : Nat} {d : ClsD}, aU9 f j ds = true -> ds[i]? = some d -> f (j + i) d = true
 | [], j, i, d, _, h => by simp at h
 | x :: ds, j, i, d, hm, h => by
  obtain ⟨h1, h2⟩ := Bool.and_eq_true_iff.mp hm
  cases i with
  | zero =>
   have e : x = d := by simpa using h
   rw [e] at h1; exact h1
  | succ i =>
   have := aC4 h2 (show ds[i]? = some d by simpa using h)
   rwa [show j + 1 + i = j + (i + 1) by omega] at this
theorem aY5 {S : Sig} : ∀ {cs : List CE} {r : Lo} {m : MH} {vs : List V} {m' : MH}, evs S F cs r m = .ok vs m' -> vs.length = cs.length
 | [], r, m, vs, m', h => by cases h; rfl
 | c :: cs, r, m, vs, m', h => by
  have h' : (ev S F c r m).bind (fun x => bnd (evs S F cs r) fun xs => ret (x :: xs)) = .ok vs m' := h
  cases e1 : ev S F c r m with
  | bad => rw [e1] at h'; cases h'
  | exc k m1 => rw [e1] at h'; cases h'
  | ok x m1 =>
   rw [e1] at h'
   have h2 : (evs S F cs r m1).bind (fun xs => ret (x :: xs)) = .ok vs m' := h'
   cases e2 : evs S F cs r m1 with
   | bad => rw [e2] at h2; cases h2
   | exc k m2 => rw [e2] at h2; cases h2
   | ok xs m2 =>
    rw [e2] at h2; cases h2
    simp [aY5 e2]
theorem cJ2 {c : Bool} {op : BoolOp} (h : cV6 c op = true) : (op = .And /\ c = true) \/ (op = .Or /\ c = false) := by
 cases c <;> cases op <;> first | (exact absurd h Bool.false_ne_true) | simp
theorem aZ9 (scope : Scope) (x : Str) : ∀ vis, (aN5 scope x vis).length = vis.length + 1
 | [] => rfl
 | _ :: r => by simp [aN5, aZ9 scope x r]
set_option tactic.hygienic true in
theorem aE6 (scope : Scope) (x : Str) : ∀ (vis : List (Option Str)) (i : Nat) (y : Str), (aN5 scope x vis)[i]? = some (some y) -> (i = vis.length /\ y = x) \/ (vis[i]? = some (some y) /\ scope.names.lookup y = some .free)
 | [], i, y, h => by
  cases i with
  | zero => simp [aN5] at h; exact .inl ⟨rfl, h.symm⟩
  | succ i => simp [aN5] at h
 | o :: r, i, y, h => by
  cases i with
  | zero =>
   simp only [aN5, List.getElem?_cons_zero, Option.some.injEq] at h
   right
   split at h
   ·split at h
    ·rename_i e; cases h; exact ⟨rfl, e⟩
    ·cases h
   ·cases h
  | succ i =>
   simp only [aN5, List.getElem?_cons_succ] at h
   rcases aE6 scope x r i y h with ⟨a, b⟩ | a
   ·exact .inl ⟨by simp [a], b⟩
   ·exact .inr (by simpa using a)
theorem aG3 (scope : Scope) (x : Str) : ∀ (vis : List (Option Str)), (aN5 scope x vis)[vis.length]? = some (some x)
 | [] => rfl
 | _ :: r => by simp [aN5, aG3 scope x r]
theorem aS0 : ∀ {vis : List (Option Str)}, (vis.filterMap id).Nodup -> ∀ (i j : Nat) (y : Str), vis[i]? = some (some y) -> vis[j]? = some (some y) -> i = j
 | [], _, i, j, y, h, _ => by simp at h
 | o :: r, hn, i, j, y, h1, h2 => by
  have tail : (r.filterMap id).Nodup := by
   cases o with
   | none => simpa using hn
   | some z => simp at hn; exact hn.2
  have no : o = some y -> ∀ k : Nat, r[k]? = some (some y) -> False := fun e k hk => by
   subst e
   simp at hn
   exact hn.1 (List.mem_of_getElem? hk)
  cases i with
  | zero =>
   cases j with
   | zero => rfl
   | succ j => simp at h1 h2; exact (no h1 j h2).elim
  | succ i =>
   cases j with
   | zero => simp at h1 h2; exact (no h2 i h1).elim
   | succ j => simp at h1 h2; rw [aS0 tail i j y h1 h2]
theorem aU3 {scope : Scope} {x : Str} (hsc : env.scope = Γ.sc) (h : bQ0 scope x Γ = true) : CompOk scope env Γ.vis (aN5 scope x Γ.vis) 1 := by
 simp only [bQ0, Bool.and_eq_true, beq_iff_eq, decide_eq_true_eq] at h
 refine hide fun G_ g_ => ?_
 obtain ⟨⟨⟨⟨⟨⟨h1, h2⟩, h3⟩, h4⟩, h5⟩, h6⟩, h7⟩ := h
 refine g_ ?_
 clear g_ G_
 refine ⟨h1, fun q hq e => ?_, fun q hq e => ?_, fun q hq e => ?_, fun i y hy => ?_, fun i j y h1' h2' => ?_, aZ9 ..⟩
 ·have := List.all_eq_true.mp h2 q hq
  simpa [e] using this
 ·have := List.all_eq_true.mp h3 q hq
  simp [e] at this
 ·have := List.all_eq_true.mp h4 q hq
  simp only [e, beq_self_eq_true, Bool.not_true, Bool.false_or, Bool.and_eq_true, Bool.or_eq_true, beq_iff_eq] at this
  obtain ⟨a, b⟩ := this
  obtain ⟨i, hi⟩ := List.getElem?_of_mem (List.contains_iff_mem.mp a)
  refine ⟨i, hi, ?_⟩
  show env.scope.names.lookup q.1 = _ \/ env.scope.names.lookup q.1 = _
  rw [hsc]; exact b
 ·rcases aE6 scope x Γ.vis i y hy with ⟨a, b⟩ | ⟨a, b⟩
  ·exact .inl ⟨by omega, by rw [b]; exact h5⟩
  ·exact .inr ⟨a, b⟩
 ·rcases aE6 scope x Γ.vis i y h1' with ⟨a, b⟩ | ⟨a, b⟩ <;> rcases aE6 scope x Γ.vis j y h2' with ⟨c, d⟩ | ⟨c, d⟩
  ·omega
  ·rw [b, h5] at d; cases d
  ·rw [d, h5] at b; cases b
  ·exact aS0 h6 i j y a c
theorem aE8 {scope : Scope} (hsc : env.scope = Γ.sc) : relabel scope env = cI3 scope Γ.sc := by
 unfold relabel cI3 Env.kindOf
 rw [hsc]
theorem aZ8 {iter : Expr} (h : aO4 iter = true) (x : Value) : foldedSetIterable iter env x = Pure.pure x := by
 unfold foldedSetIterable
 cases iter <;> first | (exact absurd h Bool.false_ne_true) | rfl
theorem bA8 {op : CmpOp} {e : Expr} (h : aO4 e = true) : behindInMarks op e = false := by
 cases e <;> first | (exact absurd h Bool.false_ne_true) | rfl
set_option tactic.hygienic true in
theorem aO2 {e : Expr} (h : aR6 e = true) : isTrue e env (eval e env) = (do let v <- eval e env; PySem.standAt e.pos; PySem.holding [v] (truthy v)) := by
 cases e <;> first | rfl | (exact absurd h Bool.false_ne_true) | skip
 rename_i op x pos
 cases op <;> first | rfl | (exact absurd h Bool.false_ne_true)
end
end Mini
namespace Mini
open PySem PySem.W PyProof.Rows
theorem aE {C : Prop} (h : false = true) : C := by cases h
theorem aB {a b : Bool} (h : (a && b) = true) : a = true /\ b = true := by cases a <;> cases b <;> first | (exact ⟨rfl, rfl⟩) | (exact aE h)
theorem bW {p : Prop} [Decidable p] (h : decide p = true) : p := of_decide_eq_true h
section
variable {W : Wd} {P : Px} {fs : List Env} {env : Env} {A : Around} {n : Nat} {F : Fns} {pos p : Pos} {Γ : Cx} {K : Frag} {h : Heap}
theorem cS4 {α : Type} {l : List α} {q : α × α × α × α × α × α} (h : six l = some q) : l = [q.1, q.2.1, q.2.2.1, q.2.2.2.1, q.2.2.2.2.1, q.2.2.2.2.2] := by
 cases l with
 | nil => cases h
 | cons a l => cases l with
  | nil => cases h
  | cons b l => cases l with
   | nil => cases h
   | cons c l => cases l with
    | nil => cases h
    | cons d l => cases l with
     | nil => cases h
     | cons e l => cases l with
      | nil => cases h
      | cons f l => cases l with
       | nil => cases h; rfl
       | cons y_ y_ => cases h
theorem bZ1 {d : Data} {cd : ClassData} (h : cY6 d = some cd) : d = .cls cd := by
 cases d <;> cases h
 rfl
theorem bL0 {C N : Addr} (X : K.In h) (e : bA3 K C = some N) : (∃ nm q bs sn sub col dd k0 k1 k2 k3 k5, h.get? C = some (excClassObj nm q C N bs [.type "object"] true sn sub false col dd k0 k1 k2 k3 k5 "object.__new__")) /\ nsOkIn K N = true := by
 refine hide fun G_ g_ => ?_
 obtain ⟨o, ho, e⟩ := Option.bind_eq_some_iff.mp e
 obtain ⟨cd, hd, e⟩ := Option.bind_eq_some_iff.mp e
 obtain ⟨q, hq, e⟩ := Option.bind_eq_some_iff.mp e
 replace hd := bZ1 hd
 replace hq := cS4 hq
 obtain ⟨oc, dd, od, sl⟩ := o
 obtain ⟨k0, k1, k2, k3, k4, k5⟩ := q
 dsimp only at hd hq e
 by_cases hc : (oc == .type "type" && cd.mro == [.ref C, .type "object"] && k4 == some (.builtin "object.__new__") && !cd.hasDel && cd.hasDict && !cd.abstract && nsOkIn K cd.ns) = true
 ·rw [if_pos hc] at e
  cases e
  simp only [Bool.and_eq_true, beq_iff_eq, Bool.not_eq_true'] at hc
  obtain ⟨⟨⟨⟨⟨⟨rfl, hm⟩, rfl⟩, hdel⟩, hdict⟩, hab⟩, hok⟩ := hc
  obtain ⟨nm, bs, mro, ns, qn, hd', sn, sub, ab, col, del⟩ := cd
  dsimp only at hm hdel hdict hab hok
  subst hm hdel hdict hab hd
  have hsl : sl = #[k0, k1, k2, k3, some (.builtin "object.__new__"), k5] := by
   obtain ⟨l⟩ := sl
   have hq : l = _ := hq
   rw [hq]
  subst hsl
  exact g_ ⟨⟨nm, qn, bs, sn, sub, col, dd, k0, k1, k2, k3, k5, X _ _ ho⟩, hok⟩
 ·rw [if_neg hc] at e; cases e
set_option tactic.hygienic true in
theorem cU3 {N : Addr} {mN : Str -> Option Value} {x : Str} {v : Value} (X : K.In h) (G : h.Ns N mN) (e : nsIn K N x = some (some v)) : mN x = some v := by
 refine hide fun G_ g_ => ?_
 obtain ⟨ob, es, ep, ho, hd, y_, hf⟩ := G
 refine g_ ?_
 clear g_ G_
 rw [<- hf x]
 unfold nsIn at e
 split at e
 ·rename_i q
  have z := (X _ _ q).symm.trans ho
  cases z
  cases hd
  unfold nsFind findBy
  rw [<- Array.find?_toList]
  split at e
  ·rename_i en he
   rw [he]
   cases e
  ·split at e <;> cases e
 ·cases e
theorem cU8 {x : Str} (e : fastLookup "object" x = some none) : typeLookup (.type "object") x = Pure.pure none := by
 rw [typeLookup_type, builtinLookup_eq_fast, e]
theorem aP9 {N : Addr} {D : ClsD} : ∀ {xs : List Str} {j i : Nat} {x : Str}, aF3 P N D j xs = true -> xs[i]? = some x -> nsIn P.K N x = some ((D.meths.lookup (j + i)).map fun k => .ref (P.fa k)) /\ fastLookup "object" x = some none
 | [], _, _, _, _, e => by simp at e
 | y :: ys, j, i, x, h, e => by
  obtain ⟨h, h3⟩ := aB (b := aF3 P N D (j + 1) ys) h
  have h2 := (aB h).2
  have h1 := (aB h).1
  cases i with
  | zero =>
   have q : y = x := by simpa using e
   subst q
   refine ⟨beq_iff_eq.mp h1, ?_⟩
   split at h2
   ·assumption
   ·cases h2
  | succ i =>
   have := aP9 (i := i) h3 (by simpa using e)
   rw [show j + (i + 1) = j + 1 + i by omega]
   exact this
theorem cY5 (X : Fx W P A fs n F) {c : Nat} (h : bV2 P c = true) : ∃ D N mN k0, ClsOk W c D N mN /\ D.init = some k0 /\ k0 < P.S.fns.length /\ keepIn P.K (.ref (W.ca c)) = true /\ makesIn P.K (W.ca c) = true /\ findIn P.K (.ref (W.ca c)) "__init__" = some (some (.ref (W.fa k0))) /\ typeIn P.K (.ref (W.fa k0)) = some (.type "function") := by
 refine hide fun G_ g_ => ?_
 unfold bV2 at h
 cases hD : P.S.cls[c]? with
 | none => rw [hD] at h; exact aE h
 | some D =>
  rw [hD] at h
  dsimp only at h
  have h8 := (aB h).2
  have h := (aB h).1
  have h7 := (aB h).2
  have h := (aB h).1
  have h6 := (aB h).2
  have h := (aB h).1
  have h5 := (aB h).2
  have h := (aB h).1
  have h4 := (aB h).2
  have h := (aB h).1
  have h3 := (aB h).2
  have h := (aB h).1
  have h2 := (aB h).2
  have h1 := (aB h).1
  cases hi : D.init with
  | none => rw [hi] at h2; exact aE h2
  | some k0 =>
   rw [hi] at h2
   dsimp only at h2
   have t3 := (aB h2).2
   have h2 := (aB h2).1
   have t2 := (aB h2).2
   have t1 := (aB h2).1
   cases hN : bA3 P.K (P.ca c) with
   | none => rw [hN] at h5; exact aE h5
   | some N =>
    rw [hN] at h5
    dsimp only at h5
    have g4 := (aB h5).2
    have h5 := (aB h5).1
    have g3 := (aB h5).2
    have h5 := (aB h5).1
    have g2 := (aB h5).2
    have g1 := (aB h5).1
    obtain ⟨ob, hok⟩ := bL0 X.gl.X hN
    have ns : W.base.Ns N (W.base.nsMap N) := .of_isNs (isNs_of_in X.gl.X hok)
    have nd : P.S.attrs.Nodup := bW h6
    refine g_ ⟨D, N, _, k0, ⟨X.S ▸ hD, (Bool.not_eq_true' _).mp h1, X.ca ▸ ob, ns, ns_none_of X.gl.X ns (beq_iff_eq.mp g1), ns_none_of X.gl.X ns (beq_iff_eq.mp g2), ns_none_of X.gl.X ns (beq_iff_eq.mp g3), ?_, ?_, ?_, X.S ▸ bW h7, ?_⟩, hi, bW t1, X.ca ▸ h3, X.ca ▸ h4, X.ca ▸ X.fa ▸ beq_iff_eq.mp t2, X.fa ▸ beq_iff_eq.mp t3⟩
    ·intro i x e
     rw [X.S] at e
     obtain ⟨q, y_⟩ := aP9 g4 e
     rw [Nat.zero_add] at q
     rw [X.fa]
     cases hl : D.meths.lookup i with
     | none => rw [hl] at q; exact ns_none_of X.gl.X ns q
     | some k => rw [hl] at q; exact cU3 X.gl.X ns q
    ·intro i x e
     rw [X.S] at e
     exact cU8 (aP9 g4 e).2
    ·intro i j x e1 e2
     rw [X.S] at e1 e2
     have l1 := (List.getElem?_eq_some_iff.mp e1).1
     exact (List.getElem?_inj l1 nd).mp (e1.trans e2.symm)
    ·intro i k e
     rw [X.S]
     have : ∀ (l : List (Nat × Nat)), (l.all fun q => decide (q.2 < P.S.fns.length)) = true -> l.lookup i = some k -> k < P.S.fns.length := by
      intro l
      induction l with
      | nil => intro _ q; cases q
      | cons a l ih =>
       intro ha q
       rw [List.all_cons] at ha
       have a2 := (aB ha).2
       have a1 := (aB ha).1
       obtain ⟨a0, a3⟩ := a
       rw [List.lookup_cons] at q
       cases z : i == a0 with
       | true => rw [z] at q; cases q; exact bW a1
       | false => rw [z] at q; exact ih a2 q
     exact this _ h8 e
theorem cE3 {k : Nat} {x : Str} (h : bN7 P k x = true) : P.S.attrs[k]? = some x := by
 unfold bN7 at h
 cases q : P.S.attrs[k]? with
 | none => rw [q] at h; exact aE h
 | some y => rw [q] at h; rw [beq_iff_eq.mp h]
theorem cD4 {k : Nat} {x : Str} (h : cL4 P k x = true) : P.S.attrs[k]? = some x /\ ∀ (c : Nat) (D : ClsD), P.S.cls[c]? = some D -> D.meths.lookup k = none := by
 have h2 := (aB h).2
 have h1 := (aB h).1
 exact ⟨cE3 h1, fun c D e => Option.isNone_iff_eq_none.mp (List.all_eq_true.mp h2 D (List.mem_of_getElem? e))⟩
end
end Mini
namespace Mini
open PySem PySem.W PyProof.Rows
section
variable {W : Wd} {P : Px} {fs : List Env} {A : Around} {n : Nat} {F : Fns}
theorem cN5 {vis : List (Option Str)} {env : Env} {x y : Str} {a : Expr} {pos px py : Pos} {t : Ty} {tv : Value} {ca : Lo -> Mn V} {K : Frag} (gl : Gl W K) (e1 : nsIn K mainGlobals x = some none) (b1 : bootBuiltins x = some (.builtin "isinstance")) (n1 : (x == ("__name__" : Str)) = false) (k1 : env.kindOf x = some .globalImplicit) (d1 : (x == ("__debug__" : Str)) = false)
  (hy : ∀ {s : Shared} {io : Io} {m : MH} {r : Lo} {Q : Value -> Shared -> Prop} {E : Value -> Shared -> Prop}, Sit W fs env vis s io m r -> Q tv s -> wpAny (model W.prog W.w) A (eval (.Name y py) env) Q E s)
  (hsim : ∀ {s : Shared} {io : Io} {m : MH} {v : V} {u : Value}, HR W s.heap io m -> VR W s.heap io v u -> Si W [] A fs BV (call (.builtin "isinstance") [u, tv]) s io m (eN W.S v t m)) (hs : aV [a] = true) (ha : SiE W A fs env vis (eval a env) ca) :
  SiE W A fs env vis (eval (.Call (.Name x px) [a, .Name y py] [] pos) env) (fun r => bnd (ca r) fun v => bnd (eN W.S v t) fun b => ret (.bool b)) := by
 intro s io m r Z hne
 dsimp only at hne ⊢
 have hs' : aV [a, .Name y py] = true := by cases a <;> first | rfl | exact absurd hs Bool.false_ne_true
 refine wpAny_Call_NameR (aL6 gl Z e1 b1 n1 k1 d1 (Calls.callWith_builtin (dP hs') (dW hs' ?_)))
 refine PyProof.Rows.spliced_more ?_ (eE hs')
 refine wpAny_mono (ha s io m r Z (Res.bind_ne hne)) (fun u s₁ q => ?_) fun y_ y_ q => q.bind .refl (.refl _)
 obtain ⟨v, m₁, io₁, e, st, H, k, sm⟩ := q
 have ee : ∀ f : V -> Mn V, bnd (ca r) f m = f v m₁ := fun f => by show (ca r m).bind _ = _; rw [e]; rfl
 rw [ee] at hne ⊢
 refine PyProof.Rows.spliced_more (hy (Z.step H st) ?_) rfl
 refine PyProof.Rows.spliced_none ?_
 show wpAny (model W.prog W.w) A (call (.builtin "isinstance") [u, tv]) _ _ s₁
 refine wpAny_mono (hsim H k (Res.bind_ne hne)) (fun w s₂ q => ?_) fun y_ y_ q => (q.mono st sm).bind .refl (.refl _)
 obtain ⟨b, m₂, io₂, e', st2, H2, k2', sm2⟩ := q
 cases k2'
 exact ⟨.bool b, m₂, io₂, by show (eN W.S v t m₁).bind _ = _; rw [e']; rfl, st.trans st2, H2, .bool b, sm.trans sm2⟩
theorem ty_of {t : Ty} (h : (!(dH t == "")) = true) : ∀ c, t ≠ .cls c := fun c e => by subst e; exact absurd h Bool.false_ne_true
theorem aA {α : Type} {a : α} {C : Prop} (h : (none : Option α) = some a) : C := by cases h
theorem cJ7 {α : Type} {a : α} {l : List α} {C : Prop} (h : [] = a :: l) : C := by cases h
theorem bL8 {n : Nat} {C : Prop} (h : 0 = n + 1) : C := by cases h
theorem aI {α : Type} {o : Option α} {f : α -> Bool} {G : Prop} (h : o.any f = true) (k : ∀ a, o = some a -> f a = true -> G) : G := by
 cases o with
 | none => exact aE h
 | some a => exact k a rfl h
noncomputable def bR3 (c : Const) (e : Expr) : Prop := ∃ k pos, e = .Constant c k pos
theorem bD0 {e : Expr} {c : Const} (h : aF5 e = some c) : bR3 c e :=
 Expr.casesOn (motive_1 := fun e => aF5 e = some c -> bR3 c e) e (fun y_ y_ y_ h => aA h) (fun y_ y_ y_ h => aA h) (fun y_ y_ y_ y_ h => aA h) (fun y_ y_ y_ h => aA h) (fun y_ y_ y_ y_ h => aA h) (fun y_ y_ y_ y_ h => aA h) (fun y_ y_ y_ h => aA h) (fun y_ y_ y_ h => aA h) (fun y_ y_ y_ y_ h => aA h) (fun y_ y_ y_ y_ h => aA h) (fun y_ y_ y_ y_ y_ h => aA h) (fun y_ y_ y_ y_ h => aA h) (fun y_ y_ h => aA h) (fun y_ y_ h => aA h) (fun y_ y_ h => aA h) (fun y_ y_ y_ y_ h => aA h) (fun y_ y_ y_ y_ h => aA h) (fun y_ y_ y_ y_ h => aA h) (fun y_ y_ h => aA h) (fun y_ y_ y_ h => by cases h; exact ⟨_, _, rfl⟩) (fun y_ y_ y_ h => aA h) (fun y_ y_ y_ h => aA h) (fun y_ y_ h => aA h) (fun y_ y_ h => aA h) (fun y_ y_ h => aA h) (fun y_ y_ y_ h => aA h) (fun y_ y_ y_ y_ h => aA h) h
theorem aQ3 {e : Expr} {c : Const} (h : aF5 e = some c) : ∃ k pos, e = .Constant c k pos := bD0 h
noncomputable def cF1 (c : Str × Pos) (e : Expr) : Prop := e = .Name c.1 c.2
theorem bG7 {e : Expr} {c : Str × Pos} (h : bY e = some c) : cF1 c e :=
 Expr.casesOn (motive_1 := fun e => bY e = some c -> cF1 c e) e (fun y_ y_ y_ h => aA h) (fun y_ y_ y_ h => aA h) (fun y_ y_ y_ y_ h => aA h) (fun y_ y_ y_ h => aA h) (fun y_ y_ y_ y_ h => aA h) (fun y_ y_ y_ y_ h => aA h) (fun y_ y_ y_ h => aA h) (fun y_ y_ y_ h => aA h) (fun y_ y_ y_ y_ h => aA h) (fun y_ y_ y_ y_ h => aA h) (fun y_ y_ y_ y_ y_ h => aA h) (fun y_ y_ y_ y_ h => aA h) (fun y_ y_ h => aA h) (fun y_ y_ h => aA h) (fun y_ y_ h => aA h) (fun y_ y_ y_ y_ h => aA h) (fun y_ y_ y_ y_ h => aA h) (fun y_ y_ y_ y_ h => aA h) (fun y_ y_ h => aA h) (fun y_ y_ y_ h => aA h) (fun y_ y_ y_ h => aA h) (fun y_ y_ y_ h => aA h) (fun y_ y_ h => aA h) (fun y_ y_ h => by cases h; rfl) (fun y_ y_ h => aA h) (fun y_ y_ y_ h => aA h) (fun y_ y_ y_ y_ h => aA h) h
theorem cG {e : Expr} {c : Str × Pos} (h : bY e = some c) : e = .Name c.1 c.2 := bG7 h
noncomputable def dB2 (c : Expr × Operator × Expr) (e : Expr) : Prop := ∃ pos, e = .BinOp c.1 c.2.1 c.2.2 pos
theorem bT3 {e : Expr} {c : Expr × Operator × Expr} (h : cR3 e = some c) : dB2 c e :=
 Expr.casesOn (motive_1 := fun e => cR3 e = some c -> dB2 c e) e (fun y_ y_ y_ h => aA h) (fun y_ y_ y_ h => aA h) (fun y_ y_ y_ y_ h => by cases h; exact ⟨_, rfl⟩) (fun y_ y_ y_ h => aA h) (fun y_ y_ y_ y_ h => aA h) (fun y_ y_ y_ y_ h => aA h) (fun y_ y_ y_ h => aA h) (fun y_ y_ y_ h => aA h) (fun y_ y_ y_ y_ h => aA h) (fun y_ y_ y_ y_ h => aA h) (fun y_ y_ y_ y_ y_ h => aA h) (fun y_ y_ y_ y_ h => aA h) (fun y_ y_ h => aA h) (fun y_ y_ h => aA h) (fun y_ y_ h => aA h) (fun y_ y_ y_ y_ h => aA h) (fun y_ y_ y_ y_ h => aA h) (fun y_ y_ y_ y_ h => aA h) (fun y_ y_ h => aA h) (fun y_ y_ y_ h => aA h) (fun y_ y_ y_ h => aA h) (fun y_ y_ y_ h => aA h) (fun y_ y_ h => aA h) (fun y_ y_ h => aA h) (fun y_ y_ h => aA h) (fun y_ y_ y_ h => aA h) (fun y_ y_ y_ y_ h => aA h) h
theorem cG7 {e : Expr} {c : Expr × Operator × Expr} (h : cR3 e = some c) : ∃ pos, e = .BinOp c.1 c.2.1 c.2.2 pos := bT3 h
noncomputable def IsUn (c : UnaryOp × Expr) (e : Expr) : Prop := ∃ pos, e = .UnaryOp c.1 c.2 pos
theorem cG1 {e : Expr} {c : UnaryOp × Expr} (h : vUn e = some c) : IsUn c e :=
 Expr.casesOn (motive_1 := fun e => vUn e = some c -> IsUn c e) e (fun y_ y_ y_ h => aA h) (fun y_ y_ y_ h => aA h) (fun y_ y_ y_ y_ h => aA h) (fun y_ y_ y_ h => by cases h; exact ⟨_, rfl⟩) (fun y_ y_ y_ y_ h => aA h) (fun y_ y_ y_ y_ h => aA h) (fun y_ y_ y_ h => aA h) (fun y_ y_ y_ h => aA h) (fun y_ y_ y_ y_ h => aA h) (fun y_ y_ y_ y_ h => aA h) (fun y_ y_ y_ y_ y_ h => aA h) (fun y_ y_ y_ y_ h => aA h) (fun y_ y_ h => aA h) (fun y_ y_ h => aA h) (fun y_ y_ h => aA h) (fun y_ y_ y_ y_ h => aA h) (fun y_ y_ y_ y_ h => aA h) (fun y_ y_ y_ y_ h => aA h) (fun y_ y_ h => aA h) (fun y_ y_ y_ h => aA h) (fun y_ y_ y_ h => aA h) (fun y_ y_ y_ h => aA h) (fun y_ y_ h => aA h) (fun y_ y_ h => aA h) (fun y_ y_ h => aA h) (fun y_ y_ y_ h => aA h) (fun y_ y_ y_ y_ h => aA h) h
theorem cA7 {e : Expr} {c : UnaryOp × Expr} (h : vUn e = some c) : ∃ pos, e = .UnaryOp c.1 c.2 pos := cG1 h
noncomputable def cF6 (c : BoolOp × List Expr) (e : Expr) : Prop := ∃ pos, e = .BoolOp c.1 c.2 pos
theorem bH8 {e : Expr} {c : BoolOp × List Expr} (h : aV7 e = some c) : cF6 c e :=
 Expr.casesOn (motive_1 := fun e => aV7 e = some c -> cF6 c e) e (fun y_ y_ y_ h => by cases h; exact ⟨_, rfl⟩) (fun y_ y_ y_ h => aA h) (fun y_ y_ y_ y_ h => aA h) (fun y_ y_ y_ h => aA h) (fun y_ y_ y_ y_ h => aA h) (fun y_ y_ y_ y_ h => aA h) (fun y_ y_ y_ h => aA h) (fun y_ y_ y_ h => aA h) (fun y_ y_ y_ y_ h => aA h) (fun y_ y_ y_ y_ h => aA h) (fun y_ y_ y_ y_ y_ h => aA h) (fun y_ y_ y_ y_ h => aA h) (fun y_ y_ h => aA h) (fun y_ y_ h => aA h) (fun y_ y_ h => aA h) (fun y_ y_ y_ y_ h => aA h) (fun y_ y_ y_ y_ h => aA h) (fun y_ y_ y_ y_ h => aA h) (fun y_ y_ h => aA h) (fun y_ y_ y_ h => aA h) (fun y_ y_ y_ h => aA h) (fun y_ y_ y_ h => aA h) (fun y_ y_ h => aA h) (fun y_ y_ h => aA h) (fun y_ y_ h => aA h) (fun y_ y_ y_ h => aA h) (fun y_ y_ y_ y_ h => aA h) h
theorem aZ3 {e : Expr} {c : BoolOp × List Expr} (h : aV7 e = some c) : ∃ pos, e = .BoolOp c.1 c.2 pos := bH8 h
noncomputable def dB1 (c : Expr × List CmpOp × List Expr) (e : Expr) : Prop := ∃ pos, e = .Compare c.1 c.2.1 c.2.2 pos
theorem bT2 {e : Expr} {c : Expr × List CmpOp × List Expr} (h : cA9 e = some c) : dB1 c e :=
 Expr.casesOn (motive_1 := fun e => cA9 e = some c -> dB1 c e) e (fun y_ y_ y_ h => aA h) (fun y_ y_ y_ h => aA h) (fun y_ y_ y_ y_ h => aA h) (fun y_ y_ y_ h => aA h) (fun y_ y_ y_ y_ h => aA h) (fun y_ y_ y_ y_ h => aA h) (fun y_ y_ y_ h => aA h) (fun y_ y_ y_ h => aA h) (fun y_ y_ y_ y_ h => aA h) (fun y_ y_ y_ y_ h => aA h) (fun y_ y_ y_ y_ y_ h => aA h) (fun y_ y_ y_ y_ h => aA h) (fun y_ y_ h => aA h) (fun y_ y_ h => aA h) (fun y_ y_ h => aA h) (fun y_ y_ y_ y_ h => by cases h; exact ⟨_, rfl⟩) (fun y_ y_ y_ y_ h => aA h) (fun y_ y_ y_ y_ h => aA h) (fun y_ y_ h => aA h) (fun y_ y_ y_ h => aA h) (fun y_ y_ y_ h => aA h) (fun y_ y_ y_ h => aA h) (fun y_ y_ h => aA h) (fun y_ y_ h => aA h) (fun y_ y_ h => aA h) (fun y_ y_ y_ h => aA h) (fun y_ y_ y_ y_ h => aA h) h
theorem bH6 {e : Expr} {c : Expr × List CmpOp × List Expr} (h : cA9 e = some c) : ∃ pos, e = .Compare c.1 c.2.1 c.2.2 pos := bT2 h
noncomputable def dA3 (c : List Expr) (e : Expr) : Prop := ∃ k pos, e = .Tuple c k pos
theorem bR7 {e : Expr} {c : List Expr} (h : bG4 e = some c) : dA3 c e :=
 Expr.casesOn (motive_1 := fun e => bG4 e = some c -> dA3 c e) e (fun y_ y_ y_ h => aA h) (fun y_ y_ y_ h => aA h) (fun y_ y_ y_ y_ h => aA h) (fun y_ y_ y_ h => aA h) (fun y_ y_ y_ y_ h => aA h) (fun y_ y_ y_ y_ h => aA h) (fun y_ y_ y_ h => aA h) (fun y_ y_ y_ h => aA h) (fun y_ y_ y_ y_ h => aA h) (fun y_ y_ y_ y_ h => aA h) (fun y_ y_ y_ y_ y_ h => aA h) (fun y_ y_ y_ y_ h => aA h) (fun y_ y_ h => aA h) (fun y_ y_ h => aA h) (fun y_ y_ h => aA h) (fun y_ y_ y_ y_ h => aA h) (fun y_ y_ y_ y_ h => aA h) (fun y_ y_ y_ y_ h => aA h) (fun y_ y_ h => aA h) (fun y_ y_ y_ h => aA h) (fun y_ y_ y_ h => aA h) (fun y_ y_ y_ h => aA h) (fun y_ y_ h => aA h) (fun y_ y_ h => aA h) (fun y_ y_ h => aA h) (fun y_ y_ y_ h => by cases h; exact ⟨_, _, rfl⟩) (fun y_ y_ y_ y_ h => aA h) h
theorem aV4 {e : Expr} {c : List Expr} (h : bG4 e = some c) : ∃ k pos, e = .Tuple c k pos := bR7 h
noncomputable def IsList (c : List Expr) (e : Expr) : Prop := ∃ pos, e = .List c pos
theorem bG8 {e : Expr} {c : List Expr} (h : bG9 e = some c) : IsList c e :=
 Expr.casesOn (motive_1 := fun e => bG9 e = some c -> IsList c e) e (fun y_ y_ y_ h => aA h) (fun y_ y_ y_ h => aA h) (fun y_ y_ y_ y_ h => aA h) (fun y_ y_ y_ h => aA h) (fun y_ y_ y_ y_ h => aA h) (fun y_ y_ y_ y_ h => aA h) (fun y_ y_ y_ h => aA h) (fun y_ y_ y_ h => aA h) (fun y_ y_ y_ y_ h => aA h) (fun y_ y_ y_ y_ h => aA h) (fun y_ y_ y_ y_ y_ h => aA h) (fun y_ y_ y_ y_ h => aA h) (fun y_ y_ h => aA h) (fun y_ y_ h => aA h) (fun y_ y_ h => aA h) (fun y_ y_ y_ y_ h => aA h) (fun y_ y_ y_ y_ h => aA h) (fun y_ y_ y_ y_ h => aA h) (fun y_ y_ h => aA h) (fun y_ y_ y_ h => aA h) (fun y_ y_ y_ h => aA h) (fun y_ y_ y_ h => aA h) (fun y_ y_ h => aA h) (fun y_ y_ h => aA h) (fun y_ y_ h => by cases h; exact ⟨_, rfl⟩) (fun y_ y_ y_ h => aA h) (fun y_ y_ y_ y_ h => aA h) h
theorem bS4 {e : Expr} {c : List Expr} (h : bG9 e = some c) : ∃ pos, e = .List c pos := bG8 h
noncomputable def cF2 (c : List (Option Expr) × List Expr) (e : Expr) : Prop := ∃ pos, e = .Dict c.1 c.2 pos
theorem bH2 {e : Expr} {c : List (Option Expr) × List Expr} (h : bH3 e = some c) : cF2 c e :=
 Expr.casesOn (motive_1 := fun e => bH3 e = some c -> cF2 c e) e (fun y_ y_ y_ h => aA h) (fun y_ y_ y_ h => aA h) (fun y_ y_ y_ y_ h => aA h) (fun y_ y_ y_ h => aA h) (fun y_ y_ y_ y_ h => aA h) (fun y_ y_ y_ y_ h => aA h) (fun y_ y_ y_ h => by cases h; exact ⟨_, rfl⟩) (fun y_ y_ y_ h => aA h) (fun y_ y_ y_ y_ h => aA h) (fun y_ y_ y_ y_ h => aA h) (fun y_ y_ y_ y_ y_ h => aA h) (fun y_ y_ y_ y_ h => aA h) (fun y_ y_ h => aA h) (fun y_ y_ h => aA h) (fun y_ y_ h => aA h) (fun y_ y_ y_ y_ h => aA h) (fun y_ y_ y_ y_ h => aA h) (fun y_ y_ y_ y_ h => aA h) (fun y_ y_ h => aA h) (fun y_ y_ y_ h => aA h) (fun y_ y_ y_ h => aA h) (fun y_ y_ y_ h => aA h) (fun y_ y_ h => aA h) (fun y_ y_ h => aA h) (fun y_ y_ h => aA h) (fun y_ y_ y_ h => aA h) (fun y_ y_ y_ y_ h => aA h) h
theorem bS9 {e : Expr} {c : List (Option Expr) × List Expr} (h : bH3 e = some c) : ∃ pos, e = .Dict c.1 c.2 pos := bH2 h
noncomputable def dA5 (c : Expr × Expr) (e : Expr) : Prop := ∃ pos, e = .Subscript c.1 c.2 pos
theorem bR8 {e : Expr} {c : Expr × Expr} (h : bR9 e = some c) : dA5 c e :=
 Expr.casesOn (motive_1 := fun e => bR9 e = some c -> dA5 c e) e (fun y_ y_ y_ h => aA h) (fun y_ y_ y_ h => aA h) (fun y_ y_ y_ y_ h => aA h) (fun y_ y_ y_ h => aA h) (fun y_ y_ y_ y_ h => aA h) (fun y_ y_ y_ y_ h => aA h) (fun y_ y_ y_ h => aA h) (fun y_ y_ y_ h => aA h) (fun y_ y_ y_ y_ h => aA h) (fun y_ y_ y_ y_ h => aA h) (fun y_ y_ y_ y_ y_ h => aA h) (fun y_ y_ y_ y_ h => aA h) (fun y_ y_ h => aA h) (fun y_ y_ h => aA h) (fun y_ y_ h => aA h) (fun y_ y_ y_ y_ h => aA h) (fun y_ y_ y_ y_ h => aA h) (fun y_ y_ y_ y_ h => aA h) (fun y_ y_ h => aA h) (fun y_ y_ y_ h => aA h) (fun y_ y_ y_ h => aA h) (fun y_ y_ y_ h => by cases h; exact ⟨_, rfl⟩) (fun y_ y_ h => aA h) (fun y_ y_ h => aA h) (fun y_ y_ h => aA h) (fun y_ y_ y_ h => aA h) (fun y_ y_ y_ y_ h => aA h) h
theorem aV5 {e : Expr} {c : Expr × Expr} (h : bR9 e = some c) : ∃ pos, e = .Subscript c.1 c.2 pos := bR8 h
noncomputable def bR2 (c : Option Expr × Option Expr × Option Expr) (e : Expr) : Prop := ∃ pos, e = .Slice c.1 c.2.1 c.2.2 pos
theorem bC9 {e : Expr} {c : Option Expr × Option Expr × Option Expr} (h : aQ2 e = some c) : bR2 c e :=
 Expr.casesOn (motive_1 := fun e => aQ2 e = some c -> bR2 c e) e (fun y_ y_ y_ h => aA h) (fun y_ y_ y_ h => aA h) (fun y_ y_ y_ y_ h => aA h) (fun y_ y_ y_ h => aA h) (fun y_ y_ y_ y_ h => aA h) (fun y_ y_ y_ y_ h => aA h) (fun y_ y_ y_ h => aA h) (fun y_ y_ y_ h => aA h) (fun y_ y_ y_ y_ h => aA h) (fun y_ y_ y_ y_ h => aA h) (fun y_ y_ y_ y_ y_ h => aA h) (fun y_ y_ y_ y_ h => aA h) (fun y_ y_ h => aA h) (fun y_ y_ h => aA h) (fun y_ y_ h => aA h) (fun y_ y_ y_ y_ h => aA h) (fun y_ y_ y_ y_ h => aA h) (fun y_ y_ y_ y_ h => aA h) (fun y_ y_ h => aA h) (fun y_ y_ y_ h => aA h) (fun y_ y_ y_ h => aA h) (fun y_ y_ y_ h => aA h) (fun y_ y_ h => aA h) (fun y_ y_ h => aA h) (fun y_ y_ h => aA h) (fun y_ y_ y_ h => aA h) (fun y_ y_ y_ y_ h => by cases h; exact ⟨_, rfl⟩) h
theorem bG5 {e : Expr} {c : Option Expr × Option Expr × Option Expr} (h : aQ2 e = some c) : ∃ pos, e = .Slice c.1 c.2.1 c.2.2 pos := bC9 h
noncomputable def cF5 (c : Expr × List Expr × List Keyword × Pos) (e : Expr) : Prop := e = .Call c.1 c.2.1 c.2.2.1 c.2.2.2
theorem bH7 {e : Expr} {c : Expr × List Expr × List Keyword × Pos} (h : aN0 e = some c) : cF5 c e :=
 Expr.casesOn (motive_1 := fun e => aN0 e = some c -> cF5 c e) e (fun y_ y_ y_ h => aA h) (fun y_ y_ y_ h => aA h) (fun y_ y_ y_ y_ h => aA h) (fun y_ y_ y_ h => aA h) (fun y_ y_ y_ y_ h => aA h) (fun y_ y_ y_ y_ h => aA h) (fun y_ y_ y_ h => aA h) (fun y_ y_ y_ h => aA h) (fun y_ y_ y_ y_ h => aA h) (fun y_ y_ y_ y_ h => aA h) (fun y_ y_ y_ y_ y_ h => aA h) (fun y_ y_ y_ y_ h => aA h) (fun y_ y_ h => aA h) (fun y_ y_ h => aA h) (fun y_ y_ h => aA h) (fun y_ y_ y_ y_ h => aA h) (fun y_ y_ y_ y_ h => by cases h; rfl) (fun y_ y_ y_ y_ h => aA h) (fun y_ y_ h => aA h) (fun y_ y_ y_ h => aA h) (fun y_ y_ y_ h => aA h) (fun y_ y_ y_ h => aA h) (fun y_ y_ h => aA h) (fun y_ y_ h => aA h) (fun y_ y_ h => aA h) (fun y_ y_ y_ h => aA h) (fun y_ y_ y_ y_ h => aA h) h
theorem aM9 {e : Expr} {c : Expr × List Expr × List Keyword × Pos} (h : aN0 e = some c) : e = .Call c.1 c.2.1 c.2.2.1 c.2.2.2 := bH7 h
noncomputable def cF7 (c : Expr × Str × Pos) (e : Expr) : Prop := e = .Attribute c.1 c.2.1 c.2.2
theorem bH9 {e : Expr} {c : Expr × Str × Pos} (h : aF6 e = some c) : cF7 c e :=
 Expr.casesOn (motive_1 := fun e => aF6 e = some c -> cF7 c e) e (fun y_ y_ y_ h => aA h) (fun y_ y_ y_ h => aA h) (fun y_ y_ y_ y_ h => aA h) (fun y_ y_ y_ h => aA h) (fun y_ y_ y_ y_ h => aA h) (fun y_ y_ y_ y_ h => aA h) (fun y_ y_ y_ h => aA h) (fun y_ y_ y_ h => aA h) (fun y_ y_ y_ y_ h => aA h) (fun y_ y_ y_ y_ h => aA h) (fun y_ y_ y_ y_ y_ h => aA h) (fun y_ y_ y_ y_ h => aA h) (fun y_ y_ h => aA h) (fun y_ y_ h => aA h) (fun y_ y_ h => aA h) (fun y_ y_ y_ y_ h => aA h) (fun y_ y_ y_ y_ h => aA h) (fun y_ y_ y_ y_ h => aA h) (fun y_ y_ h => aA h) (fun y_ y_ y_ h => aA h) (fun y_ y_ y_ h => by cases h; rfl) (fun y_ y_ y_ h => aA h) (fun y_ y_ h => aA h) (fun y_ y_ h => aA h) (fun y_ y_ h => aA h) (fun y_ y_ y_ h => aA h) (fun y_ y_ y_ y_ h => aA h) h
theorem aE3 {e : Expr} {c : Expr × Str × Pos} (h : aF6 e = some c) : e = .Attribute c.1 c.2.1 c.2.2 := bH9 h
noncomputable def cF4 (c : Expr × List Comprehension × Scope) (e : Expr) : Prop := ∃ pos, e = .ListComp c.1 c.2.1 c.2.2 pos
theorem bH5 {e : Expr} {c : Expr × List Comprehension × Scope} (h : aQ4 e = some c) : cF4 c e :=
 Expr.casesOn (motive_1 := fun e => aQ4 e = some c -> cF4 c e) e (fun y_ y_ y_ h => aA h) (fun y_ y_ y_ h => aA h) (fun y_ y_ y_ y_ h => aA h) (fun y_ y_ y_ h => aA h) (fun y_ y_ y_ y_ h => aA h) (fun y_ y_ y_ y_ h => aA h) (fun y_ y_ y_ h => aA h) (fun y_ y_ y_ h => aA h) (fun y_ y_ y_ y_ h => by cases h; exact ⟨_, rfl⟩) (fun y_ y_ y_ y_ h => aA h) (fun y_ y_ y_ y_ y_ h => aA h) (fun y_ y_ y_ y_ h => aA h) (fun y_ y_ h => aA h) (fun y_ y_ h => aA h) (fun y_ y_ h => aA h) (fun y_ y_ y_ y_ h => aA h) (fun y_ y_ y_ y_ h => aA h) (fun y_ y_ y_ y_ h => aA h) (fun y_ y_ h => aA h) (fun y_ y_ y_ h => aA h) (fun y_ y_ y_ h => aA h) (fun y_ y_ y_ h => aA h) (fun y_ y_ h => aA h) (fun y_ y_ h => aA h) (fun y_ y_ h => aA h) (fun y_ y_ y_ h => aA h) (fun y_ y_ y_ y_ h => aA h) h
theorem aZ2 {e : Expr} {c : Expr × List Comprehension × Scope} (h : aQ4 e = some c) : ∃ pos, e = .ListComp c.1 c.2.1 c.2.2 pos := bH5 h
theorem aM8 {α : Type} {l : List α} {x : α} (h : cA8 l = some x) : l = [x] := by
 cases l with
 | nil => exact aA h
 | cons y l => cases l with
  | nil => cases h; rfl
  | cons y_ y_ => exact aA h
theorem cG2 {α : Type} {l : List α} {x : α × α} (h : vTwo l = some x) : l = [x.1, x.2] := by
 cases l with
 | nil => exact aA h
 | cons y l => cases l with
  | nil => exact aA h
  | cons z l => cases l with
   | nil => cases h; rfl
   | cons y_ y_ => exact aA h
theorem dG {e : Expr} {c : Str × List Expr} (h : cV e = some c) : ∃ p pos, e = .Call (.Name c.1 p) c.2 [] pos := by
 unfold cV at h
 cases q : aN0 e with
 | none => rw [q] at h; exact aA h
 | some a =>
  rw [q] at h
  have h' : (if a.2.2.1.isEmpty then (bY a.1).map fun x => (x.1, a.2.1) else none) = some c := h
  by_cases k : a.2.2.1.isEmpty = true
  ·rw [if_pos k] at h'
   cases r : bY a.1 with
   | none => rw [r] at h'; exact aA h'
   | some x =>
    rw [r] at h'
    cases h'
    refine ⟨x.2, a.2.2.2, ?_⟩
    rw [aM9 q, cG r, List.isEmpty_iff.mp k]
  ·rw [if_neg k] at h'; exact aA h'
theorem bB4 {op : UnaryOp} (h : bW8 op = true) : op = .Not := by cases op <;> first | rfl | (exact aE h)
theorem aB1 {α : Type} {l : List α} (h : (!l.isEmpty) = true) : l ≠ [] := by intro q; rw [q] at h; exact aE h
theorem cX {α : Type} {l : List α} (h : l.isEmpty = true) : l = [] := List.isEmpty_iff.mp h
theorem cK9 {ks : List Str} (h : kEs ks [] = true) : ks = [] := by
 cases ks with
 | nil => rfl
 | cons k ks => exact aE h
theorem cC9 {k : Str} {o : Option Expr} (h : (o.any fun e => (aF5 e).any fun c => cL6 (.str k) c) = true) : ∃ j p, o = some (.Constant (.str k) j p) /\ PyData.strOk k = true := by
 refine aI h fun e he h => aI h fun c hc h => ?_
 obtain ⟨j, p, rfl⟩ := aQ3 hc
 cases c with
 | str y =>
  have h : (k == y && PyData.strOk k) = true := h
  have e := eq_of_beq (aB h).1
  subst e
  exact ⟨j, p, he, (aB h).2⟩
 | _ => exact aE h
theorem bW3 {ks : List Str} {keys : List (Option Expr)} {n : Nat} (h : kEs ks keys = true) (hl : keys.length = n + 1) : ∃ k ks' j p keys', ks = k :: ks' /\ keys = some (.Constant (.str k) j p) :: keys' /\ PyData.strOk k = true /\ kEs ks' keys' = true := by
 cases ks with
 | nil => rw [cX h] at hl; exact absurd hl (by simp)
 | cons k ks =>
  cases keys with
  | nil => exact aE h
  | cons o keys =>
   obtain ⟨j, p, e, ok⟩ := cC9 (aB h).1
   exact ⟨k, ks, j, p, keys, rfl, by rw [e], ok, (aB h).2⟩
theorem cD0 : ∀ {ks : List Str} {keys : List (Option Expr)}, kEs ks keys = true -> ks.length = keys.length /\ keys.all (·.isSome) = true /\ ∀ k ∈ ks, PyData.strOk k = true
 | [], keys, h => by rw [cX h]; exact ⟨rfl, rfl, fun y_ h => nomatch h⟩
 | k :: ks, [], h => aE h
 | k :: ks, o :: keys, h => by
  obtain ⟨j, p, e, ok⟩ := cC9 (aB h).1
  obtain ⟨a, b, c⟩ := cD0 (aB h).2
  refine ⟨congrArg (· + 1) a, ?_, fun x hx => ?_⟩
  ·rw [e, List.all_cons, b]; rfl
  ·rcases List.mem_cons.mp hx with q | q
   ·rw [q]; exact ok
   ·exact c x q
theorem aG9 {Γ : Cx} {es : List Expr} (h : mEs P Γ [] es = true) : es = [] := cX h
theorem bQ {Γ : Cx} {c : CE} {cs : List CE} {es : List Expr} (h : mEs P Γ (c :: cs) es = true) : ∃ e es', es = e :: es' /\ mE P Γ c e = true /\ mEs P Γ cs es' = true := by
 cases es with
 | nil => exact aE h
 | cons e es => have := aB (a := mE P Γ c e) (b := mEs P Γ cs es) h; exact ⟨e, es, rfl, this.1, this.2⟩
theorem bB0 {Γ : Cx} {es : List Expr} (h : bV8 P Γ [] es = true) : es = [] := cX h
theorem aS1 {Γ : Cx} {c : CB} {cs : List CB} {es : List Expr} (h : bV8 P Γ (c :: cs) es = true) : ∃ e es', es = e :: es' /\ mB P Γ c e = true /\ bV8 P Γ cs es' = true := by
 cases es with
 | nil => exact aE h
 | cons e es => have := aB (a := mB P Γ c e) (b := bV8 P Γ cs es) h; exact ⟨e, es, rfl, this.1, this.2⟩
theorem aZ6 {Γ : Cx} {env : Env} {k : IK} {iter : Expr} {src : List CE} (X : Fx W P A fs n F) (hsc : env.scope = Γ.sc) (h : mSrc P Γ (fun es => mEs P Γ src es) k iter = true)
  (one : ∀ e c, src = [c] -> mE P Γ c e = true -> SiE W A fs env Γ.vis (eval e env) (fun r => ev P.S F c r))
  (all : ∀ es pos, aV es = true -> mEs P Γ src es = true -> SiL W A fs env Γ.vis (spliced (backTo pos (starEach es env))) (fun r => evs P.S F src r)) :
  aI7 W A fs env Γ.vis iter (fun r => bnd (evs P.S F src r) (aB8 k)) := by
 obtain ⟨hl, h⟩ := aB h
 have hh := X.hh hl
 cases k with
 | expr =>
  have h1 : mEs P Γ src [iter] = true := h
  cases src with
  | nil => exact aE h1
  | cons c cs =>
   obtain ⟨e, es', he, hm, hr⟩ := bQ h1
   cases he
   cases cs with
   | cons c' cs => exact aE hr
   | nil =>
    have := bT8 X.gl.ok hh (one _ c rfl hm)
    intro s io m r Z
    have eq : bnd (evs P.S F [c] r) (aB8 .expr) = bnd (ev P.S F c r) dZ := by
     funext m
     show Res.bind (Res.bind (ev P.S F c r m) _) _ = Res.bind (ev P.S F c r m) _
     cases ev P.S F c r m <;> rfl
    dsimp only
    rw [eq]
    exact this s io m r Z
 | range =>
  refine aI (o := cV iter) h fun q hq h => ?_
  obtain ⟨px, pos, rfl⟩ := dG hq
  have h3 := (aB h).2
  have h12 := (aB h).1
  have h2 := (aB h12).2
  have h1 := (aB h12).1
  obtain ⟨a, b, c, d, e⟩ := aZ4 hsc h1
  exact bJ1 hh X.gl d e c a b h2 (all q.2 pos h2 h3)
 | enum => exact aE h
theorem cD6 {Γ : Cx} {ca : CE} {cops ops : List CmpOp} {cbs : List CE} {a : Expr} {bs : List Expr} {pos : Pos} (h : mE P Γ (.cmp ca cops cbs) (.Compare a ops bs pos) = true) : cops = ops /\ mE P Γ ca a = true /\ mEs P Γ cbs bs = true /\ cops.length = cbs.length /\ cbs ≠ [] /\ bs.all aO4 = true := by
 have h : (decide (cops = ops) && mE P Γ ca a && mEs P Γ cbs bs && decide (cops.length = cbs.length) && !cbs.isEmpty && bs.all aO4) = true := h
 have h5 := (aB h).2
 have h := (aB h).1
 have h4 := (aB h).2
 have h := (aB h).1
 have h3 := (aB h).2
 have h := (aB h).1
 have h2 := (aB h).2
 have h := (aB h).1
 have h1 := (aB h).2
 have h0 := (aB h).1
 exact ⟨bW h0, h1, h2, bW h3, aB1 h4, h5⟩
theorem cR0 {Γ : Cx} {c : CE} {e : Expr} (h : mB P Γ (.val c) e = true) : (aR6 e = true /\ mE P Γ c e = true) \/ ∃ a ops bs pos, e = .Compare a ops bs pos /\ mE P Γ c e = true := by
 obtain ⟨h1, h2⟩ := aB (a := aR6 e || (cA9 e).isSome) (b := mE P Γ c e) h
 cases q : aR6 e with
 | true => exact .inl ⟨rfl, h2⟩
 | false =>
  rw [q] at h1
  cases r : cA9 e with
  | none => rw [r] at h1; exact aE h1
  | some x => obtain ⟨pos, he⟩ := bH6 r; exact .inr ⟨_, _, _, _, he, h2⟩
theorem bV1 {c : CE} (h : bD6 c = true) : (fun r => ev P.S F c r) = fun y_ => ret V.none := by
 cases c with
 | cnst v => cases v <;> first | rfl | (exact aE h)
 | _ => exact aE h
theorem o_of {Γ : Cx} {env : Env} {c : CE} {o : Option Expr} (h : o.elim (bD6 c) (fun l => mE P Γ c l) = true) (k : ∀ l, mE P Γ c l = true -> SiE W A fs env Γ.vis (eval l env) (fun r => ev P.S F c r)) : SiO W A fs env Γ.vis o (fun r => ev P.S F c r) := by
 cases o with
 | some l => exact cU1 (k l h)
 | none =>
  have hc : bD6 c = true := h
  have : (fun r => ev P.S F c r) = fun y_ => ret V.none := by
   exact bV1 hc
  rw [this]
  exact cU2
theorem e_loc {Γ : Cx} {env : Env} {i : Nat} {x : Str} {pos : Pos} (hsc : env.scope = Γ.sc) (h : cV7 Γ i x = true) : SiE W A fs env Γ.vis (eval (.Name x pos) env) (fun r => match r[i]? with | some (some v) => ret v | _ => bad) := by
 have h4 := (aB h).2
 have h := (aB h).1
 have h3 := (aB h).2
 have h := (aB h).1
 have h2 := (aB h).2
 have h1 := (aB h).1
 refine e_var ?_ ?_ (Bool.not_eq_true' _ ▸ h3) (Bool.not_eq_true' _ ▸ h4)
 ·exact eq_of_beq h1
 ·show env.scope.names.lookup x = _ \/ env.scope.names.lookup x = _ \/ env.scope.names.lookup x = _
  rw [hsc]
  rcases Bool.or_eq_true_iff.mp h2 with q | q
  ·rcases Bool.or_eq_true_iff.mp q with q | q
   ·exact .inl (eq_of_beq q)
   ·exact .inr (.inl (eq_of_beq q))
  ·exact .inr (.inr (eq_of_beq q))
theorem e_bi {Γ : Cx} {env : Env} {b : Bi} {x : Str} {es : List Expr} {p pos : Pos} {cl : Lo -> Mn (List V)} (X : Fx W P A fs n F) (hsc : env.scope = Γ.sc) (hl0 : P.loud = true) (h1 : cP8 b = true) (h2 : isBi P Γ b x = true) (h3 : aV es = true)
  (hl : ∀ pos, SiL W A fs env Γ.vis (spliced (backTo pos (starEach es env))) cl) : SiE W A fs env Γ.vis (eval (.Call (.Name x p) es [] pos) env) (fun r => bnd (cl r) fun vs => biV b vs) := by
 have hf := cZ1 (W := W) (A := A) (fs := fs) X.gl.ok (X.hh hl0) h1
 have h2 : (match cZ2 b with | .builtin id => bW9 P Γ x id | .type id => aX8 P Γ x id | _ => false) = true := h2
 generalize cZ2 b = fv at hf h2
 cases fv with
 | builtin id =>
  have g := cD8 hsc (id := id) h2
  exact cO0 X.gl g.2.2.2.1 g.2.2.2.2 g.2.2.1 g.1 g.2.1 h3 (hl _) hf
 | type id =>
  have g := aZ4 hsc (id := id) h2
  exact cN8 X.gl g.2.2.2.1 g.2.2.2.2 g.2.2.1 g.1 g.2.1 h3 (hl _) hf
 | _ => exact aE h2
theorem cQ9 {v : Value} {l : Lt} {h : Heap} {io : Io} (k : cV5 v l = true) : VR W h io l.val v := by
 cases l with
 | int i => cases v <;> first | (exact aE k) | (rw [show i = _ from eq_of_beq k]; exact .int _ _)
 | str x => cases v <;> first | (exact aE k) | (obtain ⟨k1, k2⟩ := aB k; rw [show x = _ from eq_of_beq k1] at k2 ⊢; exact .str _ _ k2)
 | bool b => cases v <;> first | (exact aE k) | (rw [show b = _ from eq_of_beq k]; exact .bool _)
 | none => cases v <;> first | (exact aE k) | exact .none
theorem cX9 {Γ : Cx} {env : Env} {i : Nat} {x : Str} {pos : Pos} (X : Fx W P A fs n F) (hsc : env.scope = Γ.sc) (h : cV9 P Γ i x = true) : SiE W A fs env Γ.vis (eval (.Name x pos) env) (fun r => ev P.S F (.glob i) r) := by
 have h2 := (aB h).2
 have h1 := (aB h).1
 obtain ⟨a, b, y_⟩ := aS8 hsc h1
 refine aI h2 fun o e1 h3 => ?_
 refine aI h3 fun v e2 h4 => ?_
 refine aI h4 fun p e3 h5 => ?_
 rw [e2] at e1
 intro s io m r Z hne
 refine aL5 X.gl Z e1 a b ⟨p.2.val, m, io, ?_, .refl, Z.H, cQ9 h5, .refl _⟩
 show (match P.S.globs[i]? with | some p => ret p.2.val | Option.none => bad) m = _
 rw [e3]; rfl
theorem bI2 {ops : List CmpOp} {c c' : CE} {cs : List CE} (h : ops.length = (c :: c' :: cs).length) : ∃ op op' ops', ops = op :: op' :: ops' := by
 cases ops with
 | nil => exact bL8 h
 | cons op ops => cases ops with
  | nil => exact bL8 (Nat.succ.inj h)
  | cons op' ops => exact ⟨op, op', ops, rfl⟩
theorem cD3 {g : Comprehension} {x : Str × Pos} (hx : bY g.target = some x) (h0 : (g.is_async == 0) = true) : g = ⟨.Name x.1 x.2, g.iter, g.ifs, 0⟩ := by
 cases g
 rw [<- cG hx, <- beq_iff_eq.mp h0]
theorem bY9 {Γ : Cx} {env : Env} {e0 iter : Expr} {ifs' : List Expr} {scope : Scope} {px pos : Pos} {x : Str} {src : List CE} {k : IK} {ifs : List CB} {elt : CE} (ck : CompOk scope env Γ.vis (aN5 scope x Γ.vis) 1) (hs : ∀ y, foldedSetIterable iter env y = Pure.pure y)
  (hsrc : aI7 W A fs env Γ.vis iter (fun r => bnd (evs P.S F src r) (aB8 k))) (hifs : ∀ cl C, SiB W A fs (compEnvC scope cl C env) (aN5 scope x Γ.vis) (aA5 ifs' (compEnvC scope cl C env) true) (fun r => bF5 P.S F ifs r))
  (helt : ∀ cl C, SiE W A fs (compEnvC scope cl C env) (aN5 scope x Γ.vis) (eval e0 (compEnvC scope cl C env)) (fun r => ev P.S F elt r)) :
  SiE W A fs env Γ.vis (eval (.ListComp e0 [⟨.Name x px, iter, ifs', 0⟩] scope pos) env) (fun r => ev P.S F (.comp elt (.one Γ.vis.length) 1 k src ifs) r) := by
 have := cY0 (pos := pos) (px := px) (j := Γ.vis.length) ck hs (aG3 scope x Γ.vis) (Nat.le_refl _) hsrc hifs helt
 intro s io m r Z
 have eq : ev P.S F (.comp elt (.one Γ.vis.length) 1 k src ifs) r = bnd (bnd (evs P.S F src r) (aB8 k)) fun p => bnd (aY p.2 (eD Γ.vis.length (r ++ List.replicate 1 none) (fun r => bF5 P.S F ifs r) (fun r => ev P.S F elt r)) p.1) fun l => if l.length <= lid then alloc (.list l) else bad := by
  rw [bO]; rfl
 dsimp only
 rw [eq]
 exact this s io m r Z
theorem cL3 (X : Fx W P A fs n F) {Γ : Cx} {env : Env} {x y : Str} {a : Expr} {pos px py : Pos} {t : Ty} {ca : Lo -> Mn V} (hsc : env.scope = Γ.sc) (e1 : nsIn P.K mainGlobals x = some none) (b1 : bootBuiltins x = some (.builtin "isinstance")) (n1 : (x == ("__name__" : Str)) = false) (k1 : env.kindOf x = some .globalImplicit) (d1 : (x == ("__debug__" : Str)) = false)
  (ht : isTy P Γ t y = true) (hs : aV [a] = true) (ha : SiE W A fs env Γ.vis (eval a env) ca) : SiE W A fs env Γ.vis (eval (.Call (.Name x px) [a, .Name y py] [] pos) env) (fun r => bnd (ca r) fun v => bnd (eN P.S v t) fun b => ret (.bool b)) := by
 rw [<- X.S]
 have plain : aX8 P Γ y (dH t) = true -> (!(dH t == "")) = true -> SiE W A fs env Γ.vis (eval (.Call (.Name x px) [a, .Name y py] [] pos) env) (fun r => bnd (ca r) fun v => bnd (eN W.S v t) fun b => ret (.bool b)) := fun h2 h3 => by
  obtain ⟨a2, b2, c2, d2, e2⟩ := aZ4 hsc h2
  exact cN5 X.gl e1 b1 n1 k1 d1 (fun Z q => aL6 X.gl Z d2 e2 c2 a2 b2 q) (fun H k => cL1 H (ty_of h3) k) hs ha
 cases t with
 | cls c =>
  have h2 := (aB ht).2
  have h1 := (aB ht).1
  have rel : ∀ d x, W.S.cls[d]? = some x -> x.exc = true -> eP P.K (W.ca d) = true /\ kitOne P.K (.ref (W.ca d)) (clsV P c) = some (x.supers.contains c) := fun d x hd hx => by
   rw [X.S] at hd
   have := aC4 h2 hd
   rw [Nat.zero_add] at this
   have this : (!x.exc || (eP P.K (P.ca d) && kitOne P.K (.ref (P.ca d)) (clsV P c) == some (x.supers.contains c))) = true := this
   rw [hx] at this
   obtain ⟨q1, q2⟩ := aB (a := eP P.K (P.ca d)) (b := kitOne P.K (.ref (P.ca d)) (clsV P c) == some (x.supers.contains c)) this
   rw [X.ca]
   exact ⟨q1, beq_iff_eq.mp q2⟩
  cases c with
  | zero =>
   obtain ⟨a2, b2, c2, d2, e2⟩ := aZ4 hsc (id := "ValueError") h1
   exact cN5 X.gl e1 b1 n1 k1 d1 (fun Z q => aL6 X.gl Z d2 e2 c2 a2 b2 q) (fun H k => bN5 X.gl.X rel H k) hs ha
  | succ c =>
   obtain ⟨a2, b2, e2⟩ := bA5 hsc (c := c + 1) h1
   exact cN5 X.gl e1 b1 n1 k1 d1 (fun Z q => aL5 X.gl Z e2 a2 b2 q) (fun H k => bN5 X.gl.X rel H k) hs ha
 | _ => exact plain (aB ht).1 (aB ht).2
theorem cJ9 (X : Fx W P A fs n F) {Γ : Cx} {env : Env} {c : Nat} {x : Str} {es : List Expr} {p pos : Pos} {cl : Lo -> Mn (List V)} (hsc : env.scope = Γ.sc) (h1 : P.ok.isNone = true) (h2 : aS6 P Γ c x = true) (h3 : bV2 P c = true) (h4 : aV es = true) (hl : SiL W A fs env Γ.vis (spliced (backTo pos (starEach es env))) cl) :
  SiE W A fs env Γ.vis (eval (.Call (.Name x p) es [] pos) env) (fun r => bnd (cl r) fun vs => cK0 P.S F c vs) := by
 obtain ⟨D, N, mN, k0, C, c1, c2, c3, c4, c5, c6⟩ := cY5 X h3
 obtain ⟨a, b, e⟩ := bA5 hsc h2
 have := e_new (F := F) (p := p) X.gl (X.ca.symm ▸ e) a b h4 C c1 c3 c4 c5 c6 (X.new (Option.isNone_iff_eq_none.mp h1) k0 c2) hl
 rw [X.S] at this
 exact this
theorem bV6 (X : Fx W P A fs n F) {Γ : Cx} {env : Env} {k : Nat} {o : Expr} {x : Str} {es : List Expr} {apos pos : Pos} {co : Lo -> Mn V} {cl : Lo -> Mn (List V)} (h1 : P.ok.isNone = true) (h2 : bN7 P k x = true) (h3 : eK o = true) (h4 : aV es = true) (h5 : es.length < 29) (h6 : (apos.endLine == pos.line) = true) (ho : SiE W A fs env Γ.vis (eval o env) co) (hl : SiL W A fs env Γ.vis (spliced (backTo pos (starEach es env))) cl) :
  SiE W A fs env Γ.vis (eval (.Call (.Attribute o x apos) es [] pos) env) (fun r => bnd (co r) fun v => bnd (fD P.S k v) fun j => bnd (cl r) fun vs => F j (v :: vs)) := by
 have hn := Option.isNone_iff_eq_none.mp h1
 have := cX7 (F := F) (apos := apos) X.gl h3 h4 h5 h6 (X.S.symm ▸ cE3 h2) (fun j hj => X.fa.symm ▸ X.objs hn j (X.S ▸ hj)) (fun j y_ => X.calls j (by unfold Px.can; rw [hn])) ho hl
 rw [X.S] at this
 exact this
mutual
theorem evE (X : Fx W P A fs n F) : ∀ (c : CE) (Γ : Cx) (env : Env) (e : Expr), env.scope = Γ.sc -> mE P Γ c e = true -> SiE W A fs env Γ.vis (eval e env) (fun r => ev P.S F c r)
 | .cnst v, Γ, env, e, hsc, h => by
  refine aI (o := aF5 e) h fun q hq h => ?_
  obtain ⟨y_, y_, rfl⟩ := aQ3 hq
  exact bP4 (by cases v <;> cases q <;> exact h)
 | .var i, Γ, env, e, hsc, h => by
  refine aI (o := bY e) h fun q hq h => ?_
  rw [cG hq]
  exact e_loc hsc h
 | .glob i, Γ, env, e, hsc, h => by
  refine aI (o := bY e) h fun q hq h => ?_
  rw [cG hq]
  exact cX9 X hsc h
 | .fnv _, _, _, _, _, h => aE h
 | .bin op a b, Γ, env, e, hsc, h => by
  refine aI (o := cR3 e) h fun q hq h => ?_
  obtain ⟨y_, rfl⟩ := cG7 hq
  have h2 := (aB h).2
  have h := (aB h).1
  have h1 := (aB h).2
  have h0 := (aB h).1
  rw [<- bW h0]
  exact e_bin (evE X a Γ env _ hsc h1) (evE X b Γ env _ hsc h2)
 | .neg _, _, _, _, _, h => aE h
 | .not a, Γ, env, e, hsc, h => by
  refine aI (o := vUn e) h fun q hq h => ?_
  obtain ⟨y_, rfl⟩ := cA7 hq
  have h1 := (aB h).2
  have h0 := (aB h).1
  rw [bB4 h0]
  exact e_not (evE X a Γ env _ hsc h1)
 | .boolop c as, Γ, env, e, hsc, h => by
  refine aI (o := aV7 e) h fun q hq h => ?_
  obtain ⟨y_, rfl⟩ := aZ3 hq
  have h3 := (aB h).2
  have h := (aB h).1
  have h2 := (aB h).2
  have h1 := (aB h).1
  exact evBo X as Γ env _ _ _ _ hsc h1 h2 (aB1 h3)
 | .cmp a ops bs, Γ, env, e, hsc, h => by
  have h0 := h
  refine aI (o := cA9 e) h fun q hq y_ => ?_
  obtain ⟨pos, rfl⟩ := bH6 hq
  obtain ⟨h0, h1, h2, h3, h4, h5⟩ := cD6 h0
  rw [<- h0]
  exact e_cmp (evE X a Γ env _ hsc h1) (evCm X bs Γ env _ _ _ hsc h3 h4 h2 h5)
 | .ite _ _ _, _, _, _, _, h => aE h
 | .tup as, Γ, env, e, hsc, h => by
  refine aI (o := bG4 e) h fun q hq h => ?_
  obtain ⟨y_, y_, rfl⟩ := aV4 hq
  have h3 := (aB h).2
  have h := (aB h).1
  have h2 := (aB h).2
  have h1 := (aB h).1
  exact e_tup (evL X as Γ env _ _ hsc h2 h1) fun r m vs m' q => by rw [aY5 q]; exact Nat.le_trans (bW h3) (by decide)
 | .list as, Γ, env, e, hsc, h => by
  refine aI (o := bG9 e) h fun q hq h => ?_
  obtain ⟨y_, rfl⟩ := bS4 hq
  have h3 := (aB h).2
  have h := (aB h).1
  have h2 := (aB h).2
  have h1 := (aB h).1
  exact cX8 (evL X as Γ env _ _ hsc h2 h1) fun r m vs m' q => by rw [aY5 q]; exact Nat.le_trans (bW h3) (by decide)
 | .dict ks vs, Γ, env, e, hsc, h => by
  refine aI (o := bH3 e) h fun q hq h => ?_
  obtain ⟨y_, rfl⟩ := bS9 hq
  cases ks with
  | nil =>
   have h : (vs.isEmpty && q.1.isEmpty && q.2.isEmpty) = true := h
   rw [cX (aB (aB h).1).1, cX (aB (aB h).1).2, cX (aB h).2]
   exact cN7
  | cons k ks =>
   have h : (kEs (k :: ks) q.1 && decide ((k :: ks).length <= 15) && decide (k :: ks).Nodup && decide (q.1.length = q.2.length) && mEs P Γ vs q.2) = true := h
   have h5 := (aB h).2
   have h := (aB h).1
   have h4 := bW (aB h).2
   have h := (aB h).1
   have h3 := bW (aB h).2
   have h := (aB h).1
   have h2 := bW (aB h).2
   have h1 := (aB h).1
   have hk := cD0 h1
   exact cN6 hk.2.1 h4 (fun c => by rw [c] at h1; exact aE h1) (hk.1 ▸ h2) h2 h3 hk.2.2 (evPr X vs Γ env (k :: ks) q.1 q.2 _ hsc h1 h4 h5)
 | .idx a i, Γ, env, e, hsc, h => by
  refine aI (o := bR9 e) h fun q hq h => ?_
  obtain ⟨y_, rfl⟩ := aV5 hq
  have h2 := (aB h).2
  have h := (aB h).1
  have h1 := (aB h).2
  exact e_idx X.R (evE X a Γ env _ hsc h1) (evE X i Γ env _ hsc h2)
 | .slice a lo hi st, Γ, env, e, hsc, h => by
  refine aI (o := bR9 e) h fun q hq h => ?_
  obtain ⟨y_, rfl⟩ := aV5 hq
  obtain ⟨h1, h⟩ := aB h
  refine aI (o := aQ2 q.2) h fun t ht h => ?_
  obtain ⟨y_, he⟩ := bG5 ht
  rw [he]
  have h4 := (aB h).2
  have h := (aB h).1
  have h3 := (aB h).2
  have h2 := (aB h).1
  exact cN4 (evE X a Γ env _ hsc h1) (o_of h2 fun l hl => evE X lo Γ env l hsc hl) (o_of h3 fun l hl => evE X hi Γ env l hsc hl) (o_of h4 fun l hl => evE X st Γ env l hsc hl)
 | .attr a k, Γ, env, e, hsc, h => by
  refine aI (o := aF6 e) h fun q hq h => ?_
  rw [aE3 hq]
  have h3 := (aB h).2
  have h := (aB h).1
  have h2 := (aB h).2
  have h1 := (aB h).1
  obtain ⟨hx, hf⟩ := cD4 h2
  exact cY1 h1 (X.S.symm ▸ hx) (X.S.symm ▸ hf) (evE X a Γ env _ hsc h3)
 | .call k as, Γ, env, e, hsc, h => by
  refine aI (o := cV e) h fun q hq h => ?_
  obtain ⟨y_, y_, rfl⟩ := dG hq
  have h3 := (aB h).2
  have h := (aB h).1
  have h2 := (aB h).2
  have h1 := (aB h).1
  obtain ⟨h0, a, b, c, o, fd, d, e⟩ := cW2 hsc h1
  exact cN9 X.gl c d e a b h2 (evL X as Γ env _ _ hsc h2 h3) (X.fa ▸ X.calls k h0)
 | .callv _ _, _, _, _, _, h => aE h
 | .new c as, Γ, env, e, hsc, h => by
  refine aI (o := cV e) h fun q hq h => ?_
  obtain ⟨y_, y_, rfl⟩ := dG hq
  have h5 := (aB h).2
  have h := (aB h).1
  have h4 := (aB h).2
  have h := (aB h).1
  have h3 := (aB h).2
  have h := (aB h).1
  have h2 := (aB h).2
  have h1 := (aB h).1
  exact cJ9 X hsc h1 h2 h3 h4 (evL X as Γ env _ _ hsc h4 h5)
 | .meth o k as, Γ, env, e, hsc, h => by
  refine aI (o := aN0 e) h fun q hq h => ?_
  rw [aM9 hq]
  refine aI (o := aF6 q.1) h fun t ht h => ?_
  rw [aE3 ht]
  have h9 := (aB h).2
  have h := (aB h).1
  have h8 := (aB h).2
  have h := (aB h).1
  have h7 := (aB h).2
  have h := (aB h).1
  have h6 := (aB h).2
  have h := (aB h).1
  have h5 := (aB h).2
  have h := (aB h).1
  have h4 := (aB h).2
  have h := (aB h).1
  have h3 := (aB h).2
  have h := (aB h).1
  have h2 := (aB h).2
  have h1 := (aB h).1
  rw [cX h7]
  exact bV6 X h1 h2 h3 h4 (bW h5) h6 (evE X o Γ env _ hsc h8) (evL X as Γ env _ _ hsc h4 h9)
 | .smeth o sm as, Γ, env, e, hsc, h => by
  refine aI (o := aN0 e) h fun q hq h => ?_
  rw [aM9 hq]
  refine aI (o := aF6 q.1) h fun t ht h => ?_
  rw [aE3 ht]
  have h8 := (aB h).2
  have h := (aB h).1
  have h7 := (aB h).2
  have h := (aB h).1
  have h6 := (aB h).2
  have h := (aB h).1
  have h5 := (aB h).2
  have h := (aB h).1
  have h4 := (aB h).2
  have h := (aB h).1
  have h3 := (aB h).2
  have h := (aB h).1
  have h2 := (aB h).2
  have h1 := (aB h).1
  rw [beq_iff_eq.mp h1, cX h6]
  exact cN3 h2 h3 (bW h4) h5 (evE X o Γ env _ hsc h7) (evL X as Γ env _ _ hsc h3 h8)
 | .bi b as, Γ, env, e, hsc, h => by
  refine aI (o := cV e) h fun q hq h => ?_
  obtain ⟨y_, y_, rfl⟩ := dG hq
  have hz := (aB h).2
  have h0 := (aB h).1
  have h4 := (aB hz).2
  have h := (aB hz).1
  have h3 := (aB h).2
  have h := (aB h).1
  have h2 := (aB h).2
  have h1 := (aB h).1
  exact e_bi X hsc h0 h1 h2 h3 (fun pos => evL X as Γ env q.2 pos hsc h3 h4)
 | .listrange _, _, _, _, _, h => aE h
 | .isi a t, Γ, env, e, hsc, h => by
  refine aI (o := cV e) h fun q hq h => ?_
  obtain ⟨px, pos, rfl⟩ := dG hq
  refine aI (o := vTwo q.2) h fun p hp h => ?_
  rw [cG2 hp]
  refine aI (o := bY p.2) h fun y hy h => ?_
  rw [cG hy]
  have h5 := (aB h).2
  have h := (aB h).1
  have h4 := (aB h).2
  have h := (aB h).1
  have h2 := (aB h).2
  have h1 := (aB h).1
  obtain ⟨a1, b1, c1, d1, e1⟩ := cD8 hsc h1
  exact cL3 X hsc (px := px) (pos := pos) d1 e1 c1 a1 b1 h2 h4 (evE X a Γ env _ hsc h5)
 | .comp elt t nl k src ifs, Γ, env, e, hsc, h => by
  refine aI (o := aQ4 e) h fun q hq h => ?_
  obtain ⟨pos, rfl⟩ := aZ2 hq
  refine aI (o := cA8 q.2.1) h fun g hg h => ?_
  rw [aM8 hg]
  refine aI (o := bY g.target) h fun x hx h => ?_
  have h5 := (aB h).2
  have h := (aB h).1
  have h4 := (aB h).2
  have h := (aB h).1
  have h3 := (aB h).2
  have h := (aB h).1
  have h2 := (aB h).2
  have h := (aB h).1
  have h1 := (aB h).2
  have h := (aB h).1
  have h0 := (aB h).2
  have h := (aB h).1
  have hnl := (aB h).2
  have ht := (aB h).1
  rw [bW ht, bW hnl, cD3 hx h0]
  exact bY9 (aU3 hsc h1) (aZ8 h2) (aZ6 X hsc h3 (fun e c hc he => bY4 X src Γ env e hsc c hc he) (fun es pos hs he => evL X src Γ env es pos hsc hs he))
   (fun cl C => cN2 X ifs (aM3 q.2.2 x.1 Γ) _ g.ifs (aE8 hsc) h4) (fun cl C => evE X elt (aM3 q.2.2 x.1 Γ) _ q.1 (aE8 hsc) h5)
theorem bY4 (X : Fx W P A fs n F) : ∀ (cs : List CE) (Γ : Cx) (env : Env) (e : Expr), env.scope = Γ.sc -> ∀ c, cs = [c] -> mE P Γ c e = true -> SiE W A fs env Γ.vis (eval e env) (fun r => ev P.S F c r)
 | [], Γ, env, e, hsc, c', hc, h => cJ7 hc
 | c :: cs, Γ, env, e, hsc, c', hc, h => by
  have hc1 : c' = c := by injection hc with a; exact a.symm
  rw [hc1] at h ⊢
  exact evE X c Γ env e hsc h
theorem evPr (X : Fx W P A fs n F) : ∀ (cs : List CE) (Γ : Cx) (env : Env) (ks : List Str) (keys : List (Option Expr)) (es : List Expr) (pos : Pos), env.scope = Γ.sc -> kEs ks keys = true -> keys.length = es.length -> mEs P Γ cs es = true -> SiP W A fs env Γ.vis ks (evalPairs (pairTrees keys es env pos)) (fun r => evs P.S F cs r)
 | [], Γ, env, ks, keys, es, pos, hsc, hk, hl, h => by
  rw [aG9 h] at hl ⊢
  have e1 := List.length_eq_zero_iff.mp hl
  rw [e1] at hk ⊢
  rw [cK9 hk]
  exact p_nil
 | c :: cs, Γ, env, ks, keys, es, pos, hsc, hk, hl, h => by
  obtain ⟨e, es', he, h1, h2⟩ := bQ h
  rw [he] at hl ⊢
  obtain ⟨k, ks', j, p, keys', e1, e2, ok, hk'⟩ := bW3 hk hl
  rw [e2] at hl
  rw [e1, e2]
  exact cT8 ok (evE X c Γ env _ hsc h1) (evPr X cs Γ env ks' keys' es' pos hsc hk' (Nat.succ.inj hl) h2)
theorem evL (X : Fx W P A fs n F) : ∀ (cs : List CE) (Γ : Cx) (env : Env) (es : List Expr) (pos : Pos), env.scope = Γ.sc -> aV es = true -> mEs P Γ cs es = true -> SiL W A fs env Γ.vis (spliced (backTo pos (starEach es env))) (fun r => evs P.S F cs r)
 | [], Γ, env, es, pos, hsc, hs, h => by
  rw [aG9 h]
  exact l_nil
 | c :: cs, Γ, env, es, pos, hsc, hs, h => by
  obtain ⟨e, es', he, h1, h2⟩ := bQ h
  rw [he] at hs ⊢
  exact cV0 (evE X c Γ env _ hsc h1) (evL X cs Γ env _ _ hsc (fR hs) h2) (eE hs)
theorem evBo (X : Fx W P A fs n F) : ∀ (cs : List CE) (Γ : Cx) (env : Env) (es : List Expr) (pos : Pos) (op : BoolOp) (b : Bool), env.scope = Γ.sc -> cV6 b op = true -> mEs P Γ cs es = true -> cs ≠ [] -> SiE W A fs env Γ.vis (boolOp pos op (evalEach es env)) (fun r => evB P.S F b cs r)
 | [], Γ, env, es, pos, op, b, hsc, ho, h, hne => absurd rfl hne
 | [c], Γ, env, es, pos, op, b, hsc, ho, h, hne => by
  obtain ⟨e, es', he, h1, h2⟩ := bQ h
  rw [he, aG9 h2]
  exact b_one (evE X c Γ env _ hsc h1)
 | c :: c' :: cs, Γ, env, es, pos, op, b, hsc, ho, h, hne => by
  obtain ⟨e, es', he, h1, h2⟩ := bQ h
  have h2' := h2
  obtain ⟨e', es'', he', y_, y_⟩ := bQ h2
  rw [he]
  rw [he'] at h2' ⊢
  exact cZ5 (cJ2 ho) (evE X c Γ env _ hsc h1) (evBo X (c' :: cs) Γ env (e' :: es'') pos op b hsc ho h2' (List.cons_ne_nil _ _))
theorem evCm (X : Fx W P A fs n F) : ∀ (cs : List CE) (Γ : Cx) (env : Env) (es : List Expr) (pos : Pos) (ops : List CmpOp), env.scope = Γ.sc -> ops.length = cs.length -> cs ≠ [] -> mEs P Γ cs es = true -> es.all aO4 = true -> SiC W A fs env Γ.vis (fun u => compareChain pos u ops (markedEach ops es (evalEach es env))) (fun x r => evC P.S F x ops cs r)
 | [], Γ, env, es, pos, ops, hsc, hl, hne, h, hs => absurd rfl hne
 | [c], Γ, env, es, pos, ops, hsc, hl, hne, h, hs => by
  obtain ⟨e, es', he, h1, h2⟩ := bQ h
  obtain ⟨op, rfl⟩ := List.length_eq_one_iff.mp hl
  rw [he, aG9 h2] at hs ⊢
  exact c_one X.gl.ok X.R (bA8 (aB hs).1) (evE X c Γ env _ hsc h1)
 | c :: c' :: cs, Γ, env, es, pos, ops, hsc, hl, hne, h, hs => by
  obtain ⟨e, es', he, h1, h2⟩ := bQ h
  have h2' := h2
  obtain ⟨e', es'', he', y_, y_⟩ := bQ h2
  rw [he] at hs ⊢
  rw [he'] at h2' hs ⊢
  obtain ⟨op, op', ops', rfl⟩ := bI2 hl
  exact cY9 X.gl.ok X.R (evE X c Γ env _ hsc h1) (evCm X (c' :: cs) Γ env (e' :: es'') pos (op' :: ops') hsc (Nat.succ.inj hl) (List.cons_ne_nil _ _) h2' (aB hs).2)
theorem evCt (X : Fx W P A fs n F) : ∀ (cs : List CE) (Γ : Cx) (env : Env) (es : List Expr) (pos : Pos) (ops : List CmpOp), env.scope = Γ.sc -> ops.length = cs.length -> cs ≠ [] -> mEs P Γ cs es = true -> es.all aO4 = true -> dA2 W A fs env Γ.vis (fun u => testChain pos u ops (markedEach ops es (evalEach es env))) (fun x r => evC P.S F x ops cs r)
 | [], Γ, env, es, pos, ops, hsc, hl, hne, h, hs => absurd rfl hne
 | [c], Γ, env, es, pos, ops, hsc, hl, hne, h, hs => by
  obtain ⟨e, es', he, h1, h2⟩ := bQ h
  obtain ⟨op, rfl⟩ := List.length_eq_one_iff.mp hl
  rw [he, aG9 h2] at hs ⊢
  exact t_one X.gl.ok X.R (bA8 (aB hs).1) (evE X c Γ env _ hsc h1)
 | c :: c' :: cs, Γ, env, es, pos, ops, hsc, hl, hne, h, hs => by
  obtain ⟨e, es', he, h1, h2⟩ := bQ h
  have h2' := h2
  obtain ⟨e', es'', he', y_, y_⟩ := bQ h2
  rw [he] at hs ⊢
  rw [he'] at h2' hs ⊢
  obtain ⟨op, op', ops', rfl⟩ := bI2 hl
  exact cR7 X.gl.ok X.R (evE X c Γ env _ hsc h1) (evCt X (c' :: cs) Γ env (e' :: es'') pos (op' :: ops') hsc (Nat.succ.inj hl) (List.cons_ne_nil _ _) h2' (aB hs).2)
theorem cX2 (X : Fx W P A fs n F) : ∀ (b : CB) (Γ : Cx) (env : Env) (e : Expr), env.scope = Γ.sc -> mB P Γ b e = true -> SiB W A fs env Γ.vis (isTrue e env (eval e env)) (fun r => evT P.S F b r)
 | .not b, Γ, env, e, hsc, h => by
  refine aI (o := vUn e) h fun q hq h => ?_
  obtain ⟨y_, rfl⟩ := cA7 hq
  have h1 := (aB h).2
  have h0 := (aB h).1
  rw [bB4 h0]
  exact t_not (cX2 X b Γ env _ hsc h1)
 | .all c bs, Γ, env, e, hsc, h => by
  refine aI (o := aV7 e) h fun q hq h => ?_
  obtain ⟨y_, rfl⟩ := aZ3 hq
  have h1 := (aB h).2
  have h0 := (aB h).1
  exact t_all (cX3 X bs Γ env _ _ _ hsc h0 h1)
 | .val c, Γ, env, e, hsc, h => by
  rcases cR0 h with ⟨hp, hm⟩ | ⟨a, ops, bs, pos, he, hm⟩
  ·exact t_val (evE X c Γ env e hsc hm) (aO2 hp)
  ·subst he
   exact evCa X c Γ env a ops bs pos hsc hm
theorem evCa (X : Fx W P A fs n F) : ∀ (c : CE) (Γ : Cx) (env : Env) (a : Expr) (ops : List CmpOp) (bs : List Expr) (pos : Pos), env.scope = Γ.sc -> mE P Γ c (.Compare a ops bs pos) = true -> SiB W A fs env Γ.vis (isTrue (.Compare a ops bs pos) env (eval (.Compare a ops bs pos) env)) (fun r => bnd (ev P.S F c r) fB)
 | .cmp ca cops cbs, Γ, env, a, ops, bs, pos, hsc, h => by
  obtain ⟨h0, h1, h2, h3, h4, h5⟩ := cD6 h
  subst h0
  exact t_cmp (W := W) (A := A) (fs := fs) (env := env) (vis := Γ.vis) (pos := pos) (a := a) (ops := cops) (bs := bs) (ca := fun r => ev P.S F ca r) (cc := fun x r => evC P.S F x cops cbs r) (evE X ca Γ env a hsc h1) (evCt X cbs Γ env bs pos cops hsc h3 h4 h2 h5)
 | .cnst _, _, _, _, _, _, _, _, h => aE h
 | .var _, _, _, _, _, _, _, _, h => aE h
 | .glob _, _, _, _, _, _, _, _, h => aE h
 | .fnv _, _, _, _, _, _, _, _, h => aE h
 | .bin _ _ _, _, _, _, _, _, _, _, h => aE h
 | .neg _, _, _, _, _, _, _, _, h => aE h
 | .not _, _, _, _, _, _, _, _, h => aE h
 | .boolop _ _, _, _, _, _, _, _, _, h => aE h
 | .ite _ _ _, _, _, _, _, _, _, _, h => aE h
 | .tup _, _, _, _, _, _, _, _, h => aE h
 | .list _, _, _, _, _, _, _, _, h => aE h
 | .dict _ _, _, _, _, _, _, _, _, h => aE h
 | .idx _ _, _, _, _, _, _, _, _, h => aE h
 | .slice _ _ _ _, _, _, _, _, _, _, _, h => aE h
 | .attr _ _, _, _, _, _, _, _, _, h => aE h
 | .call _ _, _, _, _, _, _, _, _, h => aE h
 | .callv _ _, _, _, _, _, _, _, _, h => aE h
 | .new _ _, _, _, _, _, _, _, _, h => aE h
 | .meth _ _ _, _, _, _, _, _, _, _, h => aE h
 | .smeth _ _ _, _, _, _, _, _, _, _, h => aE h
 | .bi _ _, _, _, _, _, _, _, _, h => aE h
 | .listrange _, _, _, _, _, _, _, _, h => aE h
 | .isi _ _, _, _, _, _, _, _, _, h => aE h
 | .comp _ _ _ _ _ _, _, _, _, _, _, _, _, h => aE h
theorem cX3 (X : Fx W P A fs n F) : ∀ (bs : List CB) (Γ : Cx) (env : Env) (es : List Expr) (op : BoolOp) (b : Bool), env.scope = Γ.sc -> cV6 b op = true -> bV8 P Γ bs es = true -> SiB W A fs env Γ.vis (allTrue op es env) (fun r => aT8 P.S F b bs r)
 | [], Γ, env, es, op, b, hsc, ho, h => by
  rw [bB0 h]
  exact t_nil (cJ2 ho)
 | c :: cs, Γ, env, es, op, b, hsc, ho, h => by
  obtain ⟨e, es', he, h1, h2⟩ := aS1 h
  rw [he]
  exact cR8 (cJ2 ho) (cX2 X c Γ env _ hsc h1) (cX3 X cs Γ env _ op b hsc ho h2)
theorem cN2 (X : Fx W P A fs n F) : ∀ (bs : List CB) (Γ : Cx) (env : Env) (es : List Expr), env.scope = Γ.sc -> bV8 P Γ bs es = true -> SiB W A fs env Γ.vis (aA5 es env true) (fun r => bF5 P.S F bs r)
 | [], Γ, env, es, hsc, h => by
  rw [bB0 h]
  exact cW0
 | c :: cs, Γ, env, es, hsc, h => by
  obtain ⟨e, es', he, h1, h2⟩ := aS1 h
  rw [he]
  exact cM3 (cX2 X c Γ env _ hsc h1) (cN2 X cs Γ env _ hsc h2)
end
end
end Mini
namespace Mini
open PySem PySem.W PyProof.Rows
section
variable {W : Wd} {P : Px} {fs : List Env} {A : Around} {n : Nat} {F : Fns} {env : Env}
theorem bI7 {Γ : Cx} {i : Nat} {x : Str} (hsc : env.scope = Γ.sc) (h : bE2 Γ i x = true) : Γ.vis[i]? = some (some x) /\ (env.kindOf x = some .local \/ env.kindOf x = some .cell) := by
 refine ⟨eq_of_beq (aX h).1, ?_⟩
 show env.scope.names.lookup x = _ \/ env.scope.names.lookup x = _
 rw [hsc]
 rcases Bool.or_eq_true_iff.mp (aX h).2 with q | q
 ·exact .inl (eq_of_beq q)
 ·exact .inr (eq_of_beq q)
theorem mT_of {Γ : Cx} {t : CT} {tg : Expr} (h : mT Γ t tg = true) : ∃ i x pos, t = .one i /\ tg = .Name x pos /\ bE2 Γ i x = true := by
 cases t with
 | many is => exact aE h
 | one i =>
  refine aI (o := bY tg) h fun q hq h => ?_
  exact ⟨i, q.1, q.2, rfl, cG hq, h⟩
noncomputable def dB3 (c : List Expr × Expr × Pos) (e : Stmt) : Prop := e = .Assign c.1 c.2.1 c.2.2
theorem bT4 {e : Stmt} {c : List Expr × Expr × Pos} (h : cR4 e = some c) : dB3 c e :=
 Stmt.casesOn (motive_2 := fun e => cR4 e = some c -> dB3 c e) e (fun y_ y_ y_ y_ y_ y_ y_ y_ y_ y_ h => aA h) (fun y_ y_ y_ y_ y_ y_ y_ y_ y_ y_ h => aA h) (fun y_ y_ y_ y_ y_ y_ y_ y_ y_ y_ y_ h => aA h) (fun y_ y_ h => aA h) (fun y_ y_ h => aA h) (fun y_ y_ y_ h => by cases h; rfl) (fun y_ y_ y_ y_ y_ y_ y_ h => aA h) (fun y_ y_ y_ y_ h => aA h) (fun y_ y_ y_ y_ y_ h => aA h) (fun y_ y_ y_ y_ y_ h => aA h) (fun y_ y_ y_ y_ y_ h => aA h) (fun y_ y_ y_ y_ h => aA h) (fun y_ y_ y_ y_ h => aA h) (fun y_ y_ y_ h => aA h) (fun y_ y_ y_ h => aA h) (fun y_ y_ y_ h => aA h) (fun y_ y_ y_ h => aA h) (fun y_ y_ y_ y_ y_ h => aA h) (fun y_ y_ y_ y_ y_ h => aA h) (fun y_ y_ y_ h => aA h) (fun y_ y_ h => aA h) (fun y_ y_ y_ y_ h => aA h) (fun y_ y_ h => aA h) (fun y_ y_ h => aA h) (fun y_ y_ h => aA h) (fun y_ h => aA h) (fun y_ h => aA h) (fun y_ h => aA h) h
theorem cG8 {e : Stmt} {c : List Expr × Expr × Pos} (h : cR4 e = some c) : e = .Assign c.1 c.2.1 c.2.2 := bT4 h
noncomputable def dB0 (c : Expr) (e : Stmt) : Prop := ∃ pos, e = .Expr c pos
theorem bS8 {e : Stmt} {c : Expr} (h : cP5 e = some c) : dB0 c e :=
 Stmt.casesOn (motive_2 := fun e => cP5 e = some c -> dB0 c e) e (fun y_ y_ y_ y_ y_ y_ y_ y_ y_ y_ h => aA h) (fun y_ y_ y_ y_ y_ y_ y_ y_ y_ y_ h => aA h) (fun y_ y_ y_ y_ y_ y_ y_ y_ y_ y_ y_ h => aA h) (fun y_ y_ h => aA h) (fun y_ y_ h => aA h) (fun y_ y_ y_ h => aA h) (fun y_ y_ y_ y_ y_ y_ y_ h => aA h) (fun y_ y_ y_ y_ h => aA h) (fun y_ y_ y_ y_ y_ h => aA h) (fun y_ y_ y_ y_ y_ h => aA h) (fun y_ y_ y_ y_ y_ h => aA h) (fun y_ y_ y_ y_ h => aA h) (fun y_ y_ y_ y_ h => aA h) (fun y_ y_ y_ h => aA h) (fun y_ y_ y_ h => aA h) (fun y_ y_ y_ h => aA h) (fun y_ y_ y_ h => aA h) (fun y_ y_ y_ y_ y_ h => aA h) (fun y_ y_ y_ y_ y_ h => aA h) (fun y_ y_ y_ h => aA h) (fun y_ y_ h => aA h) (fun y_ y_ y_ y_ h => aA h) (fun y_ y_ h => aA h) (fun y_ y_ h => aA h) (fun y_ y_ h => by cases h; exact ⟨_, rfl⟩) (fun y_ h => aA h) (fun y_ h => aA h) (fun y_ h => aA h) h
theorem bH1 {e : Stmt} {c : Expr} (h : cP5 e = some c) : ∃ pos, e = .Expr c pos := bS8 h
noncomputable def dA8 (c : Expr × List Stmt × List Stmt) (e : Stmt) : Prop := ∃ pos, e = .If c.1 c.2.1 c.2.2 pos
theorem bS5 {e : Stmt} {c : Expr × List Stmt × List Stmt} (h : cP4 e = some c) : dA8 c e :=
 Stmt.casesOn (motive_2 := fun e => cP4 e = some c -> dA8 c e) e (fun y_ y_ y_ y_ y_ y_ y_ y_ y_ y_ h => aA h) (fun y_ y_ y_ y_ y_ y_ y_ y_ y_ y_ h => aA h) (fun y_ y_ y_ y_ y_ y_ y_ y_ y_ y_ y_ h => aA h) (fun y_ y_ h => aA h) (fun y_ y_ h => aA h) (fun y_ y_ y_ h => aA h) (fun y_ y_ y_ y_ y_ y_ y_ h => aA h) (fun y_ y_ y_ y_ h => aA h) (fun y_ y_ y_ y_ y_ h => aA h) (fun y_ y_ y_ y_ y_ h => aA h) (fun y_ y_ y_ y_ y_ h => aA h) (fun y_ y_ y_ y_ h => aA h) (fun y_ y_ y_ y_ h => by cases h; exact ⟨_, rfl⟩) (fun y_ y_ y_ h => aA h) (fun y_ y_ y_ h => aA h) (fun y_ y_ y_ h => aA h) (fun y_ y_ y_ h => aA h) (fun y_ y_ y_ y_ y_ h => aA h) (fun y_ y_ y_ y_ y_ h => aA h) (fun y_ y_ y_ h => aA h) (fun y_ y_ h => aA h) (fun y_ y_ y_ y_ h => aA h) (fun y_ y_ h => aA h) (fun y_ y_ h => aA h) (fun y_ y_ h => aA h) (fun y_ h => aA h) (fun y_ h => aA h) (fun y_ h => aA h) h
theorem bH0 {e : Stmt} {c : Expr × List Stmt × List Stmt} (h : cP4 e = some c) : ∃ pos, e = .If c.1 c.2.1 c.2.2 pos := bS5 h
noncomputable def dA9 (c : Expr × Expr × List Stmt × List Stmt) (e : Stmt) : Prop := ∃ pos, e = .For c.1 c.2.1 c.2.2.1 c.2.2.2 pos
theorem bS7 {e : Stmt} {c : Expr × Expr × List Stmt × List Stmt} (h : cR2 e = some c) : dA9 c e :=
 Stmt.casesOn (motive_2 := fun e => cR2 e = some c -> dA9 c e) e (fun y_ y_ y_ y_ y_ y_ y_ y_ y_ y_ h => aA h) (fun y_ y_ y_ y_ y_ y_ y_ y_ y_ y_ h => aA h) (fun y_ y_ y_ y_ y_ y_ y_ y_ y_ y_ y_ h => aA h) (fun y_ y_ h => aA h) (fun y_ y_ h => aA h) (fun y_ y_ y_ h => aA h) (fun y_ y_ y_ y_ y_ y_ y_ h => aA h) (fun y_ y_ y_ y_ h => aA h) (fun y_ y_ y_ y_ y_ h => aA h) (fun y_ y_ y_ y_ y_ h => by cases h; exact ⟨_, rfl⟩) (fun y_ y_ y_ y_ y_ h => aA h) (fun y_ y_ y_ y_ h => aA h) (fun y_ y_ y_ y_ h => aA h) (fun y_ y_ y_ h => aA h) (fun y_ y_ y_ h => aA h) (fun y_ y_ y_ h => aA h) (fun y_ y_ y_ h => aA h) (fun y_ y_ y_ y_ y_ h => aA h) (fun y_ y_ y_ y_ y_ h => aA h) (fun y_ y_ y_ h => aA h) (fun y_ y_ h => aA h) (fun y_ y_ y_ y_ h => aA h) (fun y_ y_ h => aA h) (fun y_ y_ h => aA h) (fun y_ y_ h => aA h) (fun y_ h => aA h) (fun y_ h => aA h) (fun y_ h => aA h) h
theorem cG6 {e : Stmt} {c : Expr × Expr × List Stmt × List Stmt} (h : cR2 e = some c) : ∃ pos, e = .For c.1 c.2.1 c.2.2.1 c.2.2.2 pos := bS7 h
noncomputable def dA7 (c : Option Expr) (e : Stmt) : Prop := ∃ pos, e = .Return c pos
theorem bS0 {e : Stmt} {c : Option Expr} (h : bS1 e = some c) : dA7 c e :=
 Stmt.casesOn (motive_2 := fun e => bS1 e = some c -> dA7 c e) e (fun y_ y_ y_ y_ y_ y_ y_ y_ y_ y_ h => aA h) (fun y_ y_ y_ y_ y_ y_ y_ y_ y_ y_ h => aA h) (fun y_ y_ y_ y_ y_ y_ y_ y_ y_ y_ y_ h => aA h) (fun y_ y_ h => by cases h; exact ⟨_, rfl⟩) (fun y_ y_ h => aA h) (fun y_ y_ y_ h => aA h) (fun y_ y_ y_ y_ y_ y_ y_ h => aA h) (fun y_ y_ y_ y_ h => aA h) (fun y_ y_ y_ y_ y_ h => aA h) (fun y_ y_ y_ y_ y_ h => aA h) (fun y_ y_ y_ y_ y_ h => aA h) (fun y_ y_ y_ y_ h => aA h) (fun y_ y_ y_ y_ h => aA h) (fun y_ y_ y_ h => aA h) (fun y_ y_ y_ h => aA h) (fun y_ y_ y_ h => aA h) (fun y_ y_ y_ h => aA h) (fun y_ y_ y_ y_ y_ h => aA h) (fun y_ y_ y_ y_ y_ h => aA h) (fun y_ y_ y_ h => aA h) (fun y_ y_ h => aA h) (fun y_ y_ y_ y_ h => aA h) (fun y_ y_ h => aA h) (fun y_ y_ h => aA h) (fun y_ y_ h => aA h) (fun y_ h => aA h) (fun y_ h => aA h) (fun y_ h => aA h) h
theorem aV6 {e : Stmt} {c : Option Expr} (h : bS1 e = some c) : ∃ pos, e = .Return c pos := bS0 h
noncomputable def cF3 (e : Stmt) : Prop := ∃ pos, e = .Continue pos
theorem bH4 {e : Stmt} (h : bT1 e = true) : cF3 e :=
 Stmt.casesOn (motive_2 := fun e => bT1 e = true -> cF3 e) e (fun y_ y_ y_ y_ y_ y_ y_ y_ y_ y_ h => aE h) (fun y_ y_ y_ y_ y_ y_ y_ y_ y_ y_ h => aE h) (fun y_ y_ y_ y_ y_ y_ y_ y_ y_ y_ y_ h => aE h) (fun y_ y_ h => aE h) (fun y_ y_ h => aE h) (fun y_ y_ y_ h => aE h) (fun y_ y_ y_ y_ y_ y_ y_ h => aE h) (fun y_ y_ y_ y_ h => aE h) (fun y_ y_ y_ y_ y_ h => aE h) (fun y_ y_ y_ y_ y_ h => aE h) (fun y_ y_ y_ y_ y_ h => aE h) (fun y_ y_ y_ y_ h => aE h) (fun y_ y_ y_ y_ h => aE h) (fun y_ y_ y_ h => aE h) (fun y_ y_ y_ h => aE h) (fun y_ y_ y_ h => aE h) (fun y_ y_ y_ h => aE h) (fun y_ y_ y_ y_ y_ h => aE h) (fun y_ y_ y_ y_ y_ h => aE h) (fun y_ y_ y_ h => aE h) (fun y_ y_ h => aE h) (fun y_ y_ y_ y_ h => aE h) (fun y_ y_ h => aE h) (fun y_ y_ h => aE h) (fun y_ y_ h => aE h) (fun y_ h => aE h) (fun y_ h => aE h) (fun y_ h => by exact ⟨_, rfl⟩) h
theorem bT0 {e : Stmt} (h : bT1 e = true) : ∃ pos, e = .Continue pos := bH4 h
noncomputable def cF0 (e : Stmt) : Prop := ∃ pos, e = .Pass pos
theorem bG6 {e : Stmt} (h : bS3 e = true) : cF0 e :=
 Stmt.casesOn (motive_2 := fun e => bS3 e = true -> cF0 e) e (fun y_ y_ y_ y_ y_ y_ y_ y_ y_ y_ h => aE h) (fun y_ y_ y_ y_ y_ y_ y_ y_ y_ y_ h => aE h) (fun y_ y_ y_ y_ y_ y_ y_ y_ y_ y_ y_ h => aE h) (fun y_ y_ h => aE h) (fun y_ y_ h => aE h) (fun y_ y_ y_ h => aE h) (fun y_ y_ y_ y_ y_ y_ y_ h => aE h) (fun y_ y_ y_ y_ h => aE h) (fun y_ y_ y_ y_ y_ h => aE h) (fun y_ y_ y_ y_ y_ h => aE h) (fun y_ y_ y_ y_ y_ h => aE h) (fun y_ y_ y_ y_ h => aE h) (fun y_ y_ y_ y_ h => aE h) (fun y_ y_ y_ h => aE h) (fun y_ y_ y_ h => aE h) (fun y_ y_ y_ h => aE h) (fun y_ y_ y_ h => aE h) (fun y_ y_ y_ y_ y_ h => aE h) (fun y_ y_ y_ y_ y_ h => aE h) (fun y_ y_ y_ h => aE h) (fun y_ y_ h => aE h) (fun y_ y_ y_ y_ h => aE h) (fun y_ y_ h => aE h) (fun y_ y_ h => aE h) (fun y_ y_ h => aE h) (fun y_ h => by exact ⟨_, rfl⟩) (fun y_ h => aE h) (fun y_ h => aE h) h
theorem bS2 {e : Stmt} (h : bS3 e = true) : ∃ pos, e = .Pass pos := bG6 h
noncomputable def dA6 (c : Option Expr × Option Expr) (e : Stmt) : Prop := ∃ pos, e = .Raise c.1 c.2 pos
theorem cG4 {e : Stmt} {c : Option Expr × Option Expr} (h : vRse e = some c) : dA6 c e :=
 Stmt.casesOn (motive_2 := fun e => vRse e = some c -> dA6 c e) e (fun y_ y_ y_ y_ y_ y_ y_ y_ y_ y_ h => aA h) (fun y_ y_ y_ y_ y_ y_ y_ y_ y_ y_ h => aA h) (fun y_ y_ y_ y_ y_ y_ y_ y_ y_ y_ y_ h => aA h) (fun y_ y_ h => aA h) (fun y_ y_ h => aA h) (fun y_ y_ y_ h => aA h) (fun y_ y_ y_ y_ y_ y_ y_ h => aA h) (fun y_ y_ y_ y_ h => aA h) (fun y_ y_ y_ y_ y_ h => aA h) (fun y_ y_ y_ y_ y_ h => aA h) (fun y_ y_ y_ y_ y_ h => aA h) (fun y_ y_ y_ y_ h => aA h) (fun y_ y_ y_ y_ h => aA h) (fun y_ y_ y_ h => aA h) (fun y_ y_ y_ h => aA h) (fun y_ y_ y_ h => aA h) (fun y_ y_ y_ h => by cases h; exact ⟨_, rfl⟩) (fun y_ y_ y_ y_ y_ h => aA h) (fun y_ y_ y_ y_ y_ h => aA h) (fun y_ y_ y_ h => aA h) (fun y_ y_ h => aA h) (fun y_ y_ y_ y_ h => aA h) (fun y_ y_ h => aA h) (fun y_ y_ h => aA h) (fun y_ y_ h => aA h) (fun y_ h => aA h) (fun y_ h => aA h) (fun y_ h => aA h) h
noncomputable def dA4 (c : List Stmt × List ExceptHandler × List Stmt × List Stmt) (e : Stmt) : Prop := ∃ pos, e = .Try c.1 c.2.1 c.2.2.1 c.2.2.2 pos
theorem cG3 {e : Stmt} {c : List Stmt × List ExceptHandler × List Stmt × List Stmt} (h : vTry e = some c) : dA4 c e :=
 Stmt.casesOn (motive_2 := fun e => vTry e = some c -> dA4 c e) e (fun y_ y_ y_ y_ y_ y_ y_ y_ y_ y_ h => aA h) (fun y_ y_ y_ y_ y_ y_ y_ y_ y_ y_ h => aA h) (fun y_ y_ y_ y_ y_ y_ y_ y_ y_ y_ y_ h => aA h) (fun y_ y_ h => aA h) (fun y_ y_ h => aA h) (fun y_ y_ y_ h => aA h) (fun y_ y_ y_ y_ y_ y_ y_ h => aA h) (fun y_ y_ y_ y_ h => aA h) (fun y_ y_ y_ y_ y_ h => aA h) (fun y_ y_ y_ y_ y_ h => aA h) (fun y_ y_ y_ y_ y_ h => aA h) (fun y_ y_ y_ y_ h => aA h) (fun y_ y_ y_ y_ h => aA h) (fun y_ y_ y_ h => aA h) (fun y_ y_ y_ h => aA h) (fun y_ y_ y_ h => aA h) (fun y_ y_ y_ h => aA h) (fun y_ y_ y_ y_ y_ h => by cases h; exact ⟨_, rfl⟩) (fun y_ y_ y_ y_ y_ h => aA h) (fun y_ y_ y_ h => aA h) (fun y_ y_ h => aA h) (fun y_ y_ y_ y_ h => aA h) (fun y_ y_ h => aA h) (fun y_ y_ h => aA h) (fun y_ y_ h => aA h) (fun y_ h => aA h) (fun y_ h => aA h) (fun y_ h => aA h) h
theorem bS6 {hd : ExceptHandler} {c : Expr × Option Str × Expr} (h : cG5 hd = some c) : ∃ rp hp, hd = .ExceptHandler (some c.1) c.2.1 [.Return (some c.2.2) rp] hp := by
 obtain ⟨ty, nm, body, hp⟩ := hd
 cases ty with
 | none => exact aA h
 | some t =>
  cases body with
  | nil => exact aA h
  | cons st rest =>
   cases rest with
   | cons y_ y_ => exact aA h
   | nil =>
    have h : ((bS1 st).bind fun o => o.map fun e => (t, nm, e)) = some c := h
    cases hr : bS1 st with
    | none => rw [hr] at h; exact aA h
    | some o =>
     rw [hr] at h
     cases o with
     | none => exact aA h
     | some e =>
      cases h
      obtain ⟨rp, rfl⟩ := aV6 hr
      exact ⟨rp, hp, rfl⟩
theorem aL3 {v : Expr} {t : Option Expr} {line : Nat} (h : aB2 v = false) : swapsWith v t line env = Pure.pure false := by
 cases v <;> first | rfl | (exact aE h.symm)
structure Cmp (W : Wd) (P : Px) (A : Around) (fs : List Env) (F : Fns) (env : Env) (Γ : Cx) (c : CE) (e0 : Expr) (gens : List Comprehension) (scope : Scope) : Prop where
 parts : ∃ elt k src ifs x px iter ifs', c = .comp elt (.one Γ.vis.length) 1 k src ifs /\ gens = [⟨.Name x px, iter, ifs', 0⟩] /\ CompOk scope env Γ.vis (aN5 scope x Γ.vis) 1 /\ (∀ y, foldedSetIterable iter env y = Pure.pure y) /\
  aI7 W A fs env Γ.vis iter (fun r => bnd (evs P.S F src r) (aB8 k)) /\ (∀ cl C, SiB W A fs (compEnvC scope cl C env) (aN5 scope x Γ.vis) (aA5 ifs' (compEnvC scope cl C env) true) (fun r => bF5 P.S F ifs r)) /\
  (∀ cl C, SiE W A fs (compEnvC scope cl C env) (aN5 scope x Γ.vis) (eval e0 (compEnvC scope cl C env)) (fun r => ev P.S F elt r)) /\ env.scope.kind = .function
theorem bQ1 (X : Fx W P A fs n F) {Γ : Cx} : ∀ {c : CE} {e0 : Expr} {gens : List Comprehension} {scope : Scope} {pos : Pos} (hsc : env.scope = Γ.sc) (h : mE P Γ c (.ListComp e0 gens scope pos) = true), Cmp W P A fs F env Γ c e0 gens scope := by
 intro c e0 gens scope pos hsc h
 cases c with
 | comp elt t nl k src ifs =>
  refine aI (o := cA8 gens) h fun g hg h => ?_
  rw [aM8 hg]
  refine aI (o := bY g.target) h fun x hx h => ?_
  have h5 := (aB h).2
  have h := (aB h).1
  have h4 := (aB h).2
  have h := (aB h).1
  have h3 := (aB h).2
  have h := (aB h).1
  have h2 := (aB h).2
  have h := (aB h).1
  have h1 := (aB h).2
  have h := (aB h).1
  have h0 := (aB h).2
  have h := (aB h).1
  have hnl := (aB h).2
  have ht := (aB h).1
  rw [bW ht, bW hnl]
  have hf : env.scope.kind = .function := by rw [hsc]; exact beq_iff_eq.mp (aB h1).2
  exact ⟨elt, k, src, ifs, x.1, x.2, g.iter, g.ifs, rfl, by rw [<- cD3 hx h0], aU3 hsc h1, aZ8 h2,
   aZ6 X hsc h3 (fun e c hc he => bY4 X src Γ env e hsc c hc he) (fun es pos hs he => evL X src Γ env es pos hsc hs he),
   fun cl C => cN2 X ifs (aM3 scope x.1 Γ) _ g.ifs (aE8 hsc) h4, fun cl C => evE X elt (aM3 scope x.1 Γ) _ e0 (aE8 hsc) h5, hf⟩
 | _ => exact aE h
theorem cO8 (X : Fx W P A (env :: fs) n F) {Γ : Cx} {t : CT} {e : CE} {tg v : Expr} {pos : Pos} (hsc : env.scope = Γ.sc) (h : (mT Γ t tg && mE P Γ e v && (bY tg).any fun y => bL7 Γ y v) = true) :
  SiS W A fs env Γ.vis (exec (.Assign [tg] v pos) env) (fun r => ex P.S F (.asg (.one t) e) r) := by
 have h3 := (aB h).2
 have h := (aB h).1
 have h2 := (aB h).2
 have h1 := (aB h).1
 obtain ⟨i, y, py, rfl, rfl, ht⟩ := mT_of h1
 obtain ⟨hv, hk⟩ := bI7 hsc ht
 have h3 : bL7 Γ (y, py) v = true := h3
 cases hc : aB2 v with
 | false => exact bF8 (evE X e Γ env v hsc h2) (aV0 hv hk) (aL3 (env := env) (line := pos.line) (t := some (.Name y py)) hc) rfl rfl
 | true =>
  have h3 : (!aB2 v || (aQ4 v).any fun q => !(Γ.sc.names.lookup y == some .local) || (py.line == v.pos.line && !(q.2.2.names.any fun (n, k) => n == y && (k == .local || k == .cell)))) = true := h3
  rw [hc] at h3
  refine aI (o := aQ4 v) h3 fun q hq h3 => ?_
  obtain ⟨cpos, rfl⟩ := aZ2 hq
  obtain ⟨elt, k, src, ifs, x, px, iter, ifs', rfl, hgen, ck, hs, hsrc, hifs, helt, hf⟩ := (bQ1 X hsc h2).parts
  cases hloc : env.kindOf y == some .local with
  | true =>
   have hl' : (Γ.sc.names.lookup y == some NameKind.local) = true := by rw [<- hsc]; exact hloc
   rw [hl'] at h3
   have h4 := (aB h3).2
   have h3 := (aB h3).1
   have hb : (env.blockKind == ScopeKind.function) = true := by
    unfold Env.blockKind; rw [hf]; rfl
   have hsw : swapsWithSole [.Name y py] (.ListComp q.1 q.2.1 q.2.2 cpos) pos.line env = Pure.pure true := by
    show (Pure.pure _ : Sem Bool) = _
    rw [hb, hloc, h3, h4]; rfl
   rw [hgen] at hsw ⊢
   have := bC6 (W := W) (A := A) (fs := fs) (env := env) (vis := Γ.vis) (pos := pos) (vis' := aN5 q.2.2 x Γ.vis) (nl := 1) (j := Γ.vis.length) (i := i) ck hs (aG3 q.2.2 x Γ.vis) (Nat.le_refl _) hsrc hifs helt hsw hv (beq_iff_eq.mp hloc)
   intro s io m r Z
   have eq : ex P.S F (.asg (.one (.one i)) (.comp elt (.one Γ.vis.length) 1 k src ifs)) r = bnd (bnd (bnd (evs P.S F src r) (aB8 k)) fun p => bnd (aY p.2 (eD Γ.vis.length (r ++ List.replicate 1 none) (fun r => bF5 P.S F ifs r) (fun r => ev P.S F elt r)) p.1) fun l => if l.length <= lid then alloc (.list l) else bad) fun v => bnd (fun m => .ok (r.set i (some v)) m) fun r' => ret (.next, r') := by
    rw [bO (evs P.S F src r)]; rfl
   dsimp only
   rw [eq]
   exact this s io m r Z
  | false =>
   have hsw : swapsWithSole [.Name y py] (.ListComp q.1 q.2.1 q.2.2 cpos) pos.line env = Pure.pure false := by
    show (Pure.pure _ : Sem Bool) = _
    rw [hloc, Bool.and_false]; rfl
   exact bF8 (evE X _ Γ env _ hsc h2) (aV0 hv hk) hsw rfl rfl
theorem bM3 {Γ : Cx} (hsc : env.scope = Γ.sc) : ∀ {is : List Nat} {es : List Expr}, mTs Γ is es = true -> Tgs env Γ.vis is es
 | [], es, h => cX h
 | i :: is, [], h => aE h
 | i :: is, e :: es, h => by
  obtain ⟨h1, h2⟩ := aB (a := (bY e).any fun (x : Str × Pos) => bE2 Γ i x.1) (b := mTs Γ is es) h
  refine aI (o := bY e) h1 fun q hq h1 => ?_
  obtain ⟨hv, hk⟩ := bI7 hsc h1
  exact ⟨q.1, q.2, es, by rw [cG hq], hv, hk, bM3 hsc h2⟩
theorem cJ6 {v : Expr} {ts : List Expr} {k : Nat} {p : Pos} (h : (bG4 v).isNone = true) : swappedStores [.Tuple ts k p] v env = Pure.pure none := by
 cases v <;> first | rfl | (exact aE h)
theorem cA2 (X : Fx W P A (env :: fs) n F) {Γ : Cx} {is : List Nat} {e : CE} {tg v : Expr} {pos : Pos} (hsc : env.scope = Γ.sc) (h : (P.loud && mTF Γ (.many is) tg && mE P Γ e v && !aB2 v && (bG4 v).isNone) = true) :
  SiS W A fs env Γ.vis (exec (.Assign [tg] v pos) env) (fun r => ex P.S F (.asg (.one (.many is)) e) r) := by
 have h5 := (aB h).2
 have h := (aB h).1
 have h4 := (aB h).2
 have h := (aB h).1
 have h3 := (aB h).2
 have h := (aB h).1
 have h2 := (aB h).2
 have h1 := (aB h).1
 refine aI (o := bG4 tg) h2 fun es hq h2 => ?_
 obtain ⟨k, pt, rfl⟩ := aV4 hq
 exact bF8 (evE X e Γ env v hsc h3) (cE7 (X.hh h1) (bM3 hsc h2)) (aL3 (env := env) (line := pos.line) (t := some (.Tuple es k pt)) ((Bool.not_eq_true' _).mp h4)) (cJ6 h5) rfl
theorem cO9 (X : Fx W P A (env :: fs) n F) {Γ : Cx} {t : CTgt} {e : CE} {tg v : Expr} {pos : Pos} (hsc : env.scope = Γ.sc) (h : mAsg P Γ t e tg v = true) :
  SiS W A fs env Γ.vis (exec (.Assign [tg] v pos) env) (fun r => ex P.S F (.asg t e) r) := by
 cases t with
 | one t =>
  cases t with
  | one i => exact cO8 X hsc h
  | many is => exact cA2 X hsc h
 | attr o k =>
  refine aI (o := aF6 tg) h fun q hq h => ?_
  rw [aE3 hq]
  have h4 := (aB h).2
  have h := (aB h).1
  have h3 := (aB h).2
  have h := (aB h).1
  have h2 := (aB h).2
  have h1 := (aB h).1
  obtain ⟨hx, hf⟩ := cD4 h1
  exact bF8 (evE X e Γ env v hsc h3) (dA1 (X.S.symm ▸ hx) (X.S.symm ▸ hf) (evE X o Γ env _ hsc h2)) (aL3 (env := env) (line := pos.line) (t := some (.Attribute q.1 q.2.1 q.2.2)) ((Bool.not_eq_true' _).mp h4)) rfl rfl
 | idx o i =>
  refine aI (o := bR9 tg) h fun q hq h => ?_
  obtain ⟨p, rfl⟩ := aV5 hq
  have h4 := (aB h).2
  have h := (aB h).1
  have h3 := (aB h).2
  have h := (aB h).1
  have h2 := (aB h).2
  have h1 := (aB h).1
  exact bF8 (evE X e Γ env v hsc h3) (a_idx X.R (evE X o Γ env _ hsc h1) (evE X i Γ env _ hsc h2)) (aL3 (env := env) (line := pos.line) (t := some (.Subscript q.1 q.2 p)) ((Bool.not_eq_true' _).mp h4)) rfl rfl
 | idx2 o i o' i' => exact aE h
theorem cM5 (hA : A.frames = some (env :: fs)) {Γ : Cx} {i : Nat} {src : List CE} {k : IK} {body : List CS} {y : Str} {py pos : Pos} {iter : Expr} {b : List Stmt} (hsrc : aI7 W A (env :: fs) env Γ.vis iter (fun r => bnd (evs P.S F src r) (aB8 k))) (hv : Γ.vis[i]? = some (some y)) (hk : env.kindOf y = some .local \/ env.kindOf y = some .cell)
  (hb : SiS W A fs env Γ.vis (execs b env) (fun r => exs P.S F body r)) (hs : ∀ x, foldedSetIterable iter env x = Pure.pure x) : SiS W A fs env Γ.vis (exec (.For (.Name y py) iter b [] pos) env) (fun r => ex P.S F (.for_ k (.one i) src body) r) := by
 have := cQ3 hA (pos := pos) (target := .Name y py) hsrc (aV0 hv hk) hb hs
 intro s io m r Z
 have eq : ex P.S F (.for_ k (.one i) src body) r = bnd (bnd (evs P.S F src r) (aB8 k)) fun p => aM1 p.2 (fun v r' => bnd (fun m => .ok (r'.set i (some v)) m) fun r'' => exs P.S F body r'') p.1 r := by
  rw [bO]; rfl
 dsimp only
 rw [eq]
 exact this s io m r Z
theorem bX6 (hA : A.frames = some (env :: fs)) (hh : A.handled = none) {Γ : Cx} {is : List Nat} {src : List CE} {k : IK} {body : List CS} {es : List Expr} {kx : Nat} {py pos : Pos} {iter : Expr} {b : List Stmt} (hsrc : aI7 W A (env :: fs) env Γ.vis iter (fun r => bnd (evs P.S F src r) (aB8 k))) (ht : Tgs env Γ.vis is es)
  (hb : SiS W A fs env Γ.vis (execs b env) (fun r => exs P.S F body r)) (hs : ∀ x, foldedSetIterable iter env x = Pure.pure x) : SiS W A fs env Γ.vis (exec (.For (.Tuple es kx py) iter b [] pos) env) (fun r => ex P.S F (.for_ k (.many is) src body) r) := by
 have := cQ3 hA (pos := pos) (target := .Tuple es kx py) hsrc (cE7 hh ht) hb hs
 intro s io m r Z
 have eq : ex P.S F (.for_ k (.many is) src body) r = bnd (bnd (evs P.S F src r) (aB8 k)) fun p => aM1 p.2 (fun v r' => bnd (aI9 (.many is) v r') fun r'' => exs P.S F body r'') p.1 r := by
  rw [bO]; rfl
 dsimp only
 rw [eq]
 exact this s io m r Z
theorem bM4 {Γ : Cx} {es : List Stmt} (h : mSs P Γ [] es = true) : es = [] := cX h
theorem bA9 {Γ : Cx} {c : CS} {cs : List CS} {es : List Stmt} (h : mSs P Γ (c :: cs) es = true) : ∃ e es', es = e :: es' /\ mS P Γ c e = true /\ mSs P Γ cs es' = true := by
 cases es with
 | nil => exact aE h
 | cons e es => have := aB (a := mS P Γ c e) (b := mSs P Γ cs es) h; exact ⟨e, es, rfl, this.1, this.2⟩
theorem cH8 (X : Fx W P A (env :: fs) n F) {Γ : Cx} {c : Nat} {msg : Str} {x : Str} {es : List Expr} {np cpos pos : Pos} (hsc : env.scope = Γ.sc) (h1 : P.loud = true) (h2 : aS6 P Γ c x = true) (h3 : excIn P.K (P.ca c) bmV "ValueError.__new__" = true) (h4 : aV es = true)
  (hl : SiL W A (env :: fs) env Γ.vis (spliced (backTo cpos (starEach es env))) (fun r => evs P.S F [.cnst (.str msg)] r)) : SiS W A fs env Γ.vis (exec (.Raise (some (.Call (.Name x np) es [] cpos)) none pos) env) (fun r => ex P.S F (.rse c msg) r) := by
 obtain ⟨a, b, e⟩ := bA5 hsc h2
 obtain ⟨mg, mb, y_, y_, y_, pp, loose, T⟩ := X.gl.top
 have := cF8 (pos := pos) (np := np) (bmB := bmV) (Bn := "ValueError") (B := "ValueError") X.gl (X.hh h1) PySem.F.excBase_ValueError rfl PySem.F.excBase_ValueError rfl T (c := c) (X.ca ▸ e) (X.ca ▸ h3) a b h4 hl (fun r m vs m' q => by cases q; exact (by decide : 1 <= lid))
 exact this
theorem cH0 (X : Fx W P A (env :: fs) n F) {Γ : Cx} {c : Nat} {ni : Option Nat} {nm : Option Str} {x : Str} {np hp rp pos : Pos} {body : List Stmt} {e : Expr} {cb : Lo -> Mn (Fl × Lo)} {ch : Lo -> Mn V} (hsc : env.scope = Γ.sc) (h1 : aS6 P Γ c x = true) (h2 : aU9 (relT P c) 0 P.S.cls = true) (h3 : okNm Γ ni nm = true)
  (hb : SiQ W A fs env Γ.vis (execs body env) cb) (he : ∀ a, SiE W (A.mark (some (.ref a))) (env :: fs) env Γ.vis (eval e env) ch) :
  SiS W A fs env Γ.vis (exec (.Try body [.ExceptHandler (some (.Name x np)) nm [.Return (some e) rp] hp] [] [] pos) env) (fun r => bI5 P.S (cb r) c ni ch r) := by
 obtain ⟨a, b, e1⟩ := bA5 hsc h1
 refine x_try X.gl X.R.frames hb he (X.ca ▸ e1) a b (fun d hd => ?_) ?_
 ·cases q : P.S.cls[d]? with
  | none => rw [q] at hd; cases hd
  | some k =>
   rw [q] at hd
   have := aC4 h2 q
   rw [Nat.zero_add] at this
   have this : (!(k.supers.contains c) || exmOne P.K (.ref (P.ca d)) (.ref (P.ca c)) == some true) = true := this
   rw [show k.supers.contains c = true from hd] at this
   rw [X.ca]; exact beq_iff_eq.mp this
 ·cases ni with
  | none => cases nm with
   | none => trivial
   | some y => exact aE h3
  | some i => cases nm with
   | none => exact aE h3
   | some y => exact aE h3
theorem Fx.quiet (X : Fx W P A fs n F) (a : Addr) : Fx W P.quiet (A.mark (some (.ref a))) fs n F where
 gl := X.gl
 R := ⟨X.R.frames, X.R.depth, X.R.units⟩
 S := X.S
 fa := X.fa
 ca := X.ca
 hh := fun h => by cases h
 calls := fun k hk => X.qcalls (A.mark (some (.ref a))) ⟨X.R.frames, X.R.depth, X.R.units⟩ k hk
 new := fun h => by cases h
 qcalls := fun y_ y_ y_ hk => by cases hk
 objs := fun h => by cases h
mutual
theorem exQ (X : Fx W P A (env :: fs) n F) : ∀ (c : CS) (Γ : Cx) (st : Stmt), env.scope = Γ.sc -> qS c = true -> mS P Γ c st = true -> SiQ W A fs env Γ.vis (exec st env) (fun r => ex P.S F c r)
 | .exp e, Γ, st, hsc, hq, h => by
  refine aI (o := cP5 st) h fun q hq h => ?_
  obtain ⟨y_, rfl⟩ := bH1 hq
  have h2 := (aB h).2
  have h1 := (aB h).1
  exact q_exp (aL3 ((Bool.not_eq_true' _).mp h2)) (evE X e Γ env _ hsc h1)
 | .ite c a b, Γ, st, hsc, hq, h => by
  have qb := (aB hq).2
  have qa := (aB hq).1
  refine aI (o := cP4 st) h fun q hq h => ?_
  obtain ⟨y_, rfl⟩ := bH0 hq
  have h3 := (aB h).2
  have h := (aB h).1
  have h2 := (aB h).2
  have h1 := (aB h).1
  exact q_if (cX2 X c Γ env _ hsc h1) (exQs X a Γ _ hsc qa h2) (exQs X b Γ _ hsc qb h3)
 | .ret e, Γ, st, hsc, hq, h => by
  refine aI (o := bS1 st) h fun q hq h => ?_
  obtain ⟨y_, rfl⟩ := aV6 hq
  refine aI (o := q) h fun v hv h => ?_
  rw [hv]
  exact q_ret (evE X e Γ env _ hsc h)
 | .asg _ _, _, _, _, hq, _ => aE hq
 | .for_ _ _ _ _, _, _, _, hq, _ => aE hq
 | .wh _ _, _, _, _, hq, _ => aE hq
 | .rse _ _, _, _, _, hq, _ => aE hq
 | .try_ _ _ _ _, _, _, _, hq, _ => aE hq
 | .cont, _, _, _, hq, _ => aE hq
 | .pass, _, _, _, hq, _ => aE hq
theorem exQs (X : Fx W P A (env :: fs) n F) : ∀ (cs : List CS) (Γ : Cx) (ss : List Stmt), env.scope = Γ.sc -> qSs cs = true -> mSs P Γ cs ss = true -> SiQ W A fs env Γ.vis (execs ss env) (fun r => exs P.S F cs r)
 | [], Γ, ss, hsc, _, h => by
  rw [bM4 h]
  exact q_nil
 | c :: cs, Γ, ss, hsc, hq, h => by
  have q2 := (aB hq).2
  have q1 := (aB hq).1
  obtain ⟨e, es', he, h1, h2⟩ := bA9 h
  rw [he]
  exact cT3 (exQ X c Γ _ hsc q1 h1) (exQs X cs Γ _ hsc q2 h2)
end
mutual
theorem exS (X : Fx W P A (env :: fs) n F) : ∀ (c : CS) (Γ : Cx) (st : Stmt), env.scope = Γ.sc -> mS P Γ c st = true -> SiS W A fs env Γ.vis (exec st env) (fun r => ex P.S F c r)
 | .asg t e, Γ, st, hsc, h => by
  refine aI (o := cR4 st) h fun q hq h => ?_
  rw [cG8 hq]
  refine aI (o := cA8 q.1) h fun tg ht h => ?_
  rw [aM8 ht]
  exact cO9 X hsc h
 | .exp e, Γ, st, hsc, h => by
  refine aI (o := cP5 st) h fun q hq h => ?_
  obtain ⟨y_, rfl⟩ := bH1 hq
  have h2 := (aB h).2
  have h1 := (aB h).1
  exact x_exp (aL3 ((Bool.not_eq_true' _).mp h2)) (evE X e Γ env _ hsc h1)
 | .ite c a b, Γ, st, hsc, h => by
  refine aI (o := cP4 st) h fun q hq h => ?_
  obtain ⟨y_, rfl⟩ := bH0 hq
  have h3 := (aB h).2
  have h := (aB h).1
  have h2 := (aB h).2
  have h1 := (aB h).1
  exact x_if (cX2 X c Γ env _ hsc h1) (cP7 X a Γ _ hsc h2) (cP7 X b Γ _ hsc h3)
 | .for_ k t src body, Γ, st, hsc, h => by
  refine aI (o := cR2 st) h fun q hq h => ?_
  obtain ⟨y_, rfl⟩ := cG6 hq
  have h4 := (aB h).2
  have h := (aB h).1
  have h3 := (aB h).2
  have h := (aB h).1
  have h2 := (aB h).2
  have h := (aB h).1
  have h1 := (aB h).2
  have h0 := (aB h).1
  rw [cX h0]
  have hl := (aB h3).1
  cases t with
  | many is =>
   refine aI (o := bG4 q.1) h1 fun es hq h1 => ?_
   obtain ⟨kx, pt, he⟩ := aV4 hq
   rw [he]
   exact bX6 X.R.frames (X.hh hl) (aZ6 X hsc h3 (fun e c hc he => bY4 X src Γ env e hsc c hc he) (fun es pos hs he => evL X src Γ env es pos hsc hs he)) (bM3 hsc h1) (cP7 X body Γ _ hsc h4) (aZ8 h2)
  | one i =>
  refine aI (o := bY q.1) h1 fun y hq ht => ?_
  obtain ⟨hv, hk⟩ := bI7 hsc ht
  rw [cG hq]
  exact cM5 X.R.frames (aZ6 X hsc h3 (fun e c hc he => bY4 X src Γ env e hsc c hc he) (fun es pos hs he => evL X src Γ env es pos hsc hs he)) hv hk (cP7 X body Γ _ hsc h4) (aZ8 h2)
 | .wh _ _, _, _, _, h => aE h
 | .ret e, Γ, st, hsc, h => by
  refine aI (o := bS1 st) h fun q hq h => ?_
  obtain ⟨y_, rfl⟩ := aV6 hq
  refine aI (o := q) h fun v hv h => ?_
  rw [hv]
  exact cQ0 (evE X e Γ env _ hsc h)
 | .rse c msg, Γ, st, hsc, h => by
  refine aI (o := vRse st) h fun q hq h => ?_
  obtain ⟨pos, rfl⟩ := cG4 hq
  obtain ⟨h0, h⟩ := aB h
  refine aI (o := q.1) h fun e he h => ?_
  refine aI (o := cV e) h fun t ht h => ?_
  obtain ⟨np, cpos, rfl⟩ := dG ht
  rw [he, Option.isNone_iff_eq_none.mp h0]
  have h5 := (aB h).2
  have h := (aB h).1
  have h4 := (aB h).2
  have h := (aB h).1
  have h3 := (aB h).2
  have h := (aB h).1
  have h2 := (aB h).2
  have h1 := (aB h).1
  exact cH8 X hsc h1 h2 h3 h4 (evL X [.cnst (.str msg)] Γ env _ _ hsc h4 h5)
 | .try_ b c ni hh, Γ, st, hsc, h => by
  refine aI (o := vTry st) h fun q hq h => ?_
  obtain ⟨pos, rfl⟩ := cG3 hq
  have hb := (aB h).2
  have h := (aB h).1
  have h2 := (aB h).2
  have h1 := (aB h).1
  refine aI (o := cA8 q.2.1) hb fun hd h3 h => ?_
  refine aI (o := cG5 hd) h fun t h4 h => ?_
  refine aI (o := bY t.1) h fun x hx h => ?_
  have k6 := (aB h).2
  have h := (aB h).1
  have k5 := (aB h).2
  have h := (aB h).1
  have k4 := (aB h).2
  have h := (aB h).1
  have k3 := (aB h).2
  have h := (aB h).1
  have k2 := (aB h).2
  have k1 := (aB h).1
  obtain ⟨rp, hp, rfl⟩ := bS6 h4
  rw [aM8 h3, cX h1, cX h2, cG hx]
  exact cH0 X hsc k1 k2 k3 (exQs X b Γ _ hsc k4 k5) (fun a => evE (X.quiet a) hh Γ env _ hsc k6)
 | .cont, Γ, st, hsc, h => by
  obtain ⟨y_, rfl⟩ := bT0 h
  exact cQ4
 | .pass, Γ, st, hsc, h => by
  obtain ⟨y_, rfl⟩ := bS2 h
  exact cQ1
theorem cP7 (X : Fx W P A (env :: fs) n F) : ∀ (cs : List CS) (Γ : Cx) (ss : List Stmt), env.scope = Γ.sc -> mSs P Γ cs ss = true -> SiS W A fs env Γ.vis (execs ss env) (fun r => exs P.S F cs r)
 | [], Γ, ss, hsc, h => by
  rw [bM4 h]
  exact cQ2
 | c :: cs, Γ, ss, hsc, h => by
  obtain ⟨e, es', he, h1, h2⟩ := bA9 h
  rw [he]
  exact cA5 (exS X c Γ _ hsc h1) (cP7 X cs Γ _ hsc h2)
end
theorem aX4 : ∀ {ds : List FnD} {j i : Nat} {d : FnD}, mFs P j ds = true -> ds[i]? = some d -> P.can (j + i) = true -> mF P (j + i) d = true
 | [], j, i, d, _, h, _ => by simp at h
 | x :: ds, j, i, d, hm, h, hk => by
  have h2 := (aB hm).2
  have h1 := (aB hm).1
  cases i with
  | zero =>
   have e : x = d := by simpa using h
   rw [e] at h1
   have h1 : (!P.can j || mF P j d) = true := h1
   rw [show P.can j = true from hk] at h1
   exact h1
  | succ i =>
   have e : j + (i + 1) = j + 1 + i := by omega
   rw [e] at hk ⊢
   exact aX4 h2 (by simpa using h) hk
set_option tactic.hygienic true in
theorem cJ4 (hck : mFs P 0 P.S.fns = true) (hn : P.ok = none) (k : Nat) (hk : k < P.S.fns.length) : ∃ o fd, P.K.lookup (P.fa k) = some o /\ o.data = .func fd /\ o.cls = .type "function" := by
 have hm := aX4 (j := 0) hck (List.getElem?_eq_getElem hk) (by unfold Px.can; rw [hn])
 rw [Nat.zero_add] at hm
 unfold mF at hm
 split at hm
 ·rename_i o ho
  split at hm
  ·rename_i fd hfd
   split at hm
   ·exact ⟨o, fd, ho, hfd, beq_iff_eq.mp (aB (aB hm).1).1⟩
   ·cases hm
  ·cases hm
 ·cases hm
theorem AR.born {A : Around} {fs : List Env} {n : Nat} (R : AR A fs (n + 1)) (env : Env) : AR (Mini.born (A.deeper env)) (env :: fs) n := by
 have Rd := R.deeper env
 refine ⟨Rd.frames, ?_, ?_⟩
 ·have := R.depth; show A.depth + 1 + 1 + 4 * n <= 900; omega
 ·have := R.units; show A.units + 3 + 1 + 40 * n + 400 <= 9000; omega
set_option tactic.hygienic true in
theorem aP0 (gl : Gl W P.K) (hS : W.S = P.S) (hfa : W.fa = P.fa) (hca : W.ca = P.ca) (hck : mFs P 0 P.S.fns = true) (hqk : ∀ (n : Nat) (A : Around) (fs : List Env), AR A fs n -> ∀ k, P.qok.contains k = true -> SiF W A fs (.ref (W.fa k)) (run P.S n k)) :
  ∀ (n : Nat) (A : Around) (fs : List Env), AR A fs n -> (P.loud = true -> A.handled = none) -> ∀ k, P.can k = true -> SiK W A fs (.ref (W.fa k)) (run P.S n k)
 | 0, A, fs, R, hh, k, hok => fun s io m vs us H G hu hne => absurd rfl hne
 | n + 1, A, fs, R, hh, k, hok => by
  show SiK W A fs (.ref (W.fa k)) (aY6 P.S (run P.S n) k)
  cases hd : P.S.fns[k]? with
  | none =>
   intro s io m vs us H G hu hne
   exact absurd (by unfold aY6; rw [hd]; rfl) hne
  | some d =>
   have hm := aX4 (j := 0) hck hd (by rw [Nat.zero_add]; exact hok)
   rw [Nat.zero_add] at hm
   unfold mF at hm
   split at hm
   ·rename_i o ho
    split at hm
    ·rename_i fd hfd
     split at hm
     ·rename_i body hb
      simp only [Bool.and_eq_true] at hm
      have := bZ2 (W := W) (fs := fs) (A := A) (n := n) (Fb := fun r => exs P.S (run P.S n) d.body r) gl R ho hfd hm.1.2 hb
       (fun env hsc => cP7 (X := ⟨gl, R.deeper env, hS, hfa, hca, hh, fun k hk => (aP0 gl hS hfa hca hck hqk n (A.deeper env) (env :: fs) (R.deeper env) hh k hk).f, fun hn k hk => aP0 gl hS hfa hca hck hqk n (born (A.deeper env)) (env :: fs) (R.born env) hh k (by unfold Px.can; rw [hn]), fun A' R' => hqk n A' (env :: fs) R', cJ4 hck⟩) d.body ⟨fd.scope, d.names.map some⟩ body hsc hm.2)
      rw [<- hfa] at this
      have eq : aY6 P.S (run P.S n) k = fun vs => if vs.length = d.np then bnd (exs P.S (run P.S n) d.body (vs.map some ++ List.replicate (d.names.length - d.np) none)) cW5 else bad := by
       funext vs; unfold aY6; rw [hd]
      rw [eq]
      exact this
     ·cases hm
    ·cases hm
   ·cases hm
theorem cP1 (gl : Gl W P.K) (hS : W.S = P.S) (hfa : W.fa = P.fa) (hca : W.ca = P.ca) (hck : mFs P 0 P.S.fns = true) (hcq : mFs P.quiet 0 P.S.fns = true) :
  ∀ (n : Nat) (A : Around) (fs : List Env), AR A fs n -> (P.loud = true -> A.handled = none) -> ∀ k, P.can k = true -> SiF W A fs (.ref (W.fa k)) (run P.S n k) :=
 fun n A fs R hh k hk => (aP0 gl hS hfa hca hck (fun n A fs R k hk => (aP0 (P := P.quiet) gl hS hfa hca hcq (fun y_ y_ y_ y_ y_ h => by cases h) n A fs R (fun h => by cases h) k hk).f) n A fs R hh k hk).f
end
end Mini
namespace Mini
open PySem
noncomputable def Wp {α : Type} (x : Mn α) (m : MH) (Q : α -> MH -> Prop) (E : Nat -> MH -> Prop) : Prop := match x m with
 | .ok a m' => Q a m'
 | .exc c m' => E c m'
 | .bad => False
noncomputable abbrev nox : Nat -> MH -> Prop := fun y_ y_ => False
section
variable {α β : Type} {S : Sig} {F : Fns} {r : Lo} {m m' : MH} {Q : α -> MH -> Prop} {E : Nat -> MH -> Prop}
theorem aH {x : Mn α} {a : α} (h : x m = .ok a m') (q : Q a m') : Wp x m Q E := by unfold Wp; rw [h]; exact q
theorem cQ5 {x : Mn α} {c : Nat} (h : x m = .exc c m') (q : E c m') : Wp x m Q E := by unfold Wp; rw [h]; exact q
theorem aL {x : Mn β} {f : β -> Mn α} (h : Wp x m (fun a m' => Wp (f a) m' Q E) E) : Wp (bnd x f) m Q E := by
 unfold Wp bnd at *
 cases q : x m with
 | ok a m1 => rw [q] at h; exact h
 | exc c m1 => rw [q] at h; exact h
 | bad => rw [q] at h; exact h
theorem wp_mono {x : Mn α} {Q' : α -> MH -> Prop} {E' : Nat -> MH -> Prop} (h : Wp x m Q' E') (k : ∀ a m', Q' a m' -> Q a m') (l : ∀ c m', E' c m' -> E c m') : Wp x m Q E := by
 unfold Wp at *
 cases q : x m with
 | ok a m1 => rw [q] at h; exact k _ _ h
 | exc c m1 => rw [q] at h; exact l _ _ h
 | bad => rw [q] at h; exact h
theorem dX {x : Mn α} {Q' : α -> MH -> Prop} (h : Wp x m Q' nox) (k : ∀ a m', Q' a m' -> Q a m') : Wp x m Q E := wp_mono h k fun y_ y_ q => q.elim
theorem fF {x : Mn α} (h : Wp x m Q nox) : ∃ a m', x m = .ok a m' /\ Q a m' := by
 unfold Wp at h
 cases q : x m with
 | ok a m1 => rw [q] at h; exact ⟨a, m1, rfl, h⟩
 | exc c m1 => rw [q] at h; exact h.elim
 | bad => rw [q] at h; exact h.elim
end
noncomputable def Le (m m' : MH) : Prop := m.length <= m'.length /\ ∀ p, p < m.length -> m'[p]? = m[p]?
theorem Le.refl (m : MH) : Le m m := ⟨Nat.le_refl _, fun y_ y_ => rfl⟩
theorem Le.trans {a b c : MH} (h : Le a b) (k : Le b c) : Le a c := ⟨Nat.le_trans h.1 k.1, fun p q => (k.2 p (Nat.lt_of_lt_of_le q h.1)).trans (h.2 p q)⟩
theorem Le.app (m e : MH) : Le m (m ++ e) := ⟨by simp, fun p q => List.getElem?_append_left q⟩
theorem aO {m : MH} {p : Nat} {o : MObj} (k : m[p]? = some o) : p < m.length := by
 rcases Nat.lt_or_ge p m.length with q | q
 ·exact q
 ·rw [List.getElem?_eq_none q] at k; cases k
theorem Le.has {m m' : MH} (h : Le m m') {p : Nat} {o : MObj} (k : m[p]? = some o) : m'[p]? = some o := by
 rw [h.2 p (aO k), k]
theorem Le.set {m m' : MH} (h : Le m m') {p : Nat} (hp : m.length <= p) (o : MObj) : Le m (m'.set p o) :=
 ⟨by rw [List.length_set]; exact h.1, fun q hq => by rw [List.getElem?_set_ne (by omega)]; exact h.2 q hq⟩
theorem bB {m : MH} {p : Nat} {o o' : MObj} (k : m[p]? = some o) : (m.set p o')[p]? = some o' := by
 rw [List.getElem?_set_self (aO k)]
theorem aJ {m : MH} {p q : Nat} {o o' : MObj} (hn : p ≠ q) (k : m[q]? = some o) : (m.set p o')[q]? = some o := by
 rw [List.getElem?_set_ne hn]; exact k
theorem bI {m : MH} {o : MObj} : (m ++ [o])[m.length]? = some o := by simp
section
variable {S : Sig} {F : Fns} {r : Lo} {m : MH} {E : Nat -> MH -> Prop}
section
variable {Q : V -> MH -> Prop}
theorem aK {o : MObj} (h : ∀ p m', Le m m' -> m'[p]? = some o -> m.length <= p -> Q (.ref p) m') : Wp (alloc o) m Q E := h m.length (m ++ [o]) (.app _ _) bI (Nat.le_refl _)
theorem aC {α : Type} {x : Mn α} {a : α} {m' : MH} {Q : α -> MH -> Prop} (h : x m = .ok a m') (q : Q a m') : Wp x m Q E := aH h q
theorem aL1 {op : Operator} {a b : CE} (h : Wp (ev S F a r) m (fun x m' => Wp (ev S F b r) m' (fun y m' => Wp (bF6 op x y) m' Q E) E) E) : Wp (ev S F (.bin op a b) r) m Q E :=
 aL (x := ev S F a r) (wp_mono h (fun y_ y_ q => aL (x := ev S F b r) q) fun y_ y_ q => q)
theorem dC {k : Nat} {as : List CE} (h : Wp (evs S F as r) m (fun vs m' => Wp (F k vs) m' Q E) E) : Wp (ev S F (.call k as) r) m Q E := aL (x := evs S F as r) h
theorem aD8 {b : Bi} {as : List CE} (h : Wp (evs S F as r) m (fun vs m' => Wp (biV b vs) m' Q E) E) : Wp (ev S F (.bi b as) r) m Q E := aL (x := evs S F as r) h
theorem bL2 {a i : CE} (h : Wp (ev S F a r) m (fun x m' => Wp (ev S F i r) m' (fun y m' => Wp (aI8 x y) m' Q E) E) E) : Wp (ev S F (.idx a i) r) m Q E :=
 aL (x := ev S F a r) (wp_mono h (fun y_ y_ q => aL (x := ev S F i r) q) fun y_ y_ q => q)
theorem dL {as : List CE} (h : Wp (evs S F as r) m (fun vs m' => Q (.tup vs) m') E) : Wp (ev S F (.tup as) r) m Q E := aL (x := evs S F as r) h
theorem aW {as : List CE} (h : Wp (evs S F as r) m (fun vs m' => Wp (alloc (.list vs)) m' Q E) E) : Wp (ev S F (.list as) r) m Q E := aL (x := evs S F as r) h
theorem fK {a b : CE} {op : CmpOp} (h : Wp (ev S F a r) m (fun x m' => Wp (ev S F b r) m' (fun y m' => Wp (aA2 op x y) m' (fun c m' => Q (.bool c) m') E) E) E) : Wp (ev S F (.cmp a [op] [b]) r) m Q E :=
 aL (x := ev S F a r) (wp_mono h (fun x y_ q => aL (x := ev S F b r) (wp_mono q (fun y y_ q => aL (x := aA2 op x y) q) fun y_ y_ q => q)) fun y_ y_ q => q)
theorem bH {o : CE} {n : Sm} {as : List CE} (h : Wp (ev S F o r) m (fun x m' => ∃ k, smK x m' = some k /\ smH k n = true /\ Wp (evs S F as r) m' (fun vs m' => Wp (cW k x n vs) m' Q E) E) E) : Wp (ev S F (.smeth o n as) r) m Q E := by
 refine aL (x := ev S F o r) (wp_mono h (fun x m' q => ?_) fun y_ y_ q => q)
 obtain ⟨k, hk, hs, q⟩ := q
 have q2 := aL (x := evs S F as r) q
 unfold Wp at q2 ⊢
 dsimp only
 rw [hk]
 dsimp only
 rw [if_pos hs]
 exact q2
theorem aF {Q : List V -> MH -> Prop} (h : Q [] m) : Wp (evs S F [] r) m Q E := h
theorem aD {a : CE} {as : List CE} {Q : List V -> MH -> Prop} (h : Wp (ev S F a r) m (fun v m' => Wp (evs S F as r) m' (fun vs m' => Q (v :: vs) m') E) E) : Wp (evs S F (a :: as) r) m Q E :=
 aL (x := ev S F a r) (wp_mono h (fun v y_ q => aL (x := evs S F as r) q) fun y_ y_ q => q)
end
section
variable {Q : Bool -> MH -> Prop}
theorem fJ {e : CE} (h : Wp (ev S F e r) m (fun v m' => Wp (fB v) m' Q E) E) : Wp (evT S F (.val e) r) m Q E := aL (x := ev S F e r) h
theorem cC0 {e : CB} (h : Wp (evT S F e r) m (fun b m' => Q (!b) m') E) : Wp (evT S F (.not e) r) m Q E := aL (x := evT S F e r) h
theorem aL0 {c : Bool} {bs : List CB} (h : Wp (aT8 S F c bs r) m Q E) : Wp (evT S F (.all c bs) r) m Q E := h
theorem bP {c : Bool} {a : CB} {as : List CB} (h : Wp (evT S F a r) m (fun b m' => bif b == c then Wp (aT8 S F c as r) m' Q E else Q b m') E) : Wp (aT8 S F c (a :: as) r) m Q E := by
 refine aL (x := evT S F a r) (wp_mono h (fun t m' q => ?_) fun y_ y_ q => q)
 cases e : t == c with
 | true => rw [e] at q; exact q
 | false => rw [e] at q; exact q
end
section
variable {Q : Fl × Lo -> MH -> Prop} {ss : List CS}
theorem eI {s : CS} (h : Wp (ex S F s r) m (fun p m' => match p.1 with | .next => Wp (exs S F ss p.2) m' Q E | f => Q (f, p.2) m') E) : Wp (exs S F (s :: ss) r) m Q E := by
 refine aL (x := ex S F s r) (wp_mono h (fun p m' q => ?_) fun y_ y_ q => q)
 obtain ⟨f, r'⟩ := p
 cases f <;> exact q
theorem bC {i : Nat} {e : CE} (h : Wp (ev S F e r) m (fun v m' => Wp (exs S F ss (r.set i (some v))) m' Q E) E) : Wp (exs S F (.asg (.one (.one i)) e :: ss) r) m Q E :=
 eI (aL (x := ev S F e r) h)
theorem eH {e : CE} (h : Wp (ev S F e r) m (fun v m' => Wp (exs S F ss r) m' Q E) E) : Wp (exs S F (.exp e :: ss) r) m Q E := eI (aL (x := ev S F e r) h)
theorem bG {e : CE} (h : Wp (ev S F e r) m (fun v m' => Q (.ret v, r) m') E) : Wp (exs S F (.ret e :: ss) r) m Q E := eI (aL (x := ev S F e r) h)
theorem aJ1 (h : Q (.next, r) m) : Wp (exs S F [] r) m Q E := h
theorem s_rse {c : Nat} {t : Str} (h : E c m) : Wp (exs S F (.rse c t :: ss) r) m Q E := eI (cQ5 rfl h)
theorem aY4 : ∀ (a b : List CS) (r : Lo) (m : MH), Wp (exs S F (a ++ b) r) m Q E -> Wp (exs S F a r) m (fun p m' => match p.1 with | .next => Wp (exs S F b p.2) m' Q E | f => Q (f, p.2) m') E
 | [], b, r, m, h => h
 | s :: a, b, r, m, h => by
  unfold Wp at h
  refine eI ?_
  have e : exs S F (s :: a ++ b) r m = (ex S F s r m).bind (fun p => match p.1 with | .next => exs S F (a ++ b) p.2 | f => ret (f, p.2)) := rfl
  rw [e] at h
  unfold Wp
  cases q : ex S F s r m with
  | ok p m1 =>
   rw [q] at h
   obtain ⟨f, r1⟩ := p
   cases f with
   | next => exact aY4 a b r1 m1 h
   | cont => exact h
   | ret v => exact h
  | exc c m1 => rw [q] at h; exact h
  | bad => rw [q] at h; exact h
theorem aG4 {c : CB} {a b : List CS} (h : Wp (evT S F c r) m (fun t m' => Wp (exs S F ((bif t then a else b) ++ ss) r) m' Q E) E) : Wp (exs S F (.ite c a b :: ss) r) m Q E := by
 refine eI (aL (x := evT S F c r) (wp_mono h (fun t m' q => ?_) fun y_ y_ q => q))
 cases t
 ·exact aY4 _ _ _ _ q
 ·exact aY4 _ _ _ _ q
theorem s_try {body : List CS} {c : Nat} {nm : Option Nat} {hd : CE} (h : Wp (exs S F body r) m (fun p m' => match p.1 with | .next => Wp (exs S F ss p.2) m' Q E | f => Q (f, p.2) m')
  (fun d m' => ((S.cls[d]?).any fun k => k.supers.contains c) = true /\ Wp (ev S F hd (exR nm d r)) m' (fun v m' => Q (.ret v, exN nm r) m') nox)) : Wp (exs S F (.try_ body c nm hd :: ss) r) m Q E := by
 refine eI ?_
 have key : ex S F (.try_ body c nm hd) r m = bI5 S (exs S F body r) c nm (fun r' => ev S F hd r') r m := rfl
 unfold Wp at h ⊢
 rw [key]
 unfold bI5
 cases q : exs S F body r m with
 | ok p m1 => rw [q] at h; exact h
 | bad => rw [q] at h; exact h
 | exc d m1 =>
  rw [q] at h
  obtain ⟨h1, h2⟩ := h
  obtain ⟨v, m2, e2, q2⟩ := fF h2
  have e3 : cR5 S c nm (fun r' => ev S F hd r') r d m1 = .ok (.ret v, exN nm r) m2 := by unfold cR5; rw [if_pos h1]; dsimp only; rw [e2]; rfl
  dsimp only
  rw [e3]
  exact q2
end
end
theorem aB4 {P Q : Prop} (h : P) : bif true then P else Q := h
theorem aP6 {P Q : Prop} (h : Q) : bif false then P else Q := h
section
variable {S : Sig} {F : Fns} {r : Lo} {m : MH}
theorem bK7 {a b c : CE} {o o' : CmpOp} {x y z : V} {t u : Bool} (ha : ev S F a r m = .ok x m) (hb : ev S F b r m = .ok y m) (hc : ev S F c r m = .ok z m) (h1 : aA2 o x y m = .ok t m) (h2 : aA2 o' y z m = .ok u m) : ev S F (.cmp a [o, o'] [b, c]) r m = .ok (.bool (t && u)) m := by
 show Res.bind (ev S F a r m) _ = _
 rw [ha]
 show Res.bind (ev S F b r m) _ = _
 rw [hb]
 show Res.bind (aA2 o x y m) _ = _
 rw [h1]
 cases t with
 | false => rfl
 | true =>
  show Res.bind (ev S F c r m) _ = _
  rw [hc]
  show Res.bind (aA2 o' y z m) _ = _
  rw [h2]; rfl
theorem bU4 {a b : CE} {as : List CE} {x y : Bool} (ha : ev S F a r m = .ok (.bool x) m) (hb : ev S F (.boolop true (b :: as)) r m = .ok (.bool y) m) : ev S F (.boolop true (a :: b :: as)) r m = .ok (.bool (x && y)) m := by
 show Res.bind (ev S F a r m) _ = _
 rw [ha]
 cases x with
 | false => rfl
 | true => exact hb
theorem q_or {a b : CE} {as : List CE} {x y : Bool} (ha : ev S F a r m = .ok (.bool x) m) (hb : ev S F (.boolop false (b :: as)) r m = .ok (.bool y) m) : ev S F (.boolop false (a :: b :: as)) r m = .ok (.bool (x || y)) m := by
 show Res.bind (ev S F a r m) _ = _
 rw [ha]
 cases x with
 | true => rfl
 | false => exact hb
theorem aS {e : CE} {b : Bool} (h : ev S F e r m = .ok (.bool b) m) : evT S F (.val e) r m = .ok b m := by
 show Res.bind (ev S F e r m) _ = _
 rw [h]; rfl
theorem dA {e : CB} {b : Bool} (h : evT S F e r m = .ok b m) : evT S F (.not e) r m = .ok (!b) m := by
 show Res.bind (evT S F e r m) _ = _
 rw [h]; rfl
theorem b0 {a : CB} {as : List CB} {x y : Bool} (ha : evT S F a r m = .ok x m) (hb : aT8 S F false as r m = .ok y m) : aT8 S F false (a :: as) r m = .ok (x || y) m := by
 show Res.bind (evT S F a r m) _ = _
 rw [ha]
 cases x with
 | true => rfl
 | false => exact hb
theorem aC9 {a : CB} {as : List CB} {x y : Bool} (ha : evT S F a r m = .ok x m) (hb : aT8 S F true as r m = .ok y m) : aT8 S F true (a :: as) r m = .ok (x && y) m := by
 show Res.bind (evT S F a r m) _ = _
 rw [ha]
 cases x with
 | false => rfl
 | true => exact hb
end
noncomputable def eQ (S : Sig) (k np nl : Nat) (b : List CS) : Prop := ∃ d, S.fns[k]? = some d /\ d.np = np /\ d.names.length = nl /\ d.body = b
theorem bA0 {S : Sig} {n k np nl : Nat} {b : List CS} {vs : List V} (h : eQ S k np nl b) (hv : vs.length = np) : run S (n + 1) k vs = bnd (exs S (run S n) b (vs.map some ++ List.replicate (nl - np) Option.none)) cW5 := by
 obtain ⟨d, h1, h2, h3, h4⟩ := h
 show aY6 S (run S n) k vs = _
 unfold aY6; rw [h1]; dsimp only; rw [if_pos (hv.trans h2.symm), h2, h3, h4]
theorem cE {S : Sig} {n k np nl : Nat} {b : List CS} {vs : List V} {m : MH} {Q : V -> MH -> Prop} {E : Nat -> MH -> Prop} (h : eQ S k np nl b) (hv : vs.length = np)
  (hb : Wp (exs S (run S n) b (vs.map some ++ List.replicate (nl - np) Option.none)) m (fun p m' => match p.1 with | .ret v => Q v m' | .next => Q .none m' | .cont => False) E) : Wp (run S (n + 1) k vs) m Q E := by
 rw [bA0 h hv]
 refine aL (wp_mono hb (fun p m' q => ?_) fun y_ y_ q => q)
 obtain ⟨f, r⟩ := p
 cases f <;> exact q
end Mini
namespace Mini
open PySem PySem.W PyProof.Rows
noncomputable def goT (ok : Thread -> Bool) (st : SharedT -> Thread -> Option (SharedT × Thread)) : Nat -> SharedT -> Thread -> Option SharedT
 | 0, _, _ => none
 | n + 1, s, t => match through t with
  | true => some s
  | false => match ok t with
   | false => none
   | true => match st s t with
    | some (s', t') => goT ok st n s' t'
    | none => none
theorem cD2 {tb : String -> Option Builtin} {p : Program} {w : World} {n₀ : Nat} {ann : Option Value} : ∀ {n : Nat} {s s' : SharedT} {t : Thread}, goT (stepOk n₀ ann) (stepT (denote tb) p w) n s t = some s' -> topRun tb p w n₀ ann n s.abs t = some s'.abs
 | 0, _, _, _, h => by cases h
 | n + 1, s, s', t, h => by
  unfold goT at h
  unfold topRun
  cases he : through t with
  | true => rw [he] at h; cases h; rfl
  | false =>
   rw [he] at h
   cases hk : stepOk n₀ ann t with
   | false => rw [hk] at h; cases h
   | true =>
    rw [hk] at h
    cases hs : stepT (denote tb) p w s t with
    | none => rw [hs] at h; cases h
    | some r => obtain ⟨s₂, t₂⟩ := r; rw [hs] at h; rw [stepT_spec hs]; exact cD2 h
noncomputable def cU9 (P : Params) : Nat -> List (Params -> Obj) -> BT -> BT
 | _, [], t => t
 | n, o :: r, t => cU9 P (n + 1) r (t.ins n (o P))
noncomputable def boots : List (Params -> Obj) := [boot_o_0, boot_o_1, boot_o_2, boot_o_3, boot_o_4, boot_o_5, boot_o_6, boot_o_7, boot_o_8, boot_o_9, boot_o_10]
noncomputable def cZ0 (P : Params) (os : OsState) : SharedT := ⟨cU9 P 0 boots .nil, 11, (boot_heap P).life, Array.mk [], boot_drawn, boot_toks, os⟩
theorem bQ3 : ∀ (P : Params) (os : OsState), (cZ0 P os).abs = ⟨boot_heap P, Array.mk [], boot_drawn, boot_toks, os⟩ := by intro P os; kernel_rfl
theorem bQ2 : ∀ w : World, ((boot_heap w.params).isNs mainGlobals && (Array.mk ([] : List GenState)).size == 0, (boot_heap w.params).objs.size, (boot_heap w.params).nsMap mainGlobals "__annotations__") = (true, 11, some (.ref 6)) := by intro w; kernel_rfl
noncomputable def runT (p : Program) (N : Nat) (w : World) (os : OsState) : Option SharedT :=
 goT (Fast.tw6613529449190102663 11 (some (.ref 6))) (Fast.tw10156331382660048174 (Fast.tw11892475500146522536 Fast.tw14364793385576792824) p w) N (cZ0 w.params os) (topStub p)
theorem cH7 {p : Program} {N : Nat} {w : World} {os : OsState} {s : SharedT} (h : runT p N w os = some s) : topRun treeTable p w 11 (some (.ref 6)) N ⟨boot_heap w.params, Array.mk [], boot_drawn, boot_toks, os⟩ (topStub p) = some s.abs := by
 rw [<- bQ3]
 refine cD2 ?_
 rw [Fast.te6613529449190102663, Fast.te10156331382660048174, Fast.te11892475500146522536, Fast.te14364793385576792824]
 exact h
noncomputable def xtOf (q : Program) (R : WRecords) (s : Shared) : Bool := xlAt q [] s && recOk R s
noncomputable def bB1 (p q : Program) (R : WRecords) (chk : Heap -> Bool) (w : World) (s : Shared) :=
  (staticsOk (importedModules p.main.body) (boot_heap w.params) s.heap && namesBound p s.heap && gensDone s && laidKept (boot_heap w.params) s.heap,
   Fast.tw4187177175401517315 q [] (importedModules p.main.body) (xtOf q R) true s, chk s.heap)
theorem cK6 {p q : Program} {R : WRecords} {chk : Heap -> Bool} {N : Nat} (e : opening p = plainProg p.main.scope.names) (hN : Nat.ble 600 N = true) (f : ∀ s, fenceModules? p s = some s)
  (h : ∀ w os, (runT p N w os).map (fun s => bB1 p q R chk w s.abs) = some (true, openGood q [], true)) : LeftO p q [] (xtOf q R) (fun s => chk s.heap) (fun y_ => true) N := fun w => by
 obtain ⟨⟨hp, gs, d, k, os⟩, eo, e'⟩ := Option.map_eq_some_iff.mp (boot_open e hN f w)
 obtain ⟨rfl, rfl, rfl, rfl⟩ : hp = boot_heap w.params /\ gs = Array.mk [] /\ d = boot_drawn /\ k = boot_toks := by simpa using e'
 obtain ⟨z1, z2, z3⟩ : _ /\ _ /\ _ := by simpa only [Prod.mk.injEq] using bQ2 w
 obtain ⟨s, hr, hl⟩ := Option.map_eq_some_iff.mp (h w os)
 have r := cH7 hr
 unfold bB1 at hl
 obtain ⟨l1, l2, l3⟩ : _ /\ _ /\ _ := by simpa only [Prod.mk.injEq] using hl
 have t : topFrom treeTable p w N ⟨boot_heap w.params, Array.mk [], boot_drawn, boot_toks, os⟩ = some s.abs := by
  unfold topFrom
  dsimp only
  rw [z1, z2, z3, r]
  show (match staticsOk (importedModules p.main.body) (boot_heap w.params) s.abs.heap && namesBound p s.abs.heap && gensDone s.abs && laidKept (boot_heap w.params) s.abs.heap with | true => _ | false => _) = _
  rw [l1]
 rw [<- Fast.te4187177175401517315] at l2
 unfold openEnds
 rw [eo]
 show (topFrom treeTable p w N _).map _ = _
 rw [t]
 exact congrArg some (Prod.ext l2 l3)
noncomputable def aS9 (as : List Addr) (h : Heap) : Frag := as.filterMap fun a => (h.get? a).map fun o => (a, o)
set_option tactic.hygienic true in
theorem aH7 (h : Heap) : ∀ as : List Addr, (aS9 as h).In h
 | [], a, o, e => by cases e
 | b :: as, a, o, e => by
  unfold aS9 at e
  cases q : h.get? b with
  | none =>
   rw [List.filterMap_cons_none (by rw [q]; rfl)] at e
   exact aH7 h as a o e
  | some o' =>
   rw [List.filterMap_cons_some (b := (b, o')) (by rw [q]; rfl), List.lookup_cons] at e
   split at e
   ·rename_i hb
    cases e
    rw [beq_iff_eq.mp hb]; exact q
   ·exact aH7 h as a o e
noncomputable def Has (chk : Frag -> Bool) (_ : World) (h : Heap) : Prop := ∃ K : Frag, K.In h /\ chk K = true
theorem bU9 {l : OpenLaw} {keep : List Nat} {as : List Addr} {chk : Frag -> Bool} {N : Nat} {d : DefRec} {kwd : List (Str × Expr)} (k0 : l.wellSaid = true) (e : opening l.prog = plainProg l.prog.main.scope.names) (hN : Nat.ble 600 N = true) (f : ∀ s, fenceModules? l.prog s = some s)
  (h : ∀ w os, (runT l.prog N w os).map (fun s => bB1 l.prog (view l.prog keep) l.row.records (fun h => chk (aS9 as h)) w s.abs) = some (true, openGood (view l.prog keep) [], true))
  (hdef : defOf (view l.prog keep) l.row.name = some (d, kwd)) (hp : l.row.prog.theDef l.row.name = some (d.params, d.body, d.scope)) (hk : kwWritten? d.params.kwonlyargs d.params.kw_defaults = some kwd)
  (hwr : (!l.row.writes || l.row.records.isEmpty) = true) (ok : (chainsOk (view l.prog keep) && opensWell l.row.prog && (frees l.row.toRowW && l.row.within.isEmpty)) = true) (hb : l.row.prog.bare) (hw : l.row.toRowW.promised)
  (call : WalkO (view l.prog keep) [] (XL (view l.prog keep) []) (Has chk) l.row.toRowW d kwd fun f vs => PySem.call f vs) : l.Holds :=
 holds_law k0 fun said => holds_open (q := view l.prog keep) (loose := []) (Xt := xtOf (view l.prog keep) l.row.records) (XP := XL (view l.prog keep) []) (cK6 e hN f h)
  (fun w s e => ⟨aS9 as s.heap, aH7 _ as, e⟩) (fun w h h' ⟨K, k1, k2⟩ k => ⟨K, k1.keeps k, k2⟩) (fun s e => xl_of s (Bool.and_eq_true_iff.mp e).1) XL.keeps hdef hp hk (fun s e => recFacts_of (Bool.and_eq_true_iff.mp e).2) hwr said ok hb hw call
end Mini
namespace Mini
open PySem PySem.W PyProof.Rows
noncomputable def gaOf (K : Frag) (x : Str) : Addr := match nsIn K mainGlobals x with | some (some (.ref a)) => a | _ => 0
noncomputable def bL5 (S : Sig) (k : Nat) : Option ClsD := S.cls.find? fun d => d.init == some k || d.meths.any fun q => q.2 == k
noncomputable def naOf (K : Frag) (C : Addr) (x : Str) : Addr := match bA3 K C with
 | some N => (match nsIn K N x with | some (some (.ref a)) => a | _ => 0)
 | none => 0
noncomputable def faOf (K : Frag) (S : Sig) (k : Nat) : Addr := match S.fns[k]? with
 | some d => (match bL5 S k with | some D => naOf K (gaOf K D.name) d.name | none => gaOf K d.name)
 | none => 0
noncomputable def caOf (K : Frag) (S : Sig) (k : Nat) : Addr := match S.cls[k]? with
 | some d => gaOf K d.name
 | none => 0
noncomputable def pxOf (S : Sig) (qok : List Nat) (K : Frag) : Px := ⟨K, S, faOf K S, caOf K S, true, none, qok⟩
noncomputable def cY7 (S : Sig) (qok : List Nat) (k : Nat) (K : Frag) : Bool := mFs (pxOf S qok K) 0 S.fns && mFs (pxOf S qok K).quiet 0 S.fns && (bL5 S k).isNone && (match S.fns[k]? with | some d => (match nsIn K mainGlobals d.name with | some (some (.ref _)) => true | _ => false) | none => false)
theorem bB5 : ∀ {vs : List Value} {ns : List Int}, IntsAre vs ns -> IntsR ns vs
 | _, _, .nil => .nil
 | _, _, .cons n t h => .cons n t (bB5 h)
set_option tactic.hygienic true in
theorem glue {prog : Program} {w : World} {K : Frag} {S : Sig} {qok : List Nat} {s₁ : Shared} {mg mb : Str -> Option Value} {loose : List Str} {view : Program} {mean : ExcName -> Option Value} {claim : ClaimW} {cl : Str -> Option Addr} {args : List WData} {fa l : Addr} {vals : List Value} {ns : List Int} {k n : Nat} {d : FnD}
    (T : Top view loose mean mg mb s₁.heap) (hsee : importsNone view = true) (KX : K.In s₁.heap) (hg : s₁.gens = #[]) (hck : cY7 S qok k K = true) (hd : S.fns[k]? = some d) (hm : mg d.name = some (.ref fa))
    (hL : s₁.heap.IsList l vals.toArray) (hI : IntsAre vals ns) (hlen : ns.length <= 63) (hn : n <= 100) (hrun : Wp (run S n k [.scr ns]) [] (fun v y_ => v = .bool true) nox)
    (hr : ∀ cls, claim.raises args cls = false) (hp : claim.post args (.bool true) args = true) :
    wpAny (model prog w) callerA (call (.ref fa) [.ref l]) (fun v s' => GoodWG claim cl mean args s₁ (.ok (.ret v)) s') (fun e s' => GoodWG claim cl mean args s₁ (.error e) s') s₁ := by
  obtain ⟨hck, hc3⟩ := Bool.and_eq_true_iff.mp hck
  obtain ⟨hck, hc4⟩ := Bool.and_eq_true_iff.mp hck
  obtain ⟨hc1, hc2⟩ := Bool.and_eq_true_iff.mp hck
  have hf : fa = faOf K S k := by
    unfold faOf
    rw [Option.isNone_iff_eq_none.mp hc4]
    unfold gaOf
    rw [hd] at hc3 ⊢
    dsimp only at hc3 ⊢
    split at hc3
    · rename_i a e
      have := mg_of KX T.g e
      rw [hm] at this
      cases this
    · cases hc3
  let W : Wd := ⟨prog, w, S, faOf K S, caOf K S, s₁.heap⟩
  have gl : Gl W K := ⟨⟨by obtain ⟨mm, ⟨o, y_, y_, e, y_⟩, y_⟩ := (T.seer hsee).mods; exact ⟨o, e⟩, T.nolimit⟩, KX, mg, mb, T.g, T.b, T.builtins, _, _, topRead_of T⟩
  have R : AR callerA [] n := ⟨rfl, by show 1 + claimMargin + 4 * n <= 900; have : claimMargin <= 400 := by decide +kernel
                                       omega, by show 4 + 40 * n + 400 <= 9000; omega⟩
  obtain ⟨v, m', e, rfl⟩ := fF hrun
  have H : HR W s₁.heap [] [] := ⟨fun y_ y_ e => e, rfl, fun n p o h => by simp at h, fun b ⟨p, hp, _⟩ => (nomatch hp), fun i j p q y_ h => by simp at h⟩
  obtain ⟨o, ho, hc, N, hd⟩ := hL
  have hv : VRs W s₁.heap [] [.scr ns] [.ref l] := .cons (.scr ho hc hd (by simpa using bB5 hI) (by unfold lid; omega)) .nil
  have key := cP1 (W := W) (P := pxOf S qok K) gl rfl rfl rfl hc1 hc2 n callerA [] R (fun y_ => rfl) k rfl s₁ [] [] [.scr ns] [.ref l] H (fun y_ q => nomatch q) hv (by show run S n k [.scr ns] [] ≠ _; rw [e]; intro q; cases q)
  rw [hf]
  refine wpAny_mono key (fun u s' q => ?_) fun x s' q => ?_
  · obtain ⟨v, m2, io', e2, st, H2, kv, sm⟩ := q
    have e2 : run S n k [.scr ns] [] = .ok v m2 := e2
    rw [e] at e2
    cases e2
    cases kv
    exact GoodW.toG ⟨.inl ⟨_, _, [], rfl, hr, .bool true, hp, fun y_ => ⟨List.nodup_nil, fun y_ q => nomatch q⟩⟩, H2.keep, sm.2, sm.1.trans hg⟩
  · obtain ⟨c, m2, io', a, g, e2, y_⟩ := q
    have e2 : run S n k [.scr ns] [] = .exc c m2 := e2
    rw [e] at e2
    cases e2
end Mini
namespace Mini
open PySem
section
variable {S : Sig} {F : Fns} {r : Lo} {m : MH} {E : Nat -> MH -> Prop} {p q : Nat} {xs ys : List V} {v : V} {Q : V -> MH -> Prop}
theorem aD7 (h : m[p]? = some (.list xs)) : smK (.ref p) m = some 0 := by unfold smK; dsimp only; rw [h]
theorem cA6 {k : Int} (h : m[p]? = some (.list xs)) (hv : at_ xs k = some v) (hk : k.natAbs < 2 ^ 60) (q : Q v m) : Wp (aI8 (.ref p) (.int k)) m Q E := by
 refine aH (m' := m) ?_ q
 unfold aI8; dsimp only; rw [h]; dsimp only; rw [if_pos hk, hv]; rfl
theorem aK2 (h : m[p]? = some (.list xs)) (h' : m[q]? = some (.list ys)) (hl : xs.length + ys.length <= lid) (k : ∀ p m', Le m m' -> m'[p]? = some (.list (xs ++ ys)) -> m.length <= p -> Q (.ref p) m') : Wp (bF6 .Add (.ref p) (.ref q)) m Q E := by
 refine aH (a := .ref m.length) (m' := m ++ [.list (xs ++ ys)]) ?_ (k _ _ (.app _ _) bI (Nat.le_refl _))
 show (match m[p]?, m[q]? with | some (.list x), some (.list y) => if x.length + y.length <= lid then alloc (.list (x ++ y)) m else .bad | _, _ => .bad) = _
 rw [h, h']
 show (if xs.length + ys.length <= lid then alloc (.list (xs ++ ys)) m else .bad) = _
 rw [if_pos hl]; rfl
theorem bZ {n : Nat} (h : m[n]? = some (.list xs)) : (Gd.list n xs).stays m = true := by
 show (match m[n]? with | some (.list ys) => V.sames xs ys | _ => false) = true
 rw [h]; exact eU xs
theorem d9 {Q : List V × Gd -> MH -> Prop} (h : m[p]? = some (.list xs)) (k : Q (xs, .list p xs) m) : Wp (aB8 .expr [.ref p]) m Q E := by
 refine aH (m' := m) ?_ k
 unfold aB8 dZ; dsimp only; rw [h]
end
theorem aV2 {g : Gd} {step : V -> Lo -> Mn (Fl × Lo)} {Q : Fl × Lo -> MH -> Prop} {E : Nat -> MH -> Prop} (I : List V -> Lo -> MH -> Prop) (hg : ∀ xs r m, I xs r m -> g.stays m = true)
  (hs : ∀ x xs r m, I (x :: xs) r m -> Wp (step x r) m (fun p m' => match p.1 with | .ret v => Q (.ret v, p.2) m' | _ => I xs p.2 m') E) (hn : ∀ r m, I [] r m -> Q (.next, r) m) :
  ∀ (xs : List V) (r : Lo) (m : MH), I xs r m -> Wp (aM1 g step xs r) m Q E
 | [], r, m, h => by
  refine aH (m' := m) ?_ (hn r m h)
  show (if g.stays m then _ else _) = _
  rw [if_pos (hg _ _ _ h)]
 | x :: xs, r, m, h => by
  have e : aM1 g step (x :: xs) r m = (step x r m).bind (fun p => match p.1 with | .ret x => ret (.ret x, p.2) | _ => aM1 g step xs p.2) := if_pos (hg _ _ _ h)
  have k := hs x xs r m h
  unfold Wp at k ⊢
  rw [e]
  cases q : step x r m with
  | bad => rw [q] at k; exact k
  | exc c m1 => rw [q] at k; exact k
  | ok p m1 =>
   rw [q] at k
   obtain ⟨f, r1⟩ := p
   cases f with
   | ret v => exact k
   | next => exact aV2 I hg hs hn xs r1 m1 k
   | cont => exact aV2 I hg hs hn xs r1 m1 k
theorem cS6 {S : Sig} {F : Fns} {k : IK} {t : CT} {src : List CE} {body ss : List CS} {r : Lo} {m : MH} {Q : Fl × Lo -> MH -> Prop} {E : Nat -> MH -> Prop} (h : Wp (evs S F src r) m (fun vs m' => Wp (aB8 k vs) m' (fun p m' => ∃ I : List V -> Lo -> MH -> Prop, I p.1 r m' /\ (∀ xs r m, I xs r m -> p.2.stays m = true) /\
      (∀ x xs r m, I (x :: xs) r m -> Wp (aI9 t x r) m (fun r' m' => Wp (exs S F body r') m' (fun p m' => match p.1 with | .ret v => Q (.ret v, p.2) m' | _ => I xs p.2 m') E) E) /\ (∀ r m, I [] r m -> Wp (exs S F ss r) m Q E)) E) E) : Wp (exs S F (.for_ k t src body :: ss) r) m Q E := by
  refine eI (aL (x := evs S F src r) (wp_mono h (fun vs m' h => aL (x := aB8 k vs) (wp_mono h (fun p m' h => ?_) fun y_ y_ q => q)) fun y_ y_ q => q))
  obtain ⟨I, h0, hg, hs, hn⟩ := h
  exact aV2 I hg (fun x xs r m hi => aL (x := aI9 t x r) (wp_mono (hs x xs r m hi) (fun r' m' q => wp_mono q (fun p m' q => by obtain ⟨f, r1⟩ := p; cases f <;> exact q) fun y_ y_ q => q) fun y_ y_ q => q)) hn p.1 r m' h0
theorem aZ0 {g : Gd} {step : V -> Mn (Option V)} {Q : List V -> MH -> Prop} {E : Nat -> MH -> Prop} (I : List V -> List V -> MH -> Prop) (hg : ∀ xs l m, I xs l m -> g.stays m = true)
  (hs : ∀ x xs l m, I (x :: xs) l m -> Wp (step x) m (fun o m' => I xs (l ++ dF o []) m') nox) (hn : ∀ l m, I [] l m -> Q l m) :
  ∀ (xs l : List V) (m : MH), I xs l m -> Wp (aY g step xs) m (fun l' m' => Q (l ++ l') m') E
 | [], l, m, h => by
  refine aH (a := []) (m' := m) (if_pos (hg _ _ _ h)) ?_
  rw [List.append_nil]; exact hn l m h
 | x :: xs, l, m, h => by
  obtain ⟨o, m1, e, k⟩ := fF (hs x xs l m h)
  have e2 : aY g step (x :: xs) m = ((step x m).nox).bind (fun o => bnd (aY g step xs) fun r => ret (dF o r)) := if_pos (hg _ _ _ h)
  have ih := aZ0 (E := E) I hg hs hn xs _ m1 k
  have e3 : aY g step (x :: xs) m = (aY g step xs m1).bind (fun r => ret (dF o r)) := by rw [e2, e]; rfl
  unfold Wp at ih ⊢
  rw [e3]
  cases q : aY g step xs m1 with
  | bad => rw [q] at ih; exact ih
  | exc c m2 => rw [q] at ih; exact ih
  | ok l' m2 =>
   rw [q] at ih
   have ih : Q (l ++ dF o [] ++ l') m2 := ih
   show Q (l ++ dF o l') m2
   have e4 : l ++ dF o [] ++ l' = l ++ dF o l' := by cases o <;> simp [dF]
   rw [<- e4]; exact ih
theorem cJ1 {S : Sig} {F : Fns} {elt : CE} {k : IK} {t : CT} {nl : Nat} {src : List CE} {ifs : List CB} {r : Lo} {m : MH} {Q : V -> MH -> Prop} {E : Nat -> MH -> Prop} (h : Wp (evs S F src r) m (fun vs m' => Wp (aB8 k vs) m' (fun p m' => ∃ I : List V -> List V -> MH -> Prop, I p.1 [] m' /\ (∀ xs l m, I xs l m -> p.2.stays m = true) /\
      (∀ x xs l m, I (x :: xs) l m -> Wp (aI9 t x (r ++ List.replicate nl Option.none)) m (fun r' m' => Wp (bF5 S F ifs r') m' (fun b m' => bif b then Wp (ev S F elt r') m' (fun y m' => I xs (l ++ [y]) m') nox else I xs l m') nox) nox) /\ (∀ l m, I [] l m -> l.length <= lid /\ ∀ p m', Le m m' -> m'[p]? = some (.list l) -> m.length <= p -> Q (.ref p) m')) E) E) : Wp (ev S F (.comp elt t nl k src ifs) r) m Q E := by
  refine aL (x := evs S F src r) (wp_mono h (fun vs m' h => aL (x := aB8 k vs) (wp_mono h (fun p m' h => ?_) fun y_ y_ q => q)) fun y_ y_ q => q)
  obtain ⟨I, h0, hg, hs, hn⟩ := h
  refine aL ?_
  refine aZ0 (Q := fun l m' => Wp (if l.length <= lid then alloc (.list l) else bad) m' Q E) I hg (fun x xs l m hi => ?_) (fun l m hi => ?_) p.1 [] m' h0
  · refine aL (x := aI9 t x _) (wp_mono (hs x xs l m hi) (fun r' m' q => aL (x := bF5 S F ifs r') (wp_mono q (fun b m' q => ?_) fun y_ y_ q => q)) fun y_ y_ q => q)
    cases b with
    | true => exact aL (x := ev S F elt r') (wp_mono q (fun y m' q => q) fun y_ y_ q => q)
    | false => show I xs (l ++ []) m'; rw [List.append_nil]; exact q
  · obtain ⟨h1, h2⟩ := hn l m hi
    rw [if_pos h1]
    exact aK h2
theorem aH4 {S : Sig} {F : Fns} {c : CB} {r : Lo} {m : MH} {Q : Bool -> MH -> Prop} {E : Nat -> MH -> Prop} (h : Wp (evT S F c r) m Q E) : Wp (bF5 S F [c] r) m Q E := by
 refine aL (x := evT S F c r) (wp_mono h (fun b m' q => ?_) fun y_ y_ q => q)
 cases b <;> exact q
theorem bR0 {α β : Type} {g : α -> Option β} {x : α} {xs : List α} {d : β} {ds : List β} (h1 : g x = some d) (h2 : aD5 g xs = some ds) : aD5 g (x :: xs) = some (d :: ds) := by
 show (match g x, aD5 g xs with | some d, some ds => some (d :: ds) | _, _ => none) = _
 rw [h1, h2]
theorem bK4 (m : MH) : ∀ is : List Int, aD5 (rd dN m) (is.map V.int) = some (is.map PyData.int)
 | [] => rfl
 | i :: is => bR0 rfl (bK4 m is)
theorem cM1 {m : MH} {p : Nat} {is : List Int} (h : m[p]? = some (.list (is.map V.int))) (x : Int) : inV (.int x) (.ref p) m = .ok (is.any fun j => j == x) m := by
 unfold inV; dsimp only; rw [h]; dsimp only; rw [bK4]
 show Res.ok ((is.map PyData.int).any fun e => PyData.eqv e (.int x)) m = _
 rw [List.any_map]; rfl
end Mini
namespace Mini
open PySem
theorem md0 {x n : Int} (h : 0 < n) : 0 <= x % n := Int.emod_nonneg _ (Int.ne_of_gt h)
theorem md1 {x n : Int} (h : 0 < n) : x % n < n := Int.emod_lt_of_pos _ h
theorem bR1 {a b : Int} {c : Nat} (h0 : 0 <= a) (h1 : a < b) (h2 : b <= (c : Int)) : a.natAbs < c := by omega
theorem dA0 {a b : Int} (h0 : 0 <= a) (h1 : a < b) (h2 : b <= 1000000) : a.natAbs < 2 ^ 60 := Nat.lt_of_lt_of_le (bR1 (c := 1000000) h0 h1 h2) (by decide)
theorem md60 {x n : Int} (h : 0 < n) (h2 : n <= 1000000) : (x % n).natAbs < 2 ^ 60 := dA0 (md0 h) (md1 h) h2
theorem md30 {x n : Int} (h : 0 < n) (h2 : n <= 1000000) : (x % n).natAbs < 1073741824 := Nat.lt_of_lt_of_le (bR1 (c := 1000000) (md0 h) (md1 h) h2) (by decide)
theorem bI6 {a : Int} {n : Nat} (h0 : 0 <= a) (h : a < (n : Int)) : a.toNat < n := by omega
theorem aK3 {a b : Int} (h : a <= b) : a.toNat <= b.toNat := Int.toNat_le_toNat h
theorem mdN {x n : Int} {k : Nat} (h : 0 < n) (hk : n <= (k : Int)) : (x % n).toNat < k := bI6 (md0 h) (Int.lt_of_lt_of_le (md1 h) hk)
theorem cK3 {x n : Int} (h : 0 < n) : x % n = ((x % n).toNat : Int) := (Int.toNat_of_nonneg (md0 h)).symm
theorem bM {n k : Nat} (h : n <= k) (hk : k <= 1000000) : n <= lid := Nat.le_trans h (Nat.le_trans hk (by decide))
theorem cW6 {α : Type} {p : α -> Prop} : ∀ x ∈ ([] : List α), p x := fun y_ h => absurd h List.not_mem_nil
theorem aH8 {α : Type} {p : α -> Prop} {a : α} {l : List α} (h : p a) (t : ∀ x ∈ l, p x) : ∀ x ∈ a :: l, p x := List.forall_mem_cons.mpr ⟨h, t⟩
theorem cU0 {x : Int} : 1 <= 1 + x % 12 /\ 1 + x % 12 <= 12 := by omega
theorem cZ8 {xs : List V} {x n : Int} (h : 0 < n) (hn : n = (xs.length : Int)) : ∃ v, at_ xs (x % n) = some v /\ v ∈ xs := by
 have : (x % n).toNat < xs.length := mdN h (Int.le_of_eq hn)
 refine ⟨xs[(x % n).toNat], ?_, List.getElem_mem this⟩
 unfold at_; rw [if_pos (md0 h), List.getElem?_eq_getElem this]
theorem cF9 {α : Type} {g : Gd} {step : V -> Mn (Option V)} {vv ww : α -> V} {keep : α -> Bool} {M : MH -> Prop} (hg : ∀ m, M m -> g.stays m = true) : ∀ {zs : List α}, (∀ z ∈ zs, ∀ m, M m -> Wp (step (vv z)) m (fun o m' => o = (bif keep z then some (ww z) else none) /\ M m') nox) -> ∀ m, M m -> Wp (aY g step (zs.map vv)) m (fun l m' => l = (zs.filter keep).map ww /\ M m') nox := by
 intro zs
 induction zs with
 | nil => intro _ m hm; exact aH (a := []) (m' := m) (if_pos (hg m hm)) ⟨rfl, hm⟩
 | cons z zs ih =>
  intro hs m hm
  obtain ⟨o, m1, e, q1⟩ := fF (hs z (.head _) m hm)
  obtain ⟨l, m2, e2, q2⟩ := fF (ih (fun z hz => hs z (.tail _ hz)) m1 q1.2)
  refine aH (a := dF o l) (m' := m2) ?_ ⟨?_, q2.2⟩
  ·have e3 : aY g step ((z :: zs).map vv) m = ((step (vv z) m).nox).bind (fun o => bnd (aY g step (zs.map vv)) fun r => ret (dF o r)) := if_pos (hg m hm)
   rw [e3, e]
   show Res.bind (aY g step (zs.map vv) m1) _ = _
   rw [e2]; rfl
  ·rw [q1.1, q2.1, List.filter_cons]
   cases keep z <;> rfl
theorem aC0 {S : Sig} {F : Fns} {elt : CE} {k : IK} {t : CT} {nl : Nat} {src : List CE} {ifs : List CB} {r : Lo} {m : MH} {Q : V -> MH -> Prop} {E : Nat -> MH -> Prop} {α : Type} (zs : List α) (vv ww : α -> V) (keep : α -> Bool) (M : MH -> Prop)
  (h : Wp (evs S F src r) m (fun vs m' => Wp (aB8 k vs) m' (fun p m' => p.1 = zs.map vv /\ M m' /\ (∀ m, M m -> p.2.stays m = true) /\
   (∀ z ∈ zs, ∀ m, M m -> Wp (aI9 t (vv z) (r ++ List.replicate nl Option.none)) m (fun r' m' => Wp (bF5 S F ifs r') m' (fun b m' => b = keep z /\ (bif b then Wp (ev S F elt r') m' (fun y m' => y = ww z /\ M m') nox else M m')) nox) nox) /\
   zs.length <= lid /\ ∀ p m1 m2, M m1 -> Le m1 m2 -> m2[p]? = some (.list ((zs.filter keep).map ww)) -> m1.length <= p -> Q (.ref p) m2) E) E) : Wp (ev S F (.comp elt t nl k src ifs) r) m Q E := by
 refine aL (x := evs S F src r) (wp_mono h (fun vs m' h => aL (x := aB8 k vs) (wp_mono h (fun p m' h => ?_) fun y_ y_ q => q)) fun y_ y_ q => q)
 obtain ⟨e0, h0, hg, hs, hl, hn⟩ := h
 rw [e0]
 refine aL (dX (cF9 (keep := keep) (ww := ww) hg (fun z hz m hm => ?_) m' h0) fun l m1 q => ?_)
 ·refine aL (x := aI9 t (vv z) _) (wp_mono (hs z hz m hm) (fun r' m' q => aL (x := bF5 S F ifs r') (wp_mono q (fun b m' q => ?_) fun y_ y_ q => q)) fun y_ y_ q => q)
  obtain ⟨e, q⟩ := q
  rw [e] at q ⊢
  cases hk : keep z with
  | true => rw [hk] at q; exact aL (x := ev S F elt r') (wp_mono q (fun y m' q => ⟨congrArg some q.1, q.2⟩) fun y_ y_ q => q)
  | false => rw [hk] at q; exact ⟨rfl, q⟩
 ·have hle : l.length <= lid := by rw [q.1, List.length_map]; exact Nat.le_trans (List.length_filter_le _ _) hl
  rw [if_pos hle]
  exact aK fun p m2 l2 k g => hn p m1 m2 q.2 l2 (q.1 ▸ k) g
theorem bE4 {α : Type} (zs : List α) : (zs.filter fun y_ => true) = zs := List.filter_eq_self.mpr fun y_ y_ => rfl
theorem bL1 {S : Sig} {F : Fns} {elt : CE} {k : IK} {t : CT} {nl : Nat} {src : List CE} {r : Lo} {m : MH} {Q : V -> MH -> Prop} {E : Nat -> MH -> Prop} {α : Type} (zs : List α) (vv ww : α -> V) (M : MH -> Prop)
  (h : Wp (evs S F src r) m (fun vs m' => Wp (aB8 k vs) m' (fun p m' => p.1 = zs.map vv /\ M m' /\ (∀ m, M m -> p.2.stays m = true) /\
   (∀ z ∈ zs, ∀ m, M m -> Wp (aI9 t (vv z) (r ++ List.replicate nl Option.none)) m (fun r' m' => Wp (ev S F elt r') m' (fun y m' => y = ww z /\ M m') nox) nox) /\
   zs.length <= lid /\ ∀ p m1 m2, M m1 -> Le m1 m2 -> m2[p]? = some (.list (zs.map ww)) -> m1.length <= p -> Q (.ref p) m2) E) E) : Wp (ev S F (.comp elt t nl k src []) r) m Q E := by
 refine aC0 zs vv ww (fun y_ => true) M (wp_mono h (fun vs m' h => wp_mono h (fun p m' h => ?_) fun y_ y_ q => q) fun y_ y_ q => q)
 obtain ⟨e0, h0, hg, hs, hl, hn⟩ := h
 refine ⟨e0, h0, hg, fun z hz m hm => wp_mono (hs z hz m hm) (fun r' m' q => aC rfl ⟨rfl, q⟩) fun y_ y_ q => q, hl, ?_⟩
 rw [bE4]; exact hn
theorem aG5 {S : Sig} {F : Fns} {k : IK} {t : CT} {src : List CE} {body ss : List CS} {r : Lo} {m : MH} {Q : Fl × Lo -> MH -> Prop} {E : Nat -> MH -> Prop} {α : Type} (zs : List α) (vv : α -> V) (I : List α -> Lo -> MH -> Prop) (h : Wp (evs S F src r) m (fun vs m' => Wp (aB8 k vs) m' (fun p m' => p.1 = zs.map vv /\ I zs r m' /\ (∀ zs r m, I zs r m -> p.2.stays m = true) /\
      (∀ z zs r m, I (z :: zs) r m -> Wp (aI9 t (vv z) r) m (fun r' m' => Wp (exs S F body r') m' (fun p m' => match p.1 with | .ret v => Q (.ret v, p.2) m' | _ => I zs p.2 m') E) E) /\ (∀ r m, I [] r m -> Wp (exs S F ss r) m Q E)) E) E) : Wp (exs S F (.for_ k t src body :: ss) r) m Q E := by
  refine cS6 (wp_mono h (fun vs m' h => wp_mono h (fun p m' h => ?_) fun y_ y_ q => q) fun y_ y_ q => q)
  obtain ⟨e0, h0, hg, hs, hn⟩ := h
  refine ⟨fun xs r m => ∃ z, xs = z.map vv /\ I z r m, ⟨zs, e0, h0⟩, fun y_ y_ y_ ⟨_, _, q⟩ => hg _ _ _ q, ?_, ?_⟩
  · rintro x xs r m ⟨z, e, q⟩
    cases z with
    | nil => cases e
    | cons c z =>
      cases e
      refine wp_mono (hs c z r m q) (fun r' m' q => wp_mono q (fun p m' q => ?_) fun y_ y_ q => q) fun y_ y_ q => q
      obtain ⟨f, r1⟩ := p
      cases f with
      | ret v => exact q
      | next => exact ⟨z, rfl, q⟩
      | cont => exact ⟨z, rfl, q⟩
  · rintro r m ⟨z, e, q⟩
    cases z with
    | nil => exact hn r m q
    | cons c z => cases e
end Mini
namespace Mini
open PySem
inductive Pl (m : MH) : V -> Prop
 | none : Pl m .none
 | bool (b : Bool) : Pl m (.bool b)
 | int (i : Int) : Pl m (.int i)
 | str (s : Str) (h : s.length <= 64) : Pl m (.str s)
 | tup (xs : List V) (h : xs.length <= 64) : Pl m (.tup xs)
 | list (p : Nat) (xs : List V) (h : m[p]? = some (.list xs)) : Pl m (.ref p)
 | dict (p : Nat) (kvs : List (Ky × V)) (e : Nat) (h : m[p]? = some (.dict kvs e)) : Pl m (.ref p)
noncomputable def vI : V -> Bool | .int _ => true | .bool _ => true | _ => false
noncomputable def vB : V -> Bool | .bool _ => true | _ => false
noncomputable def vS : V -> Bool | .str _ => true | _ => false
noncomputable def vW : V -> Bool | .int _ => true | _ => false
section
variable {S : Sig} {m : MH} {v : V}
theorem cL2 (h : Pl m v) : eN S v .int m = .ok (vI v) m := by
 cases h with
 | list p xs hp => unfold eN; dsimp only; rw [hp]; rfl
 | dict p kvs e hp => unfold eN; dsimp only; rw [hp]; rfl
 | _ => rfl
theorem bW7 (h : Pl m v) : eN S v .bool m = .ok (vB v) m := by
 cases h with
 | list p xs hp => unfold eN; dsimp only; rw [hp]; rfl
 | dict p kvs e hp => unfold eN; dsimp only; rw [hp]; rfl
 | _ => rfl
theorem bN4 (h : Pl m v) : eN S v .str m = .ok (vS v) m := by
 cases h with
 | list p xs hp => unfold eN; dsimp only; rw [hp]; rfl
 | dict p kvs e hp => unfold eN; dsimp only; rw [hp]; rfl
 | _ => rfl
end
section
variable {S : Sig} {F : Fns} {r : Lo} {m : MH}
theorem aN9 {a : CE} {t : Ty} {x : V} {b : Bool} (ha : ev S F a r m = .ok x m) (h : eN S x t m = .ok b m) : ev S F (.isi a t) r m = .ok (.bool b) m := by
 show Res.bind (ev S F a r m) _ = _
 rw [ha]
 show Res.bind (eN S x t m) _ = _
 rw [h]; rfl
theorem cT1 {a : CE} {b : Bool} (ha : ev S F a r m = .ok (.bool b) m) : ev S F (.not a) r m = .ok (.bool (!b)) m := by
 show Res.bind (ev S F a r m) _ = _
 rw [ha]; rfl
theorem cI5 {a : CE} {c : Bool} {v : V} (ha : ev S F a r m = .ok v m) : ev S F (.boolop c [a]) r m = .ok v m := ha
theorem bT {a : CE} {k : Nat} {x v : V} (ha : ev S F a r m = .ok x m) (h : F k [x] m = .ok v m) : ev S F (.call k [a]) r m = .ok v m := by
 show Res.bind (Res.bind (ev S F a r m) _) _ = _
 rw [ha]; exact h
theorem aO0 {as : List CE} {k : Nat} {vs : List V} {v : V} (ha : evs S F as r m = .ok vs m) (h : F k vs m = .ok v m) : ev S F (.call k as) r m = .ok v m := by
 show Res.bind (evs S F as r m) _ = _
 rw [ha]; exact h
theorem aQ {a b : CE} {o : CmpOp} {x y : V} {t : Bool} (ha : ev S F a r m = .ok x m) (hb : ev S F b r m = .ok y m) (h : aA2 o x y m = .ok t m) : ev S F (.cmp a [o] [b]) r m = .ok (.bool t) m := by
 show Res.bind (ev S F a r m) _ = _
 rw [ha]
 show Res.bind (ev S F b r m) _ = _
 rw [hb]
 show Res.bind (aA2 o x y m) _ = _
 rw [h]; rfl
theorem cJ {c : CB} {a b ss : List CS} {t : Bool} {Q : Fl × Lo -> MH -> Prop} {E : Nat -> MH -> Prop} (h : evT S F c r m = .ok t m) (k : Wp (exs S F ((bif t then a else b) ++ ss) r) m Q E) : Wp (exs S F (.ite c a b :: ss) r) m Q E := aG4 (aH h k)
theorem aA9 {c : Bool} : aT8 S F c [] r m = .ok c m := rfl
theorem fC {c : Bool} {bs : List CB} {b : Bool} (h : aT8 S F c bs r m = .ok b m) : evT S F (.all c bs) r m = .ok b m := h
end
theorem aC6 {α : Type} {x : Mn α} {m : MH} {a : α} (h : Wp x m (fun v m' => v = a /\ m' = m) nox) : x m = .ok a m := by
 obtain ⟨y_, y_, e, rfl, rfl⟩ := fF h
 exact e
noncomputable def b_at : List CS := [.ite (.val (.cmp (.var 1) [.Lt] [.bi .len [.var 0]])) [.ret (.idx (.var 0) (.var 1))] [], .ret (.cnst (.int 0))]
noncomputable def at0 (ns : List Int) (k : Int) : Int := (ns[k.toNat]?).getD 0
theorem cZ7 {S : Sig} {k : Nat} (h : eQ S k 2 2 b_at) (n : Nat) (ns : List Int) (j : Int) (hj : 0 <= j) (m : MH) : run S (n + 1) k [.scr ns, .int j] m = .ok (.int (at0 ns j)) m := by
 refine aC6 (cE h rfl (cJ (t := decide (j < (ns.length : Int))) rfl ?_))
 by_cases hl : j < (ns.length : Int)
 ·rw [decide_eq_true hl]
  refine bG (bL2 (aC rfl (aC rfl (aH (a := .int (at0 ns j)) (m' := m) ?_ ⟨rfl, rfl⟩))))
  show (if 0 <= j then ofO ((ns[j.toNat]?).map V.int) m else .bad) = _
  rw [if_pos hj]
  unfold at0
  rw [List.getElem?_eq_getElem (show j.toNat < ns.length by omega)]; rfl
 ·rw [decide_eq_false hl]
  refine bG (aC rfl ⟨?_, rfl⟩)
  unfold at0
  rw [List.getElem?_eq_none (by omega)]; rfl
noncomputable def aP8 : List CS := [.ret (.boolop true [.isi (.var 0) .int, .not (.isi (.var 0) .bool)])]
theorem eR {S : Sig} {k : Nat} (h : eQ S k 1 1 aP8) (n : Nat) {m : MH} {v : V} (hv : Pl m v) : run S (n + 1) k [v] m = .ok (.bool (vW v)) m := by
 refine aC6 (cE h rfl (bG (aH (bU4 (aN9 rfl (cL2 hv)) (cI5 (cT1 (aN9 rfl (bW7 hv))))) ⟨?_, rfl⟩)))
 cases hv <;> rfl
noncomputable def cE2 (kW gM c : Nat) : List CS := [.ite (.all false [.not (.val (.call kW [.var 0])), .not (.val (.cmp (.cnst (.int 1)) [.LtE, .LtE] [.var 0, .glob gM]))]) [.rse c (Str.ofString "a town has 1 to 12 houses")] []]
noncomputable def isC : V -> Bool | .int i => decide (1 <= i) && decide (i <= 12) | _ => false
theorem aX0 {S : Sig} {k kW gM c : Nat} {gn : Str} (h : eQ S k 1 1 (cE2 kW gM c)) (hW : eQ S kW 1 1 aP8) (hM : S.globs[gM]? = some (gn, .int 12)) (n : Nat) {m : MH} {v : V} (hv : Pl m v) : run S (n + 2) k [v] m = if isC v then .ok .none m else .exc c m := by
 have e1 : ev S (run S (n + 1)) (.call kW [.var 0]) [some v] m = .ok (.bool (vW v)) m := eR hW n hv
 have eg : ev S (run S (n + 1)) (.glob gM) [some v] m = .ok (.int 12) m := by
  show (match S.globs[gM]? with | some p => ret p.2.val | Option.none => bad) m = _
  rw [hM]; rfl
 have e3 : aT8 S (run S (n + 1)) false [.not (.val (.call kW [.var 0])), .not (.val (.cmp (.cnst (.int 1)) [.LtE, .LtE] [.var 0, .glob gM]))] [some v] m = .ok (!isC v) m := by
  have no : vW v = false -> isC v = false -> aT8 S (run S (n + 1)) false [.not (.val (.call kW [.var 0])), .not (.val (.cmp (.cnst (.int 1)) [.LtE, .LtE] [.var 0, .glob gM]))] [some v] m = .ok (!isC v) m := fun h1 h2 => by
   show Res.bind (evT S (run S (n + 1)) (.not (.val (.call kW [.var 0]))) [some v] m) _ = _
   rw [dA (aS e1), h1, h2]; rfl
  cases hv with
  | int i => exact (b0 (dA (aS e1)) (b0 (dA (aS (bK7 rfl rfl eg rfl rfl))) aA9)).trans (by rw [Bool.or_false]; rfl)
  | _ => exact no rfl rfl
 rw [bA0 h rfl]
 show Res.bind (Res.bind (Res.bind (aT8 S (run S (n + 1)) false [.not (.val (.call kW [.var 0])), .not (.val (.cmp (.cnst (.int 1)) [.LtE, .LtE] [.var 0, .glob gM]))] [some v] m) _) _) _ = _
 rw [e3]
 cases isC v <;> rfl
end Mini
namespace Mini
open PySem
noncomputable def letterS : Str := Str.ofString "abcdefghijklmnopqrstuvwxyz"
noncomputable def letters : List Nat := letterS.cps.toList
noncomputable def okC (c : Nat) : Bool := decide (c ∈ letters)
noncomputable def ch (c : Nat) : V := .str ⟨#[c]⟩
noncomputable def bU2 (s : Str) : Bool := decide ((1 : Int) <= (s.length : Int)) && decide ((s.length : Int) <= 8)
noncomputable def cE0 : V -> Bool | .str s => !bU2 s | _ => true
noncomputable def cS8 : V -> Bool | .str s => bU2 s && s.cps.toList.all okC | _ => false
section
variable {S : Sig} {F : Fns} {m : MH}
theorem cT2 {s : Str} {r : Lo} {a : CE} (ha : ev S F a r m = .ok (.str s) m) (h : s.length <= lid) : ev S F (.bi .len [a]) r m = .ok (.int s.length) m := by
 show Res.bind (Res.bind (ev S F a r m) _) _ = _
 rw [ha]
 exact if_pos h
theorem cB9 {g : Nat} {nm : Str} {l : Lt} {r : Lo} (h : S.globs[g]? = some (nm, l)) : ev S F (.glob g) r m = .ok l.val m := by
 show (match S.globs[g]? with | some p => ret p.2.val | Option.none => bad) m = _
 rw [h]; rfl
theorem bV9 {r : Lo} {v : V} {x y : CE} (hv : Pl m v) (hx : ev S F x r m = .ok v m) (hy : ev S F y r m = .ok (.int 8) m) :
  evT S F (.all false [.not (.val (.isi x .str)), .not (.val (.cmp (.cnst (.int 1)) [.LtE, .LtE] [.bi .len [x], y]))]) r m = .ok (cE0 v) m := by
 have no : vS v = false -> evT S F (.all false [.not (.val (.isi x .str)), .not (.val (.cmp (.cnst (.int 1)) [.LtE, .LtE] [.bi .len [x], y]))]) r m = .ok true m := fun h => by
  show Res.bind (evT S F (.not (.val (.isi x .str))) r m) _ = _
  rw [dA (aS (aN9 hx (bN4 hv))), h]; rfl
 cases hv with
 | str s hs => exact (b0 (dA (aS (aN9 hx (bN4 (.str s hs))))) (b0 (dA (aS (bK7 rfl (cT2 hx (by unfold lid; omega)) hy rfl rfl))) aA9)).trans (by rw [Bool.or_false]; rfl)
 | _ => exact no rfl
end
noncomputable def bC5 (gL gM : Nat) : List CS := [
 .ite (.all false [.not (.val (.isi (.var 0) .str)), .not (.val (.cmp (.cnst (.int 1)) [.LtE, .LtE] [.bi .len [.var 0], .glob gM]))]) [.ret (.cnst (.bool false))] [],
 .for_ .expr (.one 1) [.var 0] [.ite (.val (.cmp (.var 1) [.NotIn] [.glob gL])) [.ret (.cnst (.bool false))] []],
 .ret (.cnst (.bool true))]
theorem bN6 {S : Sig} {k gL gM : Nat} {n1 n2 : Str} (h : eQ S k 1 2 (bC5 gL gM)) (hL : S.globs[gL]? = some (n1, .str letterS)) (hM : S.globs[gM]? = some (n2, .int 8)) (n : Nat) {m : MH} {v : V} (hv : Pl m v) : run S (n + 1) k [v] m = .ok (.bool (cS8 v)) m := by
 refine aC6 (cE h rfl (cJ (bV9 hv rfl (cB9 hM)) ?_))
 have no : vS v = false -> Wp (exs S (run S n) [.ret (.cnst (.bool false))] [some v, Option.none]) m (fun p m' => match p.1 with | .ret u => u = .bool (cS8 v) /\ m' = m | .next => V.none = .bool (cS8 v) /\ m' = m | .cont => False) nox := fun h => by
  refine bG (aC rfl ⟨?_, rfl⟩)
  cases v <;> first | rfl | cases h
 cases hv with
 | str s hs =>
  rw [show cE0 (.str s) = !bU2 s from rfl]
  cases hr : bU2 s with
  | false =>
   refine bG (aC rfl ⟨?_, rfl⟩)
   show V.bool false = .bool (bU2 s && s.cps.toList.all okC)
   rw [hr]; rfl
  | true =>
   refine aG5 s.cps.toList ch (fun zs r m' => m' = m /\ (∃ u, r = [some (.str s), u]) /\ s.cps.toList.all okC = zs.all okC) (aC rfl (aC rfl ⟨rfl, ⟨rfl, ⟨_, rfl⟩, rfl⟩, fun y_ y_ y_ y_ => rfl, ?_, ?_⟩))
   ·rintro c zs r m' ⟨rfl, ⟨u, rfl⟩, e⟩
    refine aC rfl (cJ (t := !okC c) (aS (aQ rfl (cB9 hL) rfl)) ?_)
    rw [List.all_cons] at e
    cases hc : okC c with
    | true => exact aJ1 ⟨rfl, ⟨_, rfl⟩, by rw [e, hc]; rfl⟩
    | false =>
     refine bG (aC rfl ⟨?_, rfl⟩)
     show V.bool false = .bool (bU2 s && s.cps.toList.all okC)
     rw [e, hc, Bool.false_and, Bool.and_false]
   ·rintro r m' ⟨rfl, y_, e⟩
    refine bG (aC rfl ⟨?_, rfl⟩)
    show V.bool true = .bool (bU2 s && s.cps.toList.all okC)
    rw [hr, e]; rfl
 | none => exact no rfl
 | bool b => exact no rfl
 | int i => exact no rfl
 | tup xs h => exact no rfl
 | list p xs hp => exact no rfl
 | dict p kvs e hp => exact no rfl
end Mini
namespace Mini
open PySem
section
variable {S : Sig} {F : Fns} {r : Lo} {m : MH}
theorem bN {a b : CE} {op : Operator} {x y v : V} (ha : ev S F a r m = .ok x m) (hb : ev S F b r m = .ok y m) (h : bF6 op x y m = .ok v m) : ev S F (.bin op a b) r m = .ok v m := by
 show Res.bind (ev S F a r m) _ = _
 rw [ha]
 show Res.bind (ev S F b r m) _ = _
 rw [hb]; exact h
theorem aT {a b : CE} {x y v : V} (ha : ev S F a r m = .ok x m) (hb : ev S F b r m = .ok y m) (h : aI8 x y m = .ok v m) : ev S F (.idx a b) r m = .ok v m := by
 show Res.bind (ev S F a r m) _ = _
 rw [ha]
 show Res.bind (ev S F b r m) _ = _
 rw [hb]; exact h
theorem bM0 {i j : Int} (h : i.natAbs < 1073741824 \/ j.natAbs < 1073741824) : bF6 .Mult (.int i) (.int j) m = .ok (.int (i * j)) m := if_pos h
theorem aL7 {i j : Int} (h : 0 < j) : bF6 .Mod (.int i) (.int j) m = .ok (.int (i % j)) m := if_pos h
theorem cS5 {a : CB} {as : List CB} (ha : evT S F a r m = .ok true m) : aT8 S F false (a :: as) r m = .ok true m := by
 show Res.bind (evT S F a r m) _ = _
 rw [ha]; rfl
end
end Mini
namespace Mini
open PySem
noncomputable def kq : List Nat := (Str.ofString "kqxz").cps.toList
noncomputable def b7 (b k : Int) : Int := b + 31 * k * (b % 2)
noncomputable def size (b k : Int) : Int := b7 b k / 26 % 8
noncomputable def aD1 (b k : Int) (j : Nat) : Nat := (letters[((b7 b k + 5 * (j : Int) * (1 + b7 b k % 3)) % 26).toNat]?).getD 0
noncomputable def bE (b k : Int) : List Nat := (List.range (size b k).toNat).map (aD1 b k)
noncomputable def here (b k : Int) : Int := if b % 2 = 0 then b / 4 % (size b k + 1) else size b k
noncomputable def four : List Str := [Str.ofString "say", Str.ofString "mark", Str.ofString "by", Str.ofString "house"]
noncomputable def fourL : List (List Nat) := four.map fun s => s.cps.toList
noncomputable def kqx (k : Int) : Nat := (kq[(k % 4).toNat]?).getD 0
noncomputable def bA1 (b k : Int) : List Nat := if b % 9 = 4 then (fourL[(k % 4).toNat]?).getD []
 else (bE b k).take (here b k).toNat ++ [kqx k] ++ (bE b k).drop (here b k).toNat
noncomputable def row (b k : Int) : Str := ⟨(bA1 b k).toArray⟩
theorem aN4 (b k : Int) : 0 <= size b k /\ size b k < 8 := by
 show 0 <= b7 b k / 26 % 8 /\ b7 b k / 26 % 8 < 8
 exact ⟨md0 (by decide), md1 (by decide)⟩
theorem aN3 (b k : Int) : 0 < size b k + 1 := Int.lt_add_one_of_le (aN4 b k).1
theorem bN8 (b k : Int) : 0 <= here b k /\ here b k <= size b k := by
 unfold here
 by_cases h : b % 2 = 0
 ·rw [if_pos h]; exact ⟨md0 (aN3 b k), Int.le_of_lt_add_one (md1 (aN3 b k))⟩
 ·rw [if_neg h]; exact ⟨(aN4 b k).1, Int.le_refl _⟩
theorem aZ5 (b k : Int) : (bE b k).length = (size b k).toNat := by simp [bE]
theorem aH2 : letters.length = 26 := by decide +kernel
theorem cC8 : kq.length = 4 := by decide +kernel
theorem cV2 : kq.all okC = true := by decide +kernel
theorem bX5 : (fourL.all fun l => l.all okC && decide (1 <= l.length) && decide (l.length <= 8)) = true := by decide +kernel
theorem aX6 : letters.all okC = true := by decide +kernel
theorem bE0 (b k : Int) (j : Nat) : okC (aD1 b k j) = true := by
 have h4 : ((b7 b k + 5 * (j : Int) * (1 + b7 b k % 3)) % 26).toNat < letters.length := by rw [aH2]; exact mdN (by decide) (by decide)
 unfold aD1
 rw [List.getElem?_eq_getElem h4]
 exact List.all_eq_true.mp aX6 _ (List.getElem_mem h4)
theorem bT6 (b k : Int) : (bE b k).all okC = true := by
 rw [List.all_eq_true]
 intro c hc
 obtain ⟨j, y_, rfl⟩ := List.mem_map.mp hc
 exact bE0 b k j
theorem cV1 (k : Int) : okC (kqx k) = true := by
 have h4 : (k % 4).toNat < kq.length := by rw [cC8]; exact mdN (by decide) (by decide)
 unfold kqx
 rw [List.getElem?_eq_getElem h4]
 exact List.all_eq_true.mp cV2 _ (List.getElem_mem h4)
theorem cB5 {l : List Nat} {n x : Nat} : (l.take n ++ [x] ++ l.drop n).length = l.length + 1 := by
 rw [List.length_append, List.length_append, List.length_singleton, Nat.add_right_comm, <- List.length_append, List.take_append_drop]
theorem bK3 (b k : Int) : (bA1 b k).all okC = true /\ 1 <= (bA1 b k).length /\ (bA1 b k).length <= 8 := by
 unfold bA1
 split
 ·have h4 : (k % 4).toNat < fourL.length := mdN (k := 4) (by decide) (by decide)
  rw [List.getElem?_eq_getElem h4]
  have := List.all_eq_true.mp bX5 _ (List.getElem_mem h4)
  simp only [Bool.and_eq_true, decide_eq_true_eq] at this
  exact ⟨this.1.1, this.1.2, this.2⟩
 ·have hs := aN4 b k
  have hh := bN8 b k
  have hlen := aZ5 b k
  have ta := bT6 b k
  have e : (bE b k).all okC = (((bE b k).take (here b k).toNat).all okC && ((bE b k).drop (here b k).toNat).all okC) := by rw [<- List.all_append, List.take_append_drop]
  rw [ta] at e
  obtain ⟨e1, e2⟩ := Bool.and_eq_true_iff.mp e.symm
  refine ⟨?_, ?_, ?_⟩
  ·rw [List.all_append, List.all_append, e1, e2]
   show (true && (okC (kqx k) && true) && true) = true
   rw [cV1]; rfl
  ·rw [cB5]; exact Nat.le_add_left _ _
  ·rw [cB5, hlen]
   exact Nat.succ_le_of_lt (bI6 hs.1 hs.2)
theorem bK2 (b k : Int) : cS8 (.str (row b k)) = true := by
 obtain ⟨h1, h2, h3⟩ := bK3 b k
 have e : (row b k).length = (bA1 b k).length := by show (bA1 b k).toArray.size = _; rw [List.size_toArray]
 show (bU2 (row b k) && (bA1 b k).toArray.toList.all okC) = true
 unfold bU2
 rw [e, decide_eq_true (show (1 : Int) <= (bA1 b k).length from Int.ofNat_le.mpr h2), decide_eq_true (show ((bA1 b k).length : Int) <= 8 from Int.ofNat_le.mpr h3), h1]; rfl
theorem cH9 (b k : Int) : 1 <= (row b k).length /\ (row b k).length <= 8 := by
 obtain ⟨h1, h2, h3⟩ := bK3 b k
 have e : (row b k).length = (bA1 b k).length := by show (bA1 b k).toArray.size = _; rw [List.size_toArray]
 rw [e]; exact ⟨h2, h3⟩
theorem aF9 (a b : List Nat) : (⟨a.toArray⟩ : Str) ++ ⟨b.toArray⟩ = ⟨(a ++ b).toArray⟩ := by
 show Str.append _ _ = _
 simp [Str.append]
theorem bN3 : ∀ (cs : List Nat) (acc : List Nat), (cs.map fun c => (⟨#[c]⟩ : Str)).foldl (fun a p => a ++ (Str.ofString "") ++ p) ⟨acc.toArray⟩ = ⟨(acc ++ cs).toArray⟩
 | [], acc => by simp
 | c :: cs, acc => by
  have e0 : Str.ofString "" = ⟨([] : List Nat).toArray⟩ := by decide +kernel
  have e1 : (⟨acc.toArray⟩ : Str) ++ Str.ofString "" ++ ⟨#[c]⟩ = ⟨(acc ++ [c]).toArray⟩ := by
   have e2 := aF9 acc []
   rw [List.append_nil] at e2
   rw [e0, e2]; exact aF9 acc [c]
  rw [List.map_cons, List.foldl_cons, e1, bN3 cs (acc ++ [c])]; simp
theorem bW4 (cs : List Nat) : aJ4 (Str.ofString "") (cs.map fun c => (⟨#[c]⟩ : Str)) = ⟨cs.toArray⟩ := by
 cases cs with
 | nil => rfl
 | cons c cs => exact bN3 cs [c]
theorem cB0 : ∀ (cs : List Nat) (k : Nat), (cs.map fun c => (⟨#[c]⟩ : Str)).foldl (fun k x => k + x.length + (Str.ofString "").length) k = k + cs.length
 | [], k => rfl
 | c :: cs, k => by
  have e0 : (Str.ofString "").length = 0 := by decide +kernel
  have e1 : (⟨#[c]⟩ : Str).length = 1 := rfl
  rw [List.map_cons, List.foldl_cons, cB0 cs, e0, e1, List.length_cons, Nat.add_zero, Nat.add_assoc, Nat.add_comm 1]
theorem bB3 : ∀ cs : List Nat, d7 (cs.map ch) = some (cs.map fun c => (⟨#[c]⟩ : Str))
 | [] => rfl
 | c :: cs => by show (d7 (cs.map ch)).map _ = _; rw [bB3 cs]; rfl
theorem bM7 (b k : Int) (j : Nat) (m : MH) : aI8 (.str (Str.ofString "abcdefghijklmnopqrstuvwxyz")) (.int ((b7 b k + 5 * (0 + (j : Int)) * (1 + b7 b k % 3)) % 26)) m = .ok (ch (aD1 b k j)) m := by
 have h1 : ((b7 b k + 5 * (0 + (j : Int)) * (1 + b7 b k % 3)) % 26).natAbs < 2 ^ 60 := md60 (by decide) (by decide)
 have h4 : ((b7 b k + 5 * (j : Int) * (1 + b7 b k % 3)) % 26).toNat < letters.length := by rw [aH2]; exact mdN (by decide) (by decide)
 have h2 : at_ letters ((b7 b k + 5 * (0 + (j : Int)) * (1 + b7 b k % 3)) % 26) = some (aD1 b k j) := by
  rw [Int.zero_add]; unfold at_ aD1; rw [if_pos (md0 (by decide)), List.getElem?_eq_getElem h4]; rfl
 show (if _ then ofO ((at_ letters _).map fun c => V.str ⟨#[c]⟩) m else .bad) = _
 rw [if_pos h1, h2]; rfl
theorem cJ3 {x : Int} : (1 + x % 3).natAbs < 1073741824 := by omega
theorem cQ8 {m : MH} {p : Nat} {cs : List Nat} {Q : V -> MH -> Prop} {E : Nat -> MH -> Prop} (h : m[p]? = some (.list (cs.map ch))) (hl : cs.length <= lid) (q : Q (.str ⟨cs.toArray⟩) m) : Wp (cW 2 (.str (Str.ofString "")) .join [.ref p]) m Q E := by
 refine aH (m' := m) ?_ q
 show (match m[p]? with | some (.list xs) => (match d7 xs with | some l => if fH (Str.ofString "") l <= lid then Res.ok (V.str (aJ4 (Str.ofString "") l)) m else .bad | Option.none => .bad) | _ => .bad) = _
 rw [h]; dsimp only; rw [bB3]; dsimp only
 rw [if_pos (by unfold fH; rw [cB0, Nat.zero_add]; exact hl), bW4]
theorem bK6 {S : Sig} {F : Fns} {r : Lo} {m : MH} {a lo hi st : CE} {x l h t v : V} (ha : ev S F a r m = .ok x m) (hl : ev S F lo r m = .ok l m) (hh : ev S F hi r m = .ok h m) (ht : ev S F st r m = .ok t m) (e : aA8 x l h t m = .ok v m) : ev S F (.slice a lo hi st) r m = .ok v m := by
 show Res.bind (ev S F a r m) _ = _
 rw [ha]
 show Res.bind (ev S F lo r m) _ = _
 rw [hl]
 show Res.bind (ev S F hi r m) _ = _
 rw [hh]
 show Res.bind (ev S F st r m) _ = _
 rw [ht]; exact e
theorem cS1 {n : Int} {m : MH} (h : n.natAbs < 2 ^ 30) : aB8 .range [.int n] m = .ok ((List.range n.toNat).map fun (j : Nat) => V.int (0 + (j : Int)), .none) m := by
 have er : fI [.int n] = some ((List.range (n - 0).toNat).map fun (j : Nat) => V.int (0 + (j : Int))) := by
  show (if n.natAbs < 2 ^ 30 then some (aR3 0 n) else none) = _
  rw [if_pos h]; rfl
 rw [Int.sub_zero] at er
 show (match fI [.int n] with | some l => ret (l, Gd.none) | none => bad) m = _
 rw [er]; rfl
noncomputable def b_row : List CS := [
 .asg (.one (.one 2)) (.cnst (.str (Str.ofString "abcdefghijklmnopqrstuvwxyz"))),
 .asg (.one (.one 3)) (.bin .Add (.var 0) (.bin .Mult (.bin .Mult (.cnst (.int 31)) (.var 1)) (.bin .Mod (.var 0) (.cnst (.int 2))))),
 .asg (.one (.one 4)) (.bin .Mod (.bin .FloorDiv (.var 3) (.cnst (.int 26))) (.cnst (.int 8))),
 .asg (.one (.one 5)) (.smeth (.cnst (.str (Str.ofString ""))) .join [.comp (.idx (.var 2) (.bin .Mod (.bin .Add (.var 3) (.bin .Mult (.bin .Mult (.cnst (.int 5)) (.var 7)) (.bin .Add (.cnst (.int 1)) (.bin .Mod (.var 3) (.cnst (.int 3)))))) (.cnst (.int 26)))) (.one 7) 1 .range [.var 4] []]),
 .asg (.one (.one 6)) (.var 4),
 .ite (.val (.cmp (.bin .Mod (.var 0) (.cnst (.int 2))) [.Eq] [.cnst (.int 0)])) [
  .asg (.one (.one 6)) (.bin .Mod (.bin .FloorDiv (.var 0) (.cnst (.int 4))) (.bin .Add (.var 4) (.cnst (.int 1))))] [],
 .ite (.val (.cmp (.bin .Mod (.var 0) (.cnst (.int 9))) [.Eq] [.cnst (.int 4)])) [
  .ret (.idx (.list [.cnst (.str (Str.ofString "say")), .cnst (.str (Str.ofString "mark")), .cnst (.str (Str.ofString "by")), .cnst (.str (Str.ofString "house"))]) (.bin .Mod (.var 1) (.cnst (.int 4))))] [],
 .ret (.bin .Add (.bin .Add (.slice (.var 5) (.cnst .none) (.var 6) (.cnst .none)) (.idx (.cnst (.str (Str.ofString "kqxz"))) (.bin .Mod (.var 1) (.cnst (.int 4))))) (.slice (.var 5) (.var 6) (.cnst .none) (.cnst .none)))]
theorem cB4 {S : Sig} {kf : Nat} (h : eQ S kf 2 7 b_row) (n : Nat) (b k : Int) (m : MH) : Wp (run S (n + 1) kf [.int b, .int k]) m (fun v m' => v = .str (row b k) /\ Le m m') nox := by
 have hs := aN4 b k
 have hh := bN8 b k
 have hlen := aZ5 b k
 have hl7 : (bE b k).length <= 7 := by rw [hlen]; exact Nat.le_of_lt_succ (bI6 hs.1 hs.2)
 have hlid : (bE b k).length <= lid := bM hl7 (by decide)
 refine cE h rfl ?_
 refine bC (aC rfl ?_)
 refine bC (aH (a := .int (b7 b k)) (m' := m) (bN rfl (bN (bN rfl rfl rfl) (bN rfl rfl rfl) (bM0 (Or.inr (md30 (by decide) (by decide))))) rfl) ?_)
 refine bC (aH (a := .int (size b k)) (m' := m) (bN (bN rfl rfl rfl) rfl rfl) ?_)
 refine bC (bH (aC rfl ⟨2, rfl, rfl, aD (bL1 (List.range (size b k).toNat) (fun (j : Nat) => V.int (0 + (j : Int))) (fun j => ch (aD1 b k j)) (fun m' => m' = m) (aC rfl (aH (cS1 (bR1 (c := 2 ^ 30) hs.1 hs.2 (by decide))) ⟨rfl, rfl, fun y_ y_ => rfl, ?_, by rw [List.length_range, <- hlen]; exact hlid, ?_⟩)))⟩))
 ·rintro j y_ m' rfl
  exact aC rfl (aH (aT rfl (bN (bN rfl (bN (bN rfl rfl rfl) (bN rfl (bN rfl rfl rfl) rfl) (bM0 (Or.inr cJ3))) rfl) rfl rfl) (bM7 b k j m')) ⟨rfl, rfl⟩)
 intro p m0 m2 em l2 kp y_
 rw [em] at l2
 have el : (List.range (size b k).toNat).map (fun j => ch (aD1 b k j)) = (bE b k).map ch := by
  unfold bE; rw [List.map_map]; rfl
 rw [el] at kp
 refine aC rfl (cQ8 kp hlid ?_)
 refine bC (aC rfl ?_)
 have fin : ∀ a : Int, a = here b k -> Wp (exs S (run S n) (b_row.drop 6) [some (.int b), some (.int k), some (.str (Str.ofString "abcdefghijklmnopqrstuvwxyz")), some (.int (b7 b k)), some (.int (size b k)), some (.str ⟨(bE b k).toArray⟩), some (.int a)]) m2 (fun p m' => match p.1 with | .ret v => v = .str (row b k) /\ Le m m' | .next => V.none = .str (row b k) /\ Le m m' | .cont => False) nox := by
  rintro y_ rfl
  refine cJ (t := b % 9 == 4) (aS (aQ (bN rfl rfl rfl) rfl rfl)) ?_
  have ek : k % 4 = ((k % 4).toNat : Int) := cK3 (by decide)
  cases h9 : b % 9 == 4 with
  | true =>
   have h9' : b % 9 = 4 := eq_of_beq h9
   have h4 : (k % 4).toNat < four.length := mdN (k := 4) (by decide) (by decide)
   refine bG (bL2 (aW (aC rfl (aK fun q m3 l3 k3 y_ => aC rfl ?_))))
   refine cA6 (v := .str (row b k)) (xs := four.map V.str) k3 ?_ (md60 (by decide) (by decide)) ⟨rfl, l2.trans l3⟩
   rw [ek]; unfold at_; rw [if_pos (Int.natCast_nonneg _), Int.toNat_natCast, List.getElem?_map, List.getElem?_eq_getElem h4]
   unfold row bA1; rw [if_pos h9']
   unfold fourL
   rw [List.getElem?_map, List.getElem?_eq_getElem h4]
   show some (V.str _) = some (V.str ⟨(four[(k % 4).toNat]).cps.toList.toArray⟩)
   rw [Array.toArray_toList]
  | false =>
   have h9' : ¬ b % 9 = 4 := fun q => by rw [q] at h9; exact absurd h9 (by decide)
   have h4 : (k % 4).toNat < kq.length := by rw [cC8]; exact mdN (by decide) (by decide)
   have l1 : ((bE b k).take (here b k).toNat).length <= 7 := by rw [List.length_take]; exact Nat.le_trans (Nat.min_le_right _ _) hl7
   have l2' : ((bE b k).drop (here b k).toNat).length <= 7 := by rw [List.length_drop]; exact Nat.le_trans (Nat.sub_le _ _) hl7
   have hb2 : aE2 (.int (here b k)) = some (some (here b k)) := by show (if (here b k).natAbs < 2 ^ 60 then _ else _) = _; rw [if_pos (dA0 hh.1 (Int.lt_of_le_of_lt hh.2 hs.2) (by decide))]
   have hcl : cY (bE b k).length (here b k) = (here b k).toNat := by unfold cY; rw [if_pos hh.1, Nat.min_eq_left (by rw [hlen]; exact aK3 hh.2)]
   have sl1 : eF (bE b k) .none (.int (here b k)) .none = some ((bE b k).take (here b k).toNat) := by
    unfold eF; dsimp only; rw [hb2]
    show some (((bE b k).take (cY (bE b k).length (here b k))).drop 0) = _
    rw [hcl, List.drop_zero]
   have sl2 : eF (bE b k) (.int (here b k)) .none .none = some ((bE b k).drop (here b k).toNat) := by
    unfold eF; dsimp only; rw [hb2]
    show some (((bE b k).take (bE b k).length).drop (cY (bE b k).length (here b k))) = _
    rw [hcl, List.take_length]
   have s1 : aA8 (.str ⟨(bE b k).toArray⟩) .none (.int (here b k)) .none m2 = .ok (.str ⟨((bE b k).take (here b k).toNat).toArray⟩) m2 := by
    show (if (bE b k).length <= lid then ofO ((eF (bE b k) .none (.int (here b k)) .none).map fun l => V.str ⟨l.toArray⟩) m2 else .bad) = _
    rw [if_pos hlid, sl1]; rfl
   have s2 : aA8 (.str ⟨(bE b k).toArray⟩) (.int (here b k)) .none .none m2 = .ok (.str ⟨((bE b k).drop (here b k).toNat).toArray⟩) m2 := by
    show (if (bE b k).length <= lid then ofO ((eF (bE b k) (.int (here b k)) .none .none).map fun l => V.str ⟨l.toArray⟩) m2 else .bad) = _
    rw [if_pos hlid, sl2]; rfl
   have e4 : aI8 (.str (Str.ofString "kqxz")) (.int (k % 4)) m2 = .ok (.str ⟨#[kqx k]⟩) m2 := by
    have : at_ kq (k % 4) = some (kqx k) := by
     unfold at_ kqx; rw [if_pos (md0 (by decide)), List.getElem?_eq_getElem h4]; rfl
    show (if (k % 4).natAbs < 2 ^ 60 then ofO ((at_ kq (k % 4)).map fun c => V.str ⟨#[c]⟩) m2 else .bad) = _
    rw [if_pos (md60 (by decide) (by decide)), this]; rfl
   have er : row b k = ⟨((bE b k).take (here b k).toNat).toArray⟩ ++ ⟨#[kqx k]⟩ ++ ⟨((bE b k).drop (here b k).toNat).toArray⟩ := by
    have e1 : ((⟨((bE b k).take (here b k).toNat).toArray⟩ : Str) ++ ⟨#[kqx k]⟩) = ⟨((bE b k).take (here b k).toNat ++ [kqx k]).toArray⟩ := aF9 _ [_]
    rw [e1, aF9]
    unfold row bA1; rw [if_neg h9']
   have adds : ∀ x y : Str, x.length + y.length <= lid -> bF6 .Add (.str x) (.str y) m2 = .ok (.str (x ++ y)) m2 := fun x y h => if_pos h
   rw [er]
   refine bG (aH (bN (bN (bK6 rfl rfl rfl rfl s1) (aT rfl (bN rfl rfl rfl) e4) (adds _ _ ?_)) (bK6 rfl rfl rfl rfl s2) (adds _ _ ?_)) ⟨rfl, l2⟩)
   ·show (List.toArray _).size + 1 <= lid
    rw [List.size_toArray]; exact bM (Nat.succ_le_succ l1) (by decide)
   ·have : ((⟨((bE b k).take (here b k).toNat).toArray⟩ : Str) ++ ⟨#[kqx k]⟩).length <= 8 := by
     refine Nat.le_trans (Nat.le_of_eq (congrArg Str.length (aF9 _ [_]))) ?_
     show (List.toArray _).size <= 8
     rw [List.size_toArray, List.length_append, List.length_singleton]; exact Nat.succ_le_succ l1
    show Str.length _ + (List.toArray _).size <= lid
    rw [List.size_toArray]; exact bM (Nat.add_le_add this l2') (by decide)
 refine cJ (t := b % 2 == 0) (aS (aQ (bN rfl rfl rfl) rfl rfl)) ?_
 cases h2 : b % 2 == 0 with
 | true =>
  have h2' : b % 2 = 0 := eq_of_beq h2
  refine bC (aH (a := .int (b / 4 % (size b k + 1))) (m' := m2) (bN (bN rfl rfl rfl) rfl (aL7 (aN3 b k))) (fin _ ?_))
  unfold here; rw [if_pos h2']
 | false =>
  have h2' : ¬ b % 2 = 0 := fun q => by rw [q] at h2; exact absurd h2 (by decide)
  refine fin _ ?_
  unfold here; rw [if_neg h2']
end Mini
namespace Mini
open PySem
noncomputable def fP : Str := Str.ofString "say"
noncomputable def eM : Str := Str.ofString "mark"
structure Th (m : MH) (v : V) : Prop where
 pl : Pl m v
 sub : ∀ xs, v = .tup xs -> ∀ x ∈ xs, Pl m x
section
variable {S : Sig} {m : MH}
theorem cR1 {v : V} (h : vW v = true) : ∃ i, v = .int i := by
 cases v with
 | int i => exact ⟨i, rfl⟩
 | _ => cases h
end
end Mini
namespace Mini
open PySem
noncomputable def Mod (T : List Nat) (m m' : MH) : Prop := m.length <= m'.length /\ ∀ p, p < m.length -> p ∉ T -> m'[p]? = m[p]?
theorem Mod.trans {T : List Nat} {a b c : MH} (h : Mod T a b) (k : Mod T b c) : Mod T a c := ⟨Nat.le_trans h.1 k.1, fun p q z => (k.2 p (Nat.lt_of_lt_of_le q h.1) z).trans (h.2 p q z)⟩
theorem Mod.mono {T T' : List Nat} {a b : MH} (h : Mod T a b) (s : ∀ x ∈ T, x ∈ T') : Mod T' a b := ⟨h.1, fun p q z => h.2 p q fun y => z (s p y)⟩
theorem Le.mod {T : List Nat} {a b : MH} (h : Le a b) : Mod T a b := ⟨h.1, fun p q y_ => h.2 p q⟩
theorem Mod.has {T : List Nat} {m m' : MH} (h : Mod T m m') {p : Nat} {o : MObj} (k : m[p]? = some o) (z : p ∉ T) : m'[p]? = some o := by
 rw [h.2 p (aO k) z, k]
theorem Mod.set {T : List Nat} {m : MH} {p : Nat} {o : MObj} (h : p ∈ T) : Mod T m (m.set p o) :=
 ⟨by rw [List.length_set]; exact Nat.le_refl _, fun q y_ z => by rw [List.getElem?_set_ne]; rintro rfl; exact z h⟩
section
variable {S : Sig} {F : Fns} {r : Lo} {m : MH} {E : Nat -> MH -> Prop}
theorem cO7 {p c k : Nat} {fs : List (Nat × V)} {v : V} (h : m[p]? = some (.inst c fs)) (hv : aQ0 k fs = some v) : aB7 (.ref p) k m = .ok v m := by
 unfold aB7; dsimp only; rw [h]; dsimp only; rw [hv]; rfl
theorem bD {a : CE} {p c k : Nat} {fs : List (Nat × V)} {v : V} (ha : ev S F a r m = .ok (.ref p) m) (h : m[p]? = some (.inst c fs)) (hv : aQ0 k fs = some v) : ev S F (.attr a k) r m = .ok v m := by
 show Res.bind (ev S F a r m) _ = _
 rw [ha]; exact cO7 h hv
theorem bL {o : CE} {k : Nat} {as : List CE} {Q : V -> MH -> Prop} (h : Wp (ev S F o r) m (fun x m' => ∃ p c fs d j, x = .ref p /\ m'[p]? = some (.inst c fs) /\ S.cls[c]? = some d /\ aQ0 k fs = none /\ d.meths.lookup k = some j /\ Wp (evs S F as r) m' (fun vs m'' => Wp (F j (.ref p :: vs)) m'' Q E) E) E) : Wp (ev S F (.meth o k as) r) m Q E := by
 refine aL (x := ev S F o r) (wp_mono h (fun x m' q => ?_) fun y_ y_ q => q)
 obtain ⟨p, c, fs, d, j, rfl, h1, h2, h3, h4, q⟩ := q
 have em : fD S k (.ref p) m' = .ok j m' := by unfold fD; dsimp only; rw [h1]; dsimp only; rw [h2]; dsimp only; rw [h3]; dsimp only; rw [h4]; rfl
 exact aL (aH em (aL (x := evs S F as r) q))
theorem cT5 {c : Nat} {as : List CE} {Q : V -> MH -> Prop} (h : Wp (evs S F as r) m (fun vs m' => ∃ d k, S.cls[c]? = some d /\ d.exc = false /\ d.init = some k /\ Wp (F k (.ref m'.length :: vs)) (m' ++ [.inst c []]) (fun u m'' => u = .none /\ Q (.ref m'.length) m'') E) E) : Wp (ev S F (.new c as) r) m Q E := by
 refine aL (x := evs S F as r) (wp_mono h (fun vs m' q => ?_) fun y_ y_ q => q)
 obtain ⟨d, k, h1, h2, h3, q⟩ := q
 unfold cK0
 rw [h1]; dsimp only; rw [h2, h3]
 show Wp (bnd (alloc (.inst c [])) fun x => bnd (F k (x :: vs)) (cU5 x)) m' Q E
 refine aL (aH (a := .ref m'.length) (m' := m' ++ [.inst c []]) rfl (aL (x := F k (.ref m'.length :: vs)) (wp_mono q (fun u m'' z => ?_) fun y_ y_ z => z)))
 obtain ⟨rfl, z⟩ := z
 exact z
variable {Q : Fl × Lo -> MH -> Prop} {ss : List CS}
theorem aR1 {o e : CE} {k : Nat} (h : Wp (ev S F e r) m (fun v m' => Wp (ev S F o r) m' (fun x m'' => ∃ p c fs, x = .ref p /\ m''[p]? = some (.inst c fs) /\ Wp (exs S F ss r) (m''.set p (.inst c (d8 k v fs))) Q E) E) E) : Wp (exs S F (.asg (.attr o k) e :: ss) r) m Q E := by
 refine eI (aL (x := ev S F e r) (wp_mono h (fun v m' q => aL (aL (x := ev S F o r) (wp_mono q (fun x m'' q => ?_) fun y_ y_ q => q))) fun y_ y_ q => q))
 obtain ⟨p, c, fs, rfl, h1, q⟩ := q
 refine aL (aH (a := ()) (m' := m''.set p (.inst c (d8 k v fs))) (by unfold dB; dsimp only; rw [h1]) q)
theorem dY {o i e : CE} (h : Wp (ev S F e r) m (fun v m1 => Wp (ev S F o r) m1 (fun x m2 => Wp (ev S F i r) m2 (fun y m3 => Wp (bV x y v) m3 (fun y_ m4 => Wp (exs S F ss r) m4 Q E) E) E) E) E) : Wp (exs S F (.asg (.idx o i) e :: ss) r) m Q E := by
 refine eI (aL (x := ev S F e r) (wp_mono h (fun v m' q => aL (aL (x := ev S F o r) (wp_mono q (fun x m'' q => aL (x := ev S F i r) (wp_mono q (fun y m3 q => aL (x := bV x y v) (wp_mono q (fun y_ m4 q => q) fun y_ y_ q => q)) fun y_ y_ q => q)) fun y_ y_ q => q))) fun y_ y_ q => q))
theorem cQ7 {p : Nat} {k : Int} {xs : List V} {v : V} {Q : Unit -> MH -> Prop} (h : m[p]? = some (.list xs)) (h0 : 0 <= k) (h1 : k < xs.length) (q : Q () (m.set p (.list (xs.set k.toNat v)))) : Wp (bV (.ref p) (.int k) v) m Q E := by
 refine aH (a := ()) (m' := m.set p (.list (xs.set k.toNat v))) ?_ q
 unfold bV; dsimp only; rw [h]; dsimp only; rw [if_pos ⟨h0, h1⟩]
theorem eA {p e : Nat} {y : V} {k : Ky} {kvs : List (Ky × V)} {v : V} {Q : Unit -> MH -> Prop} (h : m[p]? = some (.dict kvs e)) (hk : eB y = some k) (hs : aU k kvs = true) (hl : kvs.length < lid) (q : Q () (m.set p (.dict (put k v kvs) (e + 1)))) : Wp (bV (.ref p) y v) m Q E := by
 refine aH (a := ()) (m' := m.set p (.dict (put k v kvs) (e + 1))) ?_ q
 unfold bV; dsimp only; rw [h]; dsimp only; rw [hk]; dsimp only; rw [hs, decide_eq_true hl]; rfl
theorem cF {p : Nat} {xs : List V} {v : V} {Q : V -> MH -> Prop} (h : m[p]? = some (.list xs)) (hl : xs.length < lid) (q : Q .none (m.set p (.list (xs ++ [v])))) : Wp (cW 0 (.ref p) .append [v]) m Q E := by
 refine aH (m' := m.set p (.list (xs ++ [v]))) ?_ q
 show (match m[p]? with | some (.list xs) => bM6 p xs .append [v] m | _ => .bad) = _
 rw [h]
 show (if xs.length < lid then Res.ok V.none (m.set p (.list (xs ++ [v]))) else .bad) = _
 rw [if_pos hl]
theorem smK_d {p e : Nat} {kvs : List (Ky × V)} (h : m[p]? = some (.dict kvs e)) : smK (.ref p) m = some 1 := by unfold smK; dsimp only; rw [h]
theorem bK {p e : Nat} {x : V} {k : Ky} {kvs : List (Ky × V)} (h : m[p]? = some (.dict kvs e)) (hk : eB x = some k) (hs : aU k kvs = true) : inV x (.ref p) m = .ok (b9 k kvs).isSome m := by
 unfold inV; dsimp only; rw [h]; dsimp only; rw [hk]; dsimp only; rw [if_pos hs]
theorem aG {p e : Nat} {x v : V} {k : Ky} {kvs : List (Ky × V)} (h : m[p]? = some (.dict kvs e)) (hk : eB x = some k) (hs : aU k kvs = true) (hl : b9 k kvs = some v) : aI8 (.ref p) x m = .ok v m := by
 unfold aI8; dsimp only; rw [h]; dsimp only; rw [hk]; dsimp only; rw [if_pos hs, hl]; rfl
end
end Mini
namespace Mini
open PySem
structure Wo where
 k : Str
 n : Int
 r : Str
 h : Int
 deriving DecidableEq
noncomputable def Wo.v (w : Wo) : V := .tup [.str w.k, .int w.n, .str w.r, .int w.h]
noncomputable def Wo.ky (w : Wo) : Ky := .tup [.inr w.k, .inl w.n, .inr w.r, .inl w.h]
theorem cQ6 {a b : Wo} (h : a.ky = b.ky) : a = b := by
 obtain ⟨a1, a2, a3, a4⟩ := a
 obtain ⟨b1, b2, b3, b4⟩ := b
 cases h; rfl
noncomputable def mrk (n : Int) (r : Str) (h : Int) : Wo := ⟨eM, n, r, h⟩
noncomputable def fG (a b : Wo) : Bool := a.h == b.h && a.k == b.k && a.n == b.n && a.r != b.r
noncomputable def kD (l : List Wo) : List (Ky × V) := l.map fun w => (w.ky, .bool true)
noncomputable def iD (l : List Int) : List (Ky × V) := l.map fun i => (.int i, .bool true)
noncomputable def bF7 (w : Wo) (l : List Wo) : List Wo := if w ∈ l then l else l ++ [w]
theorem aA6 (l : List Wo) (w : Wo) : aU w.ky (kD l) = true := by
 unfold aU kD
 rw [List.all_map, List.all_eq_true]
 intro _ _; rfl
theorem aQ9 (l : List Int) (k : Int) : aU (.int k) (iD l) = true := by
 unfold aU iD
 rw [List.all_map, List.all_eq_true]
 intro _ _; rfl
theorem aX5 (w : Wo) : ∀ l : List Wo, (b9 w.ky (kD l)).isSome = decide (w ∈ l)
 | [] => by simp [kD, b9]
 | a :: l => by
  show (if a.ky = w.ky then some (V.bool true) else b9 w.ky (kD l)).isSome = _
  by_cases z : a = w
  ·subst z; rw [if_pos rfl]; simp
  ·rw [if_neg fun c => z (cQ6 c), aX5 w l]
   have : w ≠ a := fun c => z c.symm
   simp [this]
theorem bK9 (w : Wo) : ∀ l : List Wo, put w.ky (.bool true) (kD l) = kD (bF7 w l)
 | [] => by simp [kD, put, bF7]
 | a :: l => by
  show (if a.ky = w.ky then (a.ky, V.bool true) :: kD l else (a.ky, V.bool true) :: put w.ky (.bool true) (kD l)) = _
  by_cases z : a = w
  ·subst z; rw [if_pos rfl]; simp [bF7, kD]
  ·rw [if_neg fun c => z (cQ6 c), bK9 w l]
   have : w ≠ a := fun c => z c.symm
   unfold bF7
   by_cases y : w ∈ l
   ·rw [if_pos y, if_pos (.tail _ y)]; rfl
   ·rw [if_neg y, if_neg (by simp [this, y])]; rfl
theorem cC7 {a b : Int} (h : Ky.int a = Ky.int b) : a = b := ky_i h
noncomputable def tD {α : Type} (g : α -> Int) (f : α -> V) (l : List α) : List (Ky × V) := l.map fun x => (.int (g x), f x)
theorem aZ {α : Type} (g : α -> Int) (f : α -> V) (l : List α) (k : Int) : aU (.int k) (tD g f l) = true := by
 unfold aU tD
 rw [List.all_map, List.all_eq_true]
 intro _ _; rfl
theorem aA1 {α : Type} (g : α -> Int) (f : α -> V) (k : Int) : ∀ l : List α, b9 (.int k) (tD g f l) = (l.find? fun x => g x == k).map f
 | [] => rfl
 | a :: l => by
  show (if Ky.int (g a) = Ky.int k then some (f a) else b9 (.int k) (tD g f l)) = _
  by_cases z : g a = k
  ·rw [if_pos (by rw [z]), List.find?_cons_of_pos (by simp [z])]; rfl
  ·rw [if_neg fun c => z (cC7 c), List.find?_cons_of_neg (by simp [z]), aA1 g f k l]
theorem cS {α : Type} (g : α -> Int) (f : α -> V) (k : Int) (l : List α) : (b9 (.int k) (tD g f l)).isSome = l.any fun x => g x == k := by
 rw [aA1, Option.isSome_map]
 induction l with
 | nil => rfl
 | cons a l ih =>
  rw [List.any_cons]
  by_cases z : (g a == k) = true
  ·rw [List.find?_cons_of_pos (p := fun x => g x == k) z, z]; rfl
  ·rw [List.find?_cons_of_neg (p := fun x => g x == k) z, ih]; simp [z]
theorem aD0 {α : Type} (g : α -> Int) (f : α -> V) (k : Int) (v : V) : ∀ l : List α, (l.any fun x => g x == k) = false -> put (.int k) v (tD g f l) = tD g f l ++ [(.int k, v)]
 | [], _ => rfl
 | a :: l, h => by
  rw [List.any_cons, Bool.or_eq_false_iff] at h
  show (if Ky.int (g a) = Ky.int k then _ else (Ky.int (g a), f a) :: put (.int k) v (tD g f l)) = _
  rw [if_neg fun c => by rw [cC7 c] at h; simp at h, aD0 g f k v l h.2]; rfl
theorem cW1 (l : List Int) : iD l = tD id (fun y_ => .bool true) l := rfl
structure Hs where
 cnt : Int
 own : Int
 onw : Int
 known : List Wo
 marked : List Int
 rows : List (Int × Str × List Wo)
 named : List (Int × Wo × Wo)
noncomputable def bJ (c : Int) : Int := (c + (c - 1) / 3) / 2 + 1
noncomputable def Hs.marking (s : Hs) (w : Wo) : Hs × List Wo :=
 if w.k ≠ fP \/ w.n ∈ s.marked then (s, []) else ({ s with marked := s.marked ++ [w.n], known := bF7 (mrk w.n w.r s.own) s.known }, [mrk w.n w.r s.own])
noncomputable def Hs.marks (s : Hs) (n : Int) (r : Str) : List Wo := ((List.range s.cnt.toNat).map fun (j : Nat) => mrk n r j).filter fun w => decide (w ∈ s.known)
noncomputable def Hs.wrote (s : Hs) (n : Int) : Bool := s.rows.any fun x => x.1 == n
noncomputable def Hs.writing (s : Hs) (n : Int) (r : Str) : Hs × List Wo :=
 if ((s.marks n r).length : Int) < bJ s.cnt \/ s.wrote n = true then (s, []) else ({ s with rows := s.rows ++ [(n, r, s.marks n r)] }, s.marks n r)
noncomputable def Hs.naming (s : Hs) (w : Wo) (ahead : List Wo) : Hs × List Wo := match ahead with
 | [] => (s, [])
 | a :: _ => if (s.named.any fun x => x.1 == w.h) = true then (s, []) else ({ s with named := s.named ++ [(w.h, a, w)] }, [a, w])
noncomputable def Hs.hear (s : Hs) (w : Wo) : Hs × List Wo :=
 if w ∈ s.known then (s, []) else
  let ahead := s.known.filter fun a => fG a w
  let a := ({ s with known := s.known ++ [w] } : Hs).marking w
  let b := a.1.writing w.n w.r
  let c := b.1.naming w ahead
  (c.1, a.2 ++ b.2 ++ c.2)
noncomputable def Hs.call (s : Hs) (r : Str) : Hs × List Wo :=
 let w : Wo := ⟨fP, s.onw, r, s.own⟩
 let a := ({ s with onw := s.onw + s.cnt } : Hs).hear w
 (a.1, w :: a.2)
structure Hd where
 p : Nat
 a : Nat
 b : Nat
 c : Nat
 d : Nat
 e : Nat
 f : Nat
 bs : List Nat
noncomputable def Hd.foot (D : Hd) : List Nat := [D.p, D.a, D.b, D.c, D.d, D.e, D.f]
noncomputable def Hd.all (D : Hd) : List Nat := D.foot ++ D.bs
noncomputable def dK (l : List (Int × Str × List Wo)) : List (Ky × V) := tD (·.1) (fun x => V.str x.2.1) l
noncomputable def aQ1 (l : List (Int × Nat)) : List (Ky × V) := tD (·.1) (fun x => V.ref x.2) l
noncomputable def bak (s : Hs) (D : Hd) : List (Int × Nat) := (s.rows.map (·.1)).zip D.bs
noncomputable def aA0 (l : List (Int × Wo × Wo)) : List V := l.map fun x => .tup [.int x.1, x.2.1.v, x.2.2.v]
noncomputable def aY7 (l : List (Int × Wo × Wo)) : List (Ky × V) := tD (·.1) (fun y_ => V.bool true) l
noncomputable def cP6 (D : Hd) (s : Hs) : List (Nat × V) := [(8, .int s.cnt), (9, .int s.own), (10, .int s.onw), (11, .ref D.a), (12, .ref D.b), (13, .ref D.c), (14, .ref D.d), (15, .ref D.e), (16, .ref D.f)]
structure Ho (m : MH) (C : Nat) (D : Hd) (s : Hs) : Prop where
 inst : m[D.p]? = some (.inst C (cP6 D s))
 kn : ∃ e, m[D.a]? = some (.dict (kD s.known) e)
 mr : ∃ e, m[D.b]? = some (.dict (iD s.marked) e)
 ro : ∃ e, m[D.c]? = some (.dict (dK s.rows) e)
 ba : ∃ e, m[D.d]? = some (.dict (aQ1 (bak s D)) e)
 na : m[D.e]? = some (.list (aA0 s.named))
 bl : ∃ e, m[D.f]? = some (.dict (aY7 s.named) e)
 bk : ∀ (i : Nat) (x : Int × Str × List Wo), s.rows[i]? = some x -> ∃ q, D.bs[i]? = some q /\ m[q]? = some (.list (x.2.2.map Wo.v))
 len : D.bs.length = s.rows.length
 nd : D.all.Nodup
theorem Ho.mod {T : List Nat} {m m' : MH} {C : Nat} {D : Hd} {s : Hs} (h : Ho m C D s) (l : Mod T m m') (ht : ∀ x ∈ D.all, x ∉ T) : Ho m' C D s := by
 have F : ∀ x ∈ D.foot, x ∉ T := fun x hx => ht x (List.mem_append_left _ hx)
 refine ⟨l.has h.inst (F _ (by simp [Hd.foot])), ?_, ?_, ?_, ?_, l.has h.na (F _ (by simp [Hd.foot])), ?_, fun i x e => ?_, h.len, h.nd⟩
 ·obtain ⟨e, k⟩ := h.kn; exact ⟨e, l.has k (F _ (by simp [Hd.foot]))⟩
 ·obtain ⟨e, k⟩ := h.mr; exact ⟨e, l.has k (F _ (by simp [Hd.foot]))⟩
 ·obtain ⟨e, k⟩ := h.ro; exact ⟨e, l.has k (F _ (by simp [Hd.foot]))⟩
 ·obtain ⟨e, k⟩ := h.ba; exact ⟨e, l.has k (F _ (by simp [Hd.foot]))⟩
 ·obtain ⟨e, k⟩ := h.bl; exact ⟨e, l.has k (F _ (by simp [Hd.foot]))⟩
 ·obtain ⟨q, k1, k2⟩ := h.bk i x e
  exact ⟨q, k1, l.has k2 (ht _ (List.mem_append_right _ (List.mem_of_getElem? k1)))⟩
theorem Ho.le {m m' : MH} {C : Nat} {D : Hd} {s : Hs} (h : Ho m C D s) (l : Le m m') : Ho m' C D s := h.mod (T := []) l.mod fun y_ y_ q => nomatch q
theorem Ho.lt {m : MH} {C : Nat} {D : Hd} {s : Hs} (h : Ho m C D s) : ∀ x ∈ D.all, x < m.length := by
 intro x hx
 obtain ⟨y_, k1⟩ := h.kn
 obtain ⟨y_, k2⟩ := h.mr
 obtain ⟨y_, k3⟩ := h.ro
 obtain ⟨y_, k4⟩ := h.ba
 obtain ⟨y_, k5⟩ := h.bl
 rcases List.mem_append.mp hx with hx | hx
 ·simp only [Hd.foot, List.mem_cons, List.not_mem_nil, or_false] at hx
  rcases hx with rfl | rfl | rfl | rfl | rfl | rfl | rfl
  ·exact aO h.inst
  ·exact aO k1
  ·exact aO k2
  ·exact aO k3
  ·exact aO k4
  ·exact aO h.na
  ·exact aO k5
 ·obtain ⟨i, hi⟩ := List.getElem?_of_mem hx
  have : i < s.rows.length := by rw [<- h.len]; exact (List.getElem?_eq_some_iff.mp hi).1
  obtain ⟨q, e1, e2⟩ := h.bk i _ (List.getElem?_eq_getElem this)
  rw [hi] at e1; cases e1; exact aO e2
end Mini
namespace Mini
open PySem
theorem aX2 {l : List Nat} (nd : l.Nodup) {i j x y : Nat} (hi : l[i]? = some x) (hj : l[j]? = some y) (hij : i ≠ j) : x ≠ y := by
 obtain ⟨h1, rfl⟩ := List.getElem?_eq_some_iff.mp hi
 obtain ⟨h2, rfl⟩ := List.getElem?_eq_some_iff.mp hj
 have P := List.pairwise_iff_getElem.mp nd
 rcases Nat.lt_or_gt_of_ne hij with z | z
 ·exact P i j h1 h2 z
 ·exact fun e => P j i h2 h1 z e.symm
theorem Hd.upd {D : Hd} (nd : D.all.Nodup) {m : MH} {o' : MObj} {j x : Nat} (hx : D.all[j]? = some x) : ∀ (i q : Nat) (o : MObj), D.all[i]? = some q -> i ≠ j -> m[q]? = some o -> (m.set x o')[q]? = some o :=
 fun i q o hq hij k => aJ (aX2 nd hx hq (fun e => hij e.symm)) k
section
variable {m : MH} {C : Nat} {D : Hd} {s : Hs}
theorem Ho.setP (h : Ho m C D s) (k : Int) : Ho (m.set D.p (.inst C (cP6 D { s with onw := k }))) C D { s with onw := k } := by
 have F := Hd.upd h.nd (m := m) (o' := .inst C (cP6 D { s with onw := k })) (j := 0) rfl
 refine ⟨bB h.inst, ?_, ?_, ?_, ?_, F 5 _ _ rfl (by decide) h.na, ?_, fun i x e => ?_, h.len, h.nd⟩
 ·obtain ⟨e, k⟩ := h.kn; exact ⟨e, F 1 _ _ rfl (by decide) k⟩
 ·obtain ⟨e, k⟩ := h.mr; exact ⟨e, F 2 _ _ rfl (by decide) k⟩
 ·obtain ⟨e, k⟩ := h.ro; exact ⟨e, F 3 _ _ rfl (by decide) k⟩
 ·obtain ⟨e, k⟩ := h.ba; exact ⟨e, F 4 _ _ rfl (by decide) k⟩
 ·obtain ⟨e, k⟩ := h.bl; exact ⟨e, F 6 _ _ rfl (by decide) k⟩
 ·obtain ⟨q, k1, k2⟩ := h.bk i x e; exact ⟨q, k1, F (i + 7) _ _ k1 (by omega) k2⟩
theorem Ho.setK (h : Ho m C D s) (l : List Wo) (e : Nat) : Ho (m.set D.a (.dict (kD l) e)) C D { s with known := l } := by
 have F := Hd.upd h.nd (m := m) (o' := .dict (kD l) e) (j := 1) rfl
 obtain ⟨e0, k0⟩ := h.kn
 refine ⟨F 0 _ _ rfl (by decide) h.inst, ⟨e, bB k0⟩, ?_, ?_, ?_, F 5 _ _ rfl (by decide) h.na, ?_, fun i x e => ?_, h.len, h.nd⟩
 ·obtain ⟨e, k⟩ := h.mr; exact ⟨e, F 2 _ _ rfl (by decide) k⟩
 ·obtain ⟨e, k⟩ := h.ro; exact ⟨e, F 3 _ _ rfl (by decide) k⟩
 ·obtain ⟨e, k⟩ := h.ba; exact ⟨e, F 4 _ _ rfl (by decide) k⟩
 ·obtain ⟨e, k⟩ := h.bl; exact ⟨e, F 6 _ _ rfl (by decide) k⟩
 ·obtain ⟨q, k1, k2⟩ := h.bk i x e; exact ⟨q, k1, F (i + 7) _ _ k1 (by omega) k2⟩
theorem Ho.setM (h : Ho m C D s) (l : List Int) (e : Nat) : Ho (m.set D.b (.dict (iD l) e)) C D { s with marked := l } := by
 have F := Hd.upd h.nd (m := m) (o' := .dict (iD l) e) (j := 2) rfl
 obtain ⟨e0, k0⟩ := h.mr
 refine ⟨F 0 _ _ rfl (by decide) h.inst, ?_, ⟨e, bB k0⟩, ?_, ?_, F 5 _ _ rfl (by decide) h.na, ?_, fun i x e => ?_, h.len, h.nd⟩
 ·obtain ⟨e, k⟩ := h.kn; exact ⟨e, F 1 _ _ rfl (by decide) k⟩
 ·obtain ⟨e, k⟩ := h.ro; exact ⟨e, F 3 _ _ rfl (by decide) k⟩
 ·obtain ⟨e, k⟩ := h.ba; exact ⟨e, F 4 _ _ rfl (by decide) k⟩
 ·obtain ⟨e, k⟩ := h.bl; exact ⟨e, F 6 _ _ rfl (by decide) k⟩
 ·obtain ⟨q, k1, k2⟩ := h.bk i x e; exact ⟨q, k1, F (i + 7) _ _ k1 (by omega) k2⟩
theorem Ho.setR (h : Ho m C D s) {n : Int} {r : Str} {ws : List Wo} {q e1 e2 : Nat} (hq : m[q]? = some (.list (ws.map Wo.v))) (hn : q ∉ D.all) :
  Ho ((m.set D.c (.dict (dK (s.rows ++ [(n, r, ws)])) e1)).set D.d (.dict (aQ1 (bak s D ++ [(n, q)])) e2)) C { D with bs := D.bs ++ [q] } { s with rows := s.rows ++ [(n, r, ws)] } := by
 have F1 := Hd.upd h.nd (m := m) (o' := .dict (dK (s.rows ++ [(n, r, ws)])) e1) (j := 3) rfl
 have F2 := Hd.upd h.nd (m := m.set D.c (.dict (dK (s.rows ++ [(n, r, ws)])) e1)) (o' := .dict (aQ1 (bak s D ++ [(n, q)])) e2) (j := 4) rfl
 have F : ∀ (i x : Nat) (o : MObj), D.all[i]? = some x -> i ≠ 3 -> i ≠ 4 -> m[x]? = some o -> ((m.set D.c (.dict (dK (s.rows ++ [(n, r, ws)])) e1)).set D.d (.dict (aQ1 (bak s D ++ [(n, q)])) e2))[x]? = some o := fun i x o a b c d => F2 i x o a c (F1 i x o a b d)
 obtain ⟨e3, k3⟩ := h.ro
 obtain ⟨e4, k4⟩ := h.ba
 have qc : D.c ≠ q := fun e => hn (e ▸ List.mem_append_left _ (by simp [Hd.foot]))
 have qd : D.d ≠ q := fun e => hn (e ▸ List.mem_append_left _ (by simp [Hd.foot]))
 have kc : (m.set D.c (.dict (dK (s.rows ++ [(n, r, ws)])) e1))[D.c]? = some (.dict (dK (s.rows ++ [(n, r, ws)])) e1) := bB k3
 have kd := F1 4 D.d _ rfl (by decide) k4
 have eb : bak { s with rows := s.rows ++ [(n, r, ws)] } { D with bs := D.bs ++ [q] } = bak s D ++ [(n, q)] := by
  unfold bak
  rw [List.map_append]
  exact List.zip_append (by rw [List.length_map, h.len])
 refine ⟨F 0 _ _ rfl (by decide) (by decide) h.inst, ?_, ?_, ⟨e1, F2 3 _ _ rfl (by decide) kc⟩, ⟨e2, ?_⟩, F 5 _ _ rfl (by decide) (by decide) h.na, ?_, fun i x e => ?_, ?_, ?_⟩
 ·obtain ⟨e, k⟩ := h.kn; exact ⟨e, F 1 _ _ rfl (by decide) (by decide) k⟩
 ·obtain ⟨e, k⟩ := h.mr; exact ⟨e, F 2 _ _ rfl (by decide) (by decide) k⟩
 ·rw [eb]; exact bB kd
 ·obtain ⟨e, k⟩ := h.bl; exact ⟨e, F 6 _ _ rfl (by decide) (by decide) k⟩
 ·rcases Nat.lt_or_ge i s.rows.length with z | z
  ·have e : s.rows[i]? = some x := by rw [<- e]; exact (List.getElem?_append_left z).symm
   obtain ⟨y, k1, k2⟩ := h.bk i x e
   exact ⟨y, by rw [<- k1]; exact List.getElem?_append_left (by rw [h.len]; exact z), F (i + 7) _ _ k1 (by omega) (by omega) k2⟩
  ·have e : (s.rows ++ [(n, r, ws)])[i]? = some x := e
   rw [List.getElem?_append_right z] at e
   have hi : i = s.rows.length := by
    cases w : i - s.rows.length with
    | zero => omega
    | succ j => rw [w] at e; cases e
   subst hi
   rw [Nat.sub_self] at e
   cases e
   refine ⟨q, ?_, aJ qd (aJ qc hq)⟩
   show (D.bs ++ [q])[s.rows.length]? = some q
   rw [<- h.len]; simp
 ·show (D.bs ++ [q]).length = (s.rows ++ [(n, r, ws)]).length
  rw [List.length_append, List.length_append, h.len]; rfl
 ·show (D.foot ++ (D.bs ++ [q])).Nodup
  rw [<- List.append_assoc]
  refine List.nodup_append.mpr ⟨h.nd, List.nodup_cons.mpr ⟨List.not_mem_nil, List.nodup_nil⟩, fun a ha b hb => ?_⟩
  rw [List.mem_singleton.mp hb]
  rintro rfl
  exact hn ha
theorem Ho.setN (h : Ho m C D s) {x : Int × Wo × Wo} {e1 : Nat} : Ho ((m.set D.f (.dict (aY7 (s.named ++ [x])) e1)).set D.e (.list (aA0 (s.named ++ [x])))) C D { s with named := s.named ++ [x] } := by
 have F1 := Hd.upd h.nd (m := m) (o' := .dict (aY7 (s.named ++ [x])) e1) (j := 6) rfl
 have F2 := Hd.upd h.nd (m := m.set D.f (.dict (aY7 (s.named ++ [x])) e1)) (o' := .list (aA0 (s.named ++ [x]))) (j := 5) rfl
 have F : ∀ (i y : Nat) (o : MObj), D.all[i]? = some y -> i ≠ 6 -> i ≠ 5 -> m[y]? = some o -> ((m.set D.f (.dict (aY7 (s.named ++ [x])) e1)).set D.e (.list (aA0 (s.named ++ [x]))))[y]? = some o := fun i x o a b c d => F2 i x o a c (F1 i x o a b d)
 obtain ⟨e3, k3⟩ := h.bl
 have kf : (m.set D.f (.dict (aY7 (s.named ++ [x])) e1))[D.f]? = some (.dict (aY7 (s.named ++ [x])) e1) := bB k3
 have ke := F1 5 D.e _ rfl (by decide) h.na
 refine ⟨F 0 _ _ rfl (by decide) (by decide) h.inst, ?_, ?_, ?_, ?_, bB ke, ⟨e1, F2 6 _ _ rfl (by decide) kf⟩, fun i x e => ?_, h.len, h.nd⟩
 ·obtain ⟨e, k⟩ := h.kn; exact ⟨e, F 1 _ _ rfl (by decide) (by decide) k⟩
 ·obtain ⟨e, k⟩ := h.mr; exact ⟨e, F 2 _ _ rfl (by decide) (by decide) k⟩
 ·obtain ⟨e, k⟩ := h.ro; exact ⟨e, F 3 _ _ rfl (by decide) (by decide) k⟩
 ·obtain ⟨e, k⟩ := h.ba; exact ⟨e, F 4 _ _ rfl (by decide) (by decide) k⟩
 ·obtain ⟨q, k1, k2⟩ := h.bk i x e; exact ⟨q, k1, F (i + 7) _ _ k1 (by omega) (by omega) k2⟩
end
end Mini
namespace Mini
open PySem
structure HN where
 C : Nat
 kW : Nat
 kN : Nat
 kM : Nat
 kE : Nat
 kR : Nat
 kU : Nat
 ki : Nat
 cC : Nat
 cH : Nat
 cR : Nat
 cN : Nat
 gM : Nat
 gL : Nat
 gS : Nat
noncomputable def cZ3 (kN : Nat) : List CS := [.exp (.call kN [.var 0]), .ret (.bin .FloorDiv (.bin .Sub (.var 0) (.cnst (.int 1))) (.cnst (.int 3)))]
noncomputable def bZ9 (kN kM : Nat) : List CS := [.exp (.call kN [.var 0]), .ret (.bin .Add (.bin .FloorDiv (.bin .Add (.var 0) (.call kM [.var 0])) (.cnst (.int 2))) (.cnst (.int 1)))]
noncomputable def bZ6 : List CS := [
 (.ret (.boolop true [(.cmp (.idx (.var 0) (.cnst (Lt.int 3))) [.Eq] [(.idx (.var 1) (.cnst (Lt.int 3)))]), (.cmp (.idx (.var 0) (.cnst (Lt.int 0))) [.Eq] [(.idx (.var 1) (.cnst (Lt.int 0)))]), (.cmp (.idx (.var 0) (.cnst (Lt.int 1))) [.Eq] [(.idx (.var 1) (.cnst (Lt.int 1)))]), (.cmp (.idx (.var 0) (.cnst (Lt.int 2))) [.NotEq] [(.idx (.var 1) (.cnst (Lt.int 2)))])]))]
noncomputable def cO6 (kN kW cH : Nat) : List CS := [
 (.exp (.call kN [(.var 1)])),
 (.ite (.all false [(.not (.val (.call kW [(.var 2)]))), (.not (.val (.cmp (.cnst (Lt.int 0)) [.LtE, .Lt] [(.var 2), (.var 1)])))]) [
  (.rse cH (Str.ofString "no house of the town"))] []),
 (.asg (.attr (.var 0) 8) (.var 1)),
 (.asg (.attr (.var 0) 9) (.var 2)),
 (.asg (.attr (.var 0) 10) (.var 2)),
 (.asg (.attr (.var 0) 11) (.dict [] [])),
 (.asg (.attr (.var 0) 12) (.dict [] [])),
 (.asg (.attr (.var 0) 13) (.dict [] [])),
 (.asg (.attr (.var 0) 14) (.dict [] [])),
 (.asg (.attr (.var 0) 15) (.list [])),
 (.asg (.attr (.var 0) 16) (.dict [] []))]
noncomputable def cZ6 (kR cR : Nat) : List CS := [
 (.ite (.not (.val (.call kR [(.var 1)]))) [
  (.rse cR (Str.ofString "no row"))] []),
 (.asg (.one (.one 2)) (.tup [(.cnst (Lt.str (Str.ofString "say"))), (.attr (.var 0) 10), (.var 1), (.attr (.var 0) 9)])),
 (.asg (.attr (.var 0) 10) (.bin .Add (.attr (.var 0) 10) (.attr (.var 0) 8))),
 (.ret (.bin .Add (.list [(.var 2)]) (.meth (.var 0) 1 [(.var 2)])))]
noncomputable def cZ4 (kU : Nat) : List CS := [
 (.ite (.val (.cmp (.var 1) [.In] [(.attr (.var 0) 11)])) [
  (.ret (.list []))] []),
 (.asg (.one (.one 2)) (.comp (.var 3) (.one 3) 1 .expr [(.attr (.var 0) 11)] [(.val (.call kU [(.var 3), (.var 1)]))])),
 (.asg (.idx (.attr (.var 0) 11) (.var 1)) (.cnst (Lt.bool true))),
 (.ret (.bin .Add (.bin .Add (.meth (.var 0) 2 [(.var 1)]) (.meth (.var 0) 3 [(.idx (.var 1) (.cnst (Lt.int 1))), (.idx (.var 1) (.cnst (Lt.int 2)))])) (.meth (.var 0) 4 [(.var 1), (.var 2)])))]
noncomputable def bQ8 : List CS := [
 (.ite (.all false [(.val (.cmp (.idx (.var 1) (.cnst (Lt.int 0))) [.NotEq] [(.cnst (Lt.str (Str.ofString "say")))])), (.val (.cmp (.idx (.var 1) (.cnst (Lt.int 1))) [.In] [(.attr (.var 0) 12)]))]) [
  (.ret (.list []))] []),
 (.asg (.one (.one 2)) (.tup [(.cnst (Lt.str (Str.ofString "mark"))), (.idx (.var 1) (.cnst (Lt.int 1))), (.idx (.var 1) (.cnst (Lt.int 2))), (.attr (.var 0) 9)])),
 (.asg (.idx (.attr (.var 0) 12) (.idx (.var 1) (.cnst (Lt.int 1)))) (.cnst (Lt.bool true))),
 (.asg (.idx (.attr (.var 0) 11) (.var 2)) (.cnst (Lt.bool true))),
 (.ret (.list [(.var 2)]))]
noncomputable def bQ7 (kE : Nat) : List CS := [
 (.asg (.one (.one 3)) (.comp (.tup [(.cnst (Lt.str (Str.ofString "mark"))), (.var 1), (.var 2), (.var 4)]) (.one 4) 1 .range [(.attr (.var 0) 8)] [])),
 (.asg (.one (.one 3)) (.comp (.var 4) (.one 4) 1 .expr [(.var 3)] [(.val (.cmp (.var 4) [.In] [(.attr (.var 0) 11)]))])),
 (.ite (.all false [(.val (.cmp (.bi .len [(.var 3)]) [.Lt] [(.call kE [(.attr (.var 0) 8)])])), (.val (.cmp (.var 1) [.In] [(.attr (.var 0) 13)]))]) [
  (.ret (.list []))] []),
 (.asg (.idx (.attr (.var 0) 13) (.var 1)) (.var 2)),
 (.asg (.idx (.attr (.var 0) 14) (.var 1)) (.var 3)),
 (.ret (.bi .list [(.var 3)]))]
noncomputable def bZ7 : List CS := [
 (.ite (.all false [(.val (.cmp (.var 2) [.Eq] [(.list [])])), (.val (.cmp (.idx (.var 1) (.cnst (Lt.int 3))) [.In] [(.attr (.var 0) 16)]))]) [
  (.ret (.list []))] []),
 (.asg (.idx (.attr (.var 0) 16) (.idx (.var 1) (.cnst (Lt.int 3)))) (.cnst (Lt.bool true))),
 (.exp (.smeth (.attr (.var 0) 15) .append [(.tup [(.idx (.var 1) (.cnst (Lt.int 3))), (.idx (.var 2) (.cnst (Lt.int 0))), (.var 1)])])),
 (.ret (.list [(.idx (.var 2) (.cnst (Lt.int 0))), (.var 1)]))]
noncomputable def bZ8 : List CS := [
 (.asg (.one (.one 1)) (.dict [] [])),
 (.for_ .expr (.one 2) [(.bi .sorted [(.attr (.var 0) 13)])] [
  (.asg (.idx (.var 1) (.var 2)) (.idx (.attr (.var 0) 13) (.var 2)))]),
 (.ret (.var 1))]
noncomputable def aB6 (kW cN : Nat) : List CS := [
 (.ite (.all false [(.not (.val (.call kW [(.var 1)]))), (.val (.cmp (.var 1) [.NotIn] [(.attr (.var 0) 13)]))]) [
  (.rse cN (Str.ofString "nothing is written there"))] []),
 (.ret (.bi .list [(.idx (.attr (.var 0) 14) (.var 1))]))]
noncomputable def cA0 : List CS := [
 (.ret (.bi .list [(.attr (.var 0) 15)]))]
structure HF (S : Sig) (N : HN) : Prop where
 W : eQ S N.kW 1 1 aP8
 N_ : eQ S N.kN 1 1 (cE2 N.kW N.gM N.cC)
 M : eQ S N.kM 1 1 (cZ3 N.kN)
 E : eQ S N.kE 1 1 (bZ9 N.kN N.kM)
 R : eQ S N.kR 1 2 (bC5 N.gL N.gS)
 U : eQ S N.kU 2 2 bZ6
 I : eQ S N.ki 3 3 (cO6 N.kN N.kW N.cH)
 call : eQ S (N.ki + 1) 2 3 (cZ6 N.kR N.cR)
 hear : eQ S (N.ki + 2) 2 3 (cZ4 N.kU)
 marking : eQ S (N.ki + 3) 2 3 bQ8
 writing : eQ S (N.ki + 4) 3 4 (bQ7 N.kE)
 naming : eQ S (N.ki + 5) 3 3 bZ7
 ledger : eQ S (N.ki + 6) 1 3 bZ8
 backing : eQ S (N.ki + 7) 2 2 (aB6 N.kW N.cN)
 caught : eQ S (N.ki + 8) 1 1 cA0
 gM : ∃ nm, S.globs[N.gM]? = some (nm, .int 12)
 gL : ∃ nm, S.globs[N.gL]? = some (nm, .str letterS)
 gS : ∃ nm, S.globs[N.gS]? = some (nm, .int 8)
 cls : ∃ d, S.cls[N.C]? = some d /\ d.exc = false /\ d.init = some N.ki /\ ∀ j, j < 8 -> d.meths.lookup j = some (N.ki + 1 + j)
section
variable {S : Sig} {N : HN} {m : MH} {D : Hd} {s : Hs}
theorem cK1 (H : HF S N) (n : Nat) (c : Int) (h1 : 1 <= c) (h2 : c <= 12) (m : MH) : run S (n + 3) N.kM [.int c] m = .ok (.int ((c - 1) / 3)) m := by
 obtain ⟨y_, gM⟩ := H.gM
 have en : run S (n + 2) N.kN [.int c] m = .ok .none m := by
  rw [aX0 H.N_ H.W gM n (.int c)]
  have : isC (.int c) = true := by show (decide (1 <= c) && decide (c <= 12)) = true; rw [decide_eq_true h1, decide_eq_true h2]; rfl
  rw [this]; rfl
 refine aC6 ?_
 exact cE H.M rfl (eH (aH (bT rfl en) (bG (aC rfl ⟨rfl, rfl⟩))))
theorem bP3 (H : HF S N) (n : Nat) (c : Int) (h1 : 1 <= c) (h2 : c <= 12) (m : MH) : run S (n + 4) N.kE [.int c] m = .ok (.int (bJ c)) m := by
 obtain ⟨y_, gM⟩ := H.gM
 have en : run S (n + 3) N.kN [.int c] m = .ok .none m := by
  rw [aX0 H.N_ H.W gM (n + 1) (.int c)]
  have : isC (.int c) = true := by show (decide (1 <= c) && decide (c <= 12)) = true; rw [decide_eq_true h1, decide_eq_true h2]; rfl
  rw [this]; rfl
 refine aC6 ?_
 refine cE H.E rfl (eH (aH (bT rfl en) (bG (aH (bN (bN (bN rfl (bT rfl (cK1 H n c h1 h2 m)) rfl) rfl rfl) rfl rfl) ⟨rfl, rfl⟩))))
theorem bI0 (H : HF S N) (n : Nat) (a b : Wo) (m : MH) : run S (n + 1) N.kU [a.v, b.v] m = .ok (.bool (fG a b)) m := by
 refine aC6 ?_
 refine cE H.U rfl (bG (aH (bU4 (x := a.h == b.h) ?_ (bU4 (x := a.k == b.k) ?_ (bU4 (x := a.n == b.n) ?_ (cI5 (v := .bool (a.r != b.r)) ?_)))) ⟨?_, rfl⟩))
 ·exact aQ rfl rfl rfl
 ·exact aQ rfl rfl rfl
 ·exact aQ rfl rfl rfl
 ·exact aQ rfl rfl rfl
 ·unfold fG; simp [Bool.and_assoc]
noncomputable def Hd.ext (D : Hd) (l : List Nat) : Hd := { D with bs := D.bs ++ l }
theorem Hd.ext_nil (D : Hd) : D.ext [] = D := by unfold Hd.ext; rw [List.append_nil]
theorem Hd.ext_ext (D : Hd) (a b : List Nat) : (D.ext a).ext b = D.ext (a ++ b) := by unfold Hd.ext; rw [List.append_assoc]
structure Tells (m : MH) (C : Nat) (D : Hd) (x : Hs × List Wo) (u : V) (m' : MH) : Prop where
 all : ∃ q l, u = .ref q /\ m'[q]? = some (.list (x.2.map Wo.v)) /\ m.length <= q /\ q ∉ (D.ext l).all /\ Ho m' C (D.ext l) x.1 /\ Mod D.foot m m' /\ ∀ y ∈ l, m.length <= y
theorem cO {C : Nat} {x : Hs × List Wo} {q : Nat} {m' : MH} (k : m'[q]? = some (.list (x.2.map Wo.v))) (g : m.length <= q) (o : q ∉ D.all) (h : Ho m' C D x.1) (M : Mod D.foot m m') : Tells m C D x (.ref q) m' :=
 ⟨q, [], rfl, k, g, by rw [Hd.ext_nil]; exact o, by rw [Hd.ext_nil]; exact h, M, fun y_ q => nomatch q⟩
theorem dI {C : Nat} {p : Hs × List Wo} {x : Mn V} {Q : V -> MH -> Prop} {E : Nat -> MH -> Prop} (h : Wp x m (Tells m C D p) nox) (k : ∀ m' q l, m'[q]? = some (.list (p.2.map Wo.v)) -> m.length <= q -> q ∉ (D.ext l).all -> Ho m' C (D.ext l) p.1 -> Mod D.foot m m' -> (∀ y ∈ l, m.length <= y) -> Q (.ref q) m') : Wp x m Q E :=
 dX h fun y_ m' ⟨q, l, e, k1, k2, k3, k4, k5, k6⟩ => e ▸ k m' q l k1 k2 k3 k4 k5 k6
theorem bD8 (H : HF S N) (n : Nat) (w : Wo) (h : Ho m N.C D s) (hl : s.known.length + s.marked.length < lid) : Wp (run S (n + 1) (N.ki + 3) [.ref D.p, w.v]) m (Tells m N.C D (s.marking w)) nox := by
 obtain ⟨eb, kb⟩ := h.mr
 have hc : evT S (run S n) (.all false [(.val (.cmp (.idx (.var 1) (.cnst (Lt.int 0))) [.NotEq] [(.cnst (Lt.str (Str.ofString "say")))])), (.val (.cmp (.idx (.var 1) (.cnst (Lt.int 1))) [.In] [(.attr (.var 0) 12)]))]) [some (.ref D.p), some w.v, none] m = .ok (decide (w.k ≠ fP \/ w.n ∈ s.marked)) m := by
  have e1 : evT S (run S n) (.val (.cmp (.idx (.var 1) (.cnst (Lt.int 0))) [.NotEq] [(.cnst (Lt.str (Str.ofString "say")))])) [some (.ref D.p), some w.v, none] m = .ok (!(w.k == fP)) m := aS (aQ rfl rfl rfl)
  have e2 : evT S (run S n) (.val (.cmp (.idx (.var 1) (.cnst (Lt.int 1))) [.In] [(.attr (.var 0) 12)])) [some (.ref D.p), some w.v, none] m = .ok (decide (w.n ∈ s.marked)) m := by
   refine aS (aQ rfl (bD rfl h.inst rfl) ?_)
   show inV (.int w.n) (.ref D.b) m = _
   rw [bK kb rfl (aQ9 _ _), cW1, cS]
   congr 1
   rw [Bool.eq_iff_iff]; simp
  have := fC (b0 e1 (b0 e2 aA9))
  rw [this]
  congr 1
  rw [Bool.eq_iff_iff]; simp
 refine cE H.marking rfl (cJ hc ?_)
 unfold Hs.marking
 by_cases z : w.k ≠ fP \/ w.n ∈ s.marked
 ·rw [if_pos z, decide_eq_true z]
  refine bG (aW (aF (aK fun q m' l k g => ?_)))
  exact cO k g (fun c => by have := h.lt q c; omega) (h.le l) l.mod
 ·rw [if_neg z, decide_eq_false z]
  have z2 : w.n ∉ s.marked := fun c => z (.inr c)
  refine bC (dL (aD (aC rfl (aD (aC rfl (aD (aC rfl (aD (aH (bD rfl h.inst rfl) (aF ?_))))))))))
  refine dY (aC rfl (aH (bD rfl h.inst rfl) (aC rfl (eA kb rfl (aQ9 _ _) (by unfold iD; rw [List.length_map]; omega) ?_))))
  have ep : put (.int w.n) (.bool true) (iD s.marked) = iD (s.marked ++ [w.n]) := by
   rw [cW1, aD0 _ _ _ _ _ (by rw [List.any_eq_false]; intro x hx; simp; rintro rfl; exact z2 hx)]
   unfold iD tD
   rw [List.map_append]; rfl
  show Wp _ (m.set D.b (.dict (put (.int w.n) (.bool true) (iD s.marked)) (eb + 1))) _ _
  rw [ep]
  have h1 := h.setM (s.marked ++ [w.n]) (eb + 1)
  obtain ⟨ea, ka⟩ := h1.kn
  refine dY (aC rfl (aH (bD rfl h1.inst rfl) (aC rfl (eA ka (k := (mrk w.n w.r s.own).ky) rfl (aA6 _ _) (by unfold kD; rw [List.length_map]; show s.known.length < lid; omega) ?_))))
  show Wp _ (List.set _ D.a (.dict (put (mrk w.n w.r s.own).ky (.bool true) (kD s.known)) (ea + 1))) _ _
  rw [bK9]
  have h2 := h1.setK (bF7 (mrk w.n w.r s.own) s.known) (ea + 1)
  refine bG (aW (aD (aC rfl (aF (aK fun q m' l k g => ?_)))))
  have g' : m.length <= q := by simpa using g
  refine cO k g' (fun c => by have := h.lt q c; omega) (h2.le l) ?_
  exact ((Mod.set (by simp [Hd.foot])).trans (Mod.set (by simp [Hd.foot]))).trans l.mod
end
end Mini
namespace Mini
open PySem
section
variable {S : Sig} {N : HN} {m : MH} {D : Hd} {s : Hs}
theorem cZ {α : Type} {x y : Mn α} {Q : α -> MH -> Prop} {E : Nat -> MH -> Prop} (h : x m = y m) (k : Wp y m Q E) : Wp x m Q E := by unfold Wp at k ⊢; rw [h]; exact k
theorem Ho.out {C : Nat} (h : Ho m C D s) {q : Nat} (hq : m.length <= q) : q ∉ D.all := fun c => by have := h.lt q c; omega
theorem aB0 {D : Hd} {q : Nat} (h : q ∉ D.all) : q ∉ D.foot := fun c => h (List.mem_append_left _ c)
theorem aG8 (s : Hs) (x : Int) (r : Str) : (s.marks x r).length <= s.cnt.toNat := by
 unfold Hs.marks
 exact Nat.le_trans (List.length_filter_le _ _) (by rw [List.length_map, List.length_range]; exact Nat.le_refl _)
theorem bC7 (H : HF S N) (n : Nat) (x : Int) (r : Str) (h : Ho m N.C D s) (h1 : 1 <= s.cnt) (h2 : s.cnt <= 12) (hl : s.rows.length < lid) : Wp (run S (n + 5) (N.ki + 4) [.ref D.p, .int x, .str r]) m (Tells m N.C D (s.writing x r)) nox := by
 have hcn : s.cnt.toNat <= 12 := by omega
 refine cE H.writing rfl (bC (bL1 (List.range s.cnt.toNat) (fun (j : Nat) => V.int (0 + (j : Int))) (fun (j : Nat) => (mrk x r j).v) (fun m' => m' = m) (aD (aH (bD rfl h.inst rfl) (aF (aH (cS1 (by omega)) ⟨rfl, rfl, fun y_ y_ => rfl, ?_, ?_, ?_⟩))))))
 ·intro j hj m' em
  rw [em]
  refine aC rfl (dL (aD (aC rfl (aD (aC rfl (aD (aC rfl (aD (aC rfl (aF ⟨?_, rfl⟩))))))))))
  show V.tup [_, _, _, .int (0 + (j : Int))] = _
  rw [Int.zero_add]; rfl
 ·rw [List.length_range]; unfold lid; omega
 ·intro q1 m1' m1 em l1 k1 g1
  rw [em] at l1 g1
  clear em m1'
  have ha := h.le l1
  obtain ⟨ea, ka⟩ := ha.kn
  have k1 : m1[q1]? = some (.list (((List.range s.cnt.toNat).map fun (j : Nat) => mrk x r j).map Wo.v)) := by rw [List.map_map]; exact k1
  refine bC (aC0 ((List.range s.cnt.toNat).map fun (j : Nat) => mrk x r j) Wo.v Wo.v (fun w => decide (w ∈ s.known)) (fun m' => m' = m1) (aD (aC rfl (aF (d9 (m := m1) (p := q1) (xs := ((List.range s.cnt.toNat).map fun (j : Nat) => mrk x r j).map Wo.v) k1 ⟨rfl, rfl, ?_, ?_, ?_, ?_⟩)))))
  ·intro m' em; rw [em]; exact bZ k1
  ·intro w hw m' em
   rw [em]
   refine aC rfl (aH4 (aH (aS (aQ (t := decide (w ∈ s.known)) rfl (bD rfl ha.inst rfl) ?_)) ⟨rfl, ?_⟩))
   ·show inV w.v (.ref D.a) m1 = _
    rw [bK ka (k := w.ky) rfl (aA6 _ _), aX5]
   ·cases decide (w ∈ s.known) with
    | true => exact aB4 (aC (m' := m1) (a := w.v) rfl ⟨rfl, rfl⟩)
    | false => rfl
  ·rw [List.length_map, List.length_range]; unfold lid; omega
  ·intro q2 m2' m2 em l2 k2 g2
   rw [em] at l2 g2
   clear em m2'
   have k2 : m2[q2]? = some (.list ((s.marks x r).map Wo.v)) := k2
   have hb := ha.le l2
   have qo : q2 ∉ D.all := ha.out g2
   obtain ⟨ec, kc⟩ := hb.ro
   obtain ⟨ed, kd⟩ := hb.ba
   have ml := aG8 s x r
   have hc : evT S (run S (n + 4)) (.all false [(.val (.cmp (.bi .len [(.var 3)]) [.Lt] [(.call N.kE [(.attr (.var 0) 8)])])), (.val (.cmp (.var 1) [.In] [(.attr (.var 0) 13)]))]) [some (.ref D.p), some (.int x), some (.str r), some (.ref q2)] m2 = .ok (decide (((s.marks x r).length : Int) < bJ s.cnt \/ s.wrote x = true)) m2 := by
    have e1 : evT S (run S (n + 4)) (.val (.cmp (.bi .len [(.var 3)]) [.Lt] [(.call N.kE [(.attr (.var 0) 8)])])) [some (.ref D.p), some (.int x), some (.str r), some (.ref q2)] m2 = .ok (decide (((s.marks x r).length : Int) < bJ s.cnt)) m2 := by
     refine aS (aQ (x := .int (s.marks x r).length) ?_ (bT (bD rfl hb.inst rfl) (bP3 H n s.cnt h1 h2 m2)) rfl)
     show biV .len [.ref q2] m2 = _
     unfold biV; dsimp only; rw [k2]; dsimp only; rw [List.length_map]
    have e2 : evT S (run S (n + 4)) (.val (.cmp (.var 1) [.In] [(.attr (.var 0) 13)])) [some (.ref D.p), some (.int x), some (.str r), some (.ref q2)] m2 = .ok (s.wrote x) m2 := by
     refine aS (aQ rfl (bD rfl hb.inst rfl) ?_)
     show inV (.int x) (.ref D.c) m2 = _
     rw [bK kc rfl (aZ _ _ _ _), dK, cS]; rfl
    rw [fC (b0 e1 (b0 e2 aA9))]
    congr 1
    rw [Bool.eq_iff_iff]; simp
   refine cJ hc ?_
   unfold Hs.writing
   by_cases z : ((s.marks x r).length : Int) < bJ s.cnt \/ s.wrote x = true
   ·rw [if_pos z, decide_eq_true z]
    refine bG (aW (aF (aK fun q m' l k g => ?_)))
    have g3 : m.length <= q := Nat.le_trans l1.1 (Nat.le_trans l2.1 g)
    exact cO k g3 (h.out g3) (hb.le l) ((l1.trans (l2.trans l)).mod)
   ·rw [if_neg z, decide_eq_false z]
    have zw : s.wrote x = false := by cases w : s.wrote x with | true => exact absurd (.inr w) z | false => rfl
    refine dY (aC rfl (aH (bD rfl hb.inst rfl) (aC rfl (eA kc rfl (aZ _ _ _ _) (by unfold dK tD; rw [List.length_map]; exact hl) ?_))))
    have ep : put (.int x) (.str r) (dK s.rows) = dK (s.rows ++ [(x, r, s.marks x r)]) := by
     unfold dK
     rw [aD0 _ _ _ _ _ zw]
     unfold tD
     rw [List.map_append]; rfl
    show Wp _ (m2.set D.c (.dict (put (.int x) (.str r) (dK s.rows)) (ec + 1))) _ _
    rw [ep]
    have F := Hd.upd hb.nd (m := m2) (o' := .dict (dK (s.rows ++ [(x, r, s.marks x r)])) (ec + 1)) (j := 3) rfl
    have kd' := F 4 _ _ rfl (by decide) kd
    have ki' := F 0 _ _ rfl (by decide) hb.inst
    have zb : ((bak s D).any fun y => y.1 == x) = false := by
     rw [List.any_eq_false]
     intro y hy
     have : y.1 ∈ s.rows.map (·.1) := (List.of_mem_zip (a := y.1) (b := y.2) hy).1
     obtain ⟨t, ht, e⟩ := List.mem_map.mp this
     have := List.any_eq_false.mp zw t ht
     rw [<- e]; exact this
    refine dY (aC rfl (aH (bD rfl ki' rfl) (aC rfl (eA kd' rfl (aZ _ _ _ _) (by unfold aQ1 tD; rw [List.length_map]; unfold bak; rw [List.length_zip, List.length_map, h.len, Nat.min_self]; exact hl) ?_))))
    have ep2 : put (.int x) (.ref q2) (aQ1 (bak s D)) = aQ1 (bak s D ++ [(x, q2)]) := by
     unfold aQ1
     rw [aD0 _ _ _ _ _ zb]
     unfold tD
     rw [List.map_append]; rfl
    show Wp _ (List.set _ D.d (.dict (put (.int x) (.ref q2) (aQ1 (bak s D))) (ed + 1))) _ _
    rw [ep2]
    have h3 := hb.setR (n := x) (r := r) (e1 := ec + 1) (e2 := ed + 1) k2 qo
    have k3 : ((m2.set D.c (.dict (dK (s.rows ++ [(x, r, s.marks x r)])) (ec + 1))).set D.d (.dict (aQ1 (bak s D ++ [(x, q2)])) (ed + 1)))[q2]? = some (.list ((s.marks x r).map Wo.v)) :=
     aJ (fun e => qo (e ▸ List.mem_append_left _ (by simp [Hd.foot]))) (aJ (fun e => qo (e ▸ List.mem_append_left _ (by simp [Hd.foot]))) k2)
    have el : biV .list [.ref q2] ((m2.set D.c (.dict (dK (s.rows ++ [(x, r, s.marks x r)])) (ec + 1))).set D.d (.dict (aQ1 (bak s D ++ [(x, q2)])) (ed + 1))) = alloc (.list ((s.marks x r).map Wo.v)) ((m2.set D.c (.dict (dK (s.rows ++ [(x, r, s.marks x r)])) (ec + 1))).set D.d (.dict (aQ1 (bak s D ++ [(x, q2)])) (ed + 1))) := by
     unfold biV; dsimp only; rw [k3]
    refine bG (aD8 (aD (aC rfl (aF ?_))))
    refine cZ el (aK fun q m' l k g => ?_)
    have gl : m2.length <= q := by simpa using g
    have g3 : m.length <= q := Nat.le_trans l1.1 (Nat.le_trans l2.1 gl)
    have q3 : q2 < m2.length := aO k2
    have g4 : m.length <= q2 := Nat.le_trans l1.1 g2
    refine ⟨q, [q2], rfl, k, g3, fun c => ?_, h3.le l, ?_, fun y hy => by rw [List.mem_singleton.mp hy]; exact g4⟩
    ·have := h3.lt q c
     simp at this; omega
    ·exact ((l1.trans l2).mod.trans ((Mod.set (by simp [Hd.foot])).trans (Mod.set (by simp [Hd.foot])))).trans l.mod
noncomputable def Wo.d (w : Wo) : PyData := .tuple [.str w.k, .int w.n, .str w.r, .int w.h]
theorem aE9 (m : MH) (f : Nat) : ∀ l : List Wo, aD5 (rd (f + 2) m) (l.map Wo.v) = some (l.map Wo.d)
 | [] => rfl
 | w :: l => bR0 rfl (aE9 m f l)
theorem bB9 (x y : PyData) (a b : List PyData) : PyData.eqvAll (x :: a) (y :: b) = (PyData.eqv x y && PyData.eqvAll a b) := rfl
theorem bP0 (a b : Wo) : PyData.eqv a.d b.d = decide (a = b) := by
 obtain ⟨a1, a2, a3, a4⟩ := a
 obtain ⟨b1, b2, b3, b4⟩ := b
 have e : PyData.eqv (Wo.d ⟨a1, a2, a3, a4⟩) (Wo.d ⟨b1, b2, b3, b4⟩) = (a1 == b1 && (a2 == b2 && (a3 == b3 && (a4 == b4 && true)))) := rfl
 rw [e, Bool.eq_iff_iff, decide_eq_true_iff, Bool.and_eq_true_iff, Bool.and_eq_true_iff, Bool.and_eq_true_iff, Bool.and_true, beq_iff_eq, beq_iff_eq, beq_iff_eq, beq_iff_eq]
 exact ⟨fun ⟨p, q, r, s⟩ => by subst p q r s; rfl, fun e => by cases e; exact ⟨rfl, rfl, rfl, rfl⟩⟩
theorem aT9 : ∀ a b : List Wo, PyData.eqvAll (a.map Wo.d) (b.map Wo.d) = decide (a = b)
 | [], [] => rfl
 | [], _ :: _ => (decide_eq_false fun e => by cases e).symm
 | _ :: _, [] => (decide_eq_false fun e => by cases e).symm
 | x :: a, y :: b => by
  rw [List.map_cons, List.map_cons, bB9, bP0, aT9 a b, Bool.eq_iff_iff, Bool.and_eq_true_iff, decide_eq_true_iff, decide_eq_true_iff, decide_eq_true_iff]
  exact ⟨fun h => by rw [h.1, h.2], fun h => ⟨(List.cons.inj h).1, (List.cons.inj h).2⟩⟩
theorem aP4 {p q : Nat} {a b : List Wo} (hp : m[p]? = some (.list (a.map Wo.v))) (hq : m[q]? = some (.list (b.map Wo.v))) : eqV (.ref p) (.ref q) m = .ok (decide (a = b)) m := by
 have r1 : rd dN m (.ref p) = some (.list (a.map Wo.d)) := by
  show (match m[p]? with | some (.list xs) => (aD5 (rd 11 m) xs).map PyData.list | _ => none) = _
  rw [hp]; show (aD5 (rd 11 m) (a.map Wo.v)).map PyData.list = _; rw [aE9 m 9 a]; rfl
 have r2 : rd dN m (.ref q) = some (.list (b.map Wo.d)) := by
  show (match m[q]? with | some (.list xs) => (aD5 (rd 11 m) xs).map PyData.list | _ => none) = _
  rw [hq]; show (aD5 (rd 11 m) (b.map Wo.v)).map PyData.list = _; rw [aE9 m 9 b]; rfl
 unfold eqV
 rw [r1, r2]
 show Res.ok (PyData.eqvAll _ _) m = _
 rw [aT9]
theorem bL9 (H : HF S N) (n : Nat) (w : Wo) {ahead : List Wo} {qa : Nat} (ha : m[qa]? = some (.list (ahead.map Wo.v))) (hq : qa ∉ D.all) (h : Ho m N.C D s) (hl : s.named.length < lid) : Wp (run S (n + 1) (N.ki + 5) [.ref D.p, w.v, .ref qa]) m (Tells m N.C D (s.naming w ahead)) nox := by
 refine cE H.naming rfl (aG4 (aL0 (bP (fJ (fK (aC rfl (aW (aF (aK fun q0 m0 l0 k0 g0 => ?_)))))))))
 have ha0 := l0.has ha
 have e0 : aA2 .Eq (.ref qa) (.ref q0) m0 = .ok (decide (ahead = [])) m0 := aP4 ha0 (b := []) k0
 refine aH e0 (aC rfl ?_)
 have h0 := h.le l0
 obtain ⟨ef, kf⟩ := h0.bl
 cases ahead with
 | nil =>
  rw [show decide (([] : List Wo) = []) = true from by simp]
  refine aP6 ?_
  refine bG (aW (aF (aK fun q m' l k g => ?_)))
  have g3 : m.length <= q := Nat.le_trans l0.1 g
  exact cO k g3 (h.out g3) (h0.le l) ((l0.trans l).mod)
 | cons a as =>
  have e2 : evT S (run S n) (.val (.cmp (.idx (.var 1) (.cnst (Lt.int 3))) [.In] [(.attr (.var 0) 16)])) [some (.ref D.p), some w.v, some (.ref qa)] m0 = .ok (s.named.any fun x => x.1 == w.h) m0 := by
   refine aS (aQ rfl (bD rfl h0.inst rfl) ?_)
   show inV (.int w.h) (.ref D.f) m0 = _
   rw [bK kf rfl (aZ _ _ _ _), aY7, cS]
  rw [show decide (a :: as = []) = false from by simp]
  refine aB4 ?_
  refine aH (b0 e2 aA9) ?_
  rw [Bool.or_false]
  unfold Hs.naming
  dsimp only
  cases z : s.named.any fun x => x.1 == w.h with
  | true =>
   show Wp _ m0 _ _
   refine bG (aW (aF (aK fun q m' l k g => ?_)))
   have g3 : m.length <= q := Nat.le_trans l0.1 g
   exact cO k g3 (h.out g3) (h0.le l) ((l0.trans l).mod)
  | false =>
   show Wp _ m0 _ _
   rw [if_neg Bool.false_ne_true]
   refine dY (aC rfl (aH (bD rfl h0.inst rfl) (aC rfl (eA kf rfl (aZ _ _ _ _) (by unfold aY7 tD; rw [List.length_map]; exact hl) ?_))))
   have ep : put (.int w.h) (.bool true) (aY7 s.named) = aY7 (s.named ++ [(w.h, a, w)]) := by
    unfold aY7
    rw [aD0 _ _ _ _ _ z]
    unfold tD
    rw [List.map_append]; rfl
   show Wp _ (m0.set D.f (.dict (put (.int w.h) (.bool true) (aY7 s.named)) (ef + 1))) _ _
   rw [ep]
   have F := Hd.upd h0.nd (m := m0) (o' := .dict (aY7 (s.named ++ [(w.h, a, w)])) (ef + 1)) (j := 6) rfl
   have ki := F 0 _ _ rfl (by decide) h0.inst
   have ke := F 5 _ _ rfl (by decide) h0.na
   have qf : D.f ≠ qa := fun e => hq (e ▸ List.mem_append_left _ (by simp [Hd.foot]))
   have qe : D.e ≠ qa := fun e => hq (e ▸ List.mem_append_left _ (by simp [Hd.foot]))
   have ha1 := aJ (o' := .dict (aY7 (s.named ++ [(w.h, a, w)])) (ef + 1)) qf ha0
   have hi : ∀ (m' : MH), m'[qa]? = some (.list ((a :: as).map Wo.v)) -> aI8 (.ref qa) (.int 0) m' = .ok a.v m' := fun m' k => by
    unfold aI8; dsimp only; rw [k]; rfl
   refine eH (bH (aH (bD rfl ki rfl) ⟨0, aD7 ke, rfl, aD (dL (aD (aC rfl (aD (aH (aT rfl rfl (hi _ ha1)) (aD (aC rfl (aF (aF (cF ke (by unfold aA0; rw [List.length_map]; exact hl) ?_))))))))))⟩))
   have en : aA0 s.named ++ [V.tup [.int w.h, a.v, w.v]] = aA0 (s.named ++ [(w.h, a, w)]) := by unfold aA0; rw [List.map_append]; rfl
   show Wp _ (List.set _ D.e (.list (aA0 s.named ++ [V.tup [.int w.h, a.v, w.v]]))) _ _
   rw [en]
   have h1 := h0.setN (x := (w.h, a, w)) (e1 := ef + 1)
   have ha2 := aJ (o' := .list (aA0 (s.named ++ [(w.h, a, w)]))) qe ha1
   refine bG (aW (aD (aH (aT rfl rfl (hi _ ha2)) (aD (aC rfl (aF (aK fun q m' l k g => ?_)))))))
   have gl : m0.length <= q := by simpa using g
   have g3 : m.length <= q := Nat.le_trans l0.1 gl
   refine cO k g3 (h.out g3) (h1.le l) ?_
   exact (l0.mod.trans ((Mod.set (by simp [Hd.foot])).trans (Mod.set (by simp [Hd.foot])))).trans l.mod
end
end Mini
namespace Mini
open PySem
noncomputable def Hs.sz (s : Hs) : Nat := s.known.length + s.marked.length + s.rows.length + s.named.length
theorem Hs.km (s : Hs) : s.known.length + s.marked.length <= s.sz := Nat.le_trans (Nat.le_add_right _ _) (Nat.le_add_right _ _)
theorem Hs.kl (s : Hs) : s.known.length <= s.sz := Nat.le_trans (Nat.le_add_right _ _) s.km
theorem Hs.rl (s : Hs) : s.rows.length <= s.sz := Nat.le_trans (Nat.le_add_left _ _) (Nat.le_add_right _ _)
theorem Hs.nl (s : Hs) : s.named.length <= s.sz := Nat.le_add_left _ _
theorem cR9 {a b a' b' c d k : Nat} (h : a' <= a + k) (h2 : b' <= b + 1) : a' + b' + c + d <= a + b + c + d + (k + 1) := by omega
theorem sum_3 {a b c d : Nat} : a + b + (c + 1) + d <= a + b + c + d + 1 := by omega
theorem cS0 {a b c d : Nat} : a + 1 + b + c + d = a + b + c + d + 1 := by omega
theorem cA3 (w : Wo) (l : List Wo) : (bF7 w l).length <= l.length + 1 := by
 unfold bF7
 by_cases h : w ∈ l
 ·rw [if_pos h]; exact Nat.le_succ _
 ·rw [if_neg h, List.length_append]; exact Nat.le_refl _
theorem dQ (s : Hs) (w : Wo) : (s.marking w).1.cnt = s.cnt /\ (s.marking w).1.rows = s.rows /\ (s.marking w).1.named = s.named /\ (s.marking w).1.own = s.own /\ (s.marking w).1.onw = s.onw /\ (s.marking w).1.sz <= s.sz + 2 /\ (s.marking w).2.length <= 1 := by
 unfold Hs.marking
 split
 ·exact ⟨rfl, rfl, rfl, rfl, rfl, Nat.le_add_right _ _, Nat.zero_le _⟩
 ·refine ⟨rfl, rfl, rfl, rfl, rfl, ?_, Nat.le_refl _⟩
  exact cR9 (cA3 (mrk w.n w.r s.own) s.known) (Nat.le_of_eq List.length_append)
theorem fN (s : Hs) (x : Int) (r : Str) : (s.writing x r).1.cnt = s.cnt /\ (s.writing x r).1.named = s.named /\ (s.writing x r).1.own = s.own /\ (s.writing x r).1.onw = s.onw /\ (s.writing x r).1.sz <= s.sz + 1 /\ (s.writing x r).2.length <= s.cnt.toNat := by
 unfold Hs.writing
 split
 ·exact ⟨rfl, rfl, rfl, rfl, Nat.le_add_right _ _, Nat.zero_le _⟩
 ·refine ⟨rfl, rfl, rfl, rfl, ?_, aG8 s x r⟩
  unfold Hs.sz; rw [List.length_append]; exact sum_3
theorem aL4 (s : Hs) (w : Wo) (l : List Wo) : (s.naming w l).1.cnt = s.cnt /\ (s.naming w l).1.own = s.own /\ (s.naming w l).1.onw = s.onw /\ (s.naming w l).1.sz <= s.sz + 1 /\ (s.naming w l).2.length <= 2 := by
 cases l with
 | nil => exact ⟨rfl, rfl, rfl, Nat.le_add_right _ _, Nat.zero_le _⟩
 | cons a l =>
  unfold Hs.naming
  dsimp only
  split
  ·exact ⟨rfl, rfl, rfl, Nat.le_add_right _ _, Nat.zero_le _⟩
  ·refine ⟨rfl, rfl, rfl, ?_, Nat.le_refl _⟩
   unfold Hs.sz; rw [List.length_append]; exact Nat.le_refl _
theorem aO9 (s : Hs) (w : Wo) : (s.hear w).1.cnt = s.cnt /\ (s.hear w).1.own = s.own /\ (s.hear w).1.onw = s.onw /\ (s.hear w).1.sz <= s.sz + 5 /\ (s.hear w).2.length <= s.cnt.toNat + 3 := by
 unfold Hs.hear
 split
 ·exact ⟨rfl, rfl, rfl, Nat.le_add_right _ _, Nat.zero_le _⟩
 ·dsimp only
  obtain ⟨a1, a2, a3, a4, a5, a6, a7⟩ := dQ { s with known := s.known ++ [w] } w
  obtain ⟨b1, b2, b3, b4, b5, b6⟩ := fN (({ s with known := s.known ++ [w] } : Hs).marking w).1 w.n w.r
  obtain ⟨c1, c2, c3, c4, c5⟩ := aL4 ((({ s with known := s.known ++ [w] } : Hs).marking w).1.writing w.n w.r).1 w (s.known.filter fun a => fG a w)
  have z : ({ s with known := s.known ++ [w] } : Hs).sz = s.sz + 1 := by unfold Hs.sz; rw [List.length_append]; exact cS0
  rw [a1] at b6
  refine ⟨c1.trans (b1.trans a1), c2.trans (b3.trans a4), c3.trans (b4.trans a5), Nat.le_trans c4 (Nat.succ_le_succ (Nat.le_trans b5 (Nat.succ_le_succ (Nat.le_trans a6 (Nat.le_of_eq (congrArg (· + 2) z)))))), ?_⟩
  rw [List.length_append, List.length_append]
  exact Nat.le_trans (Nat.add_le_add (Nat.add_le_add a7 b6) c5) (Nat.le_of_eq (by rw [Nat.add_comm 1]))
section
variable {S : Sig} {N : HN} {m : MH} {D : Hd} {s : Hs}
theorem aZ7 {p e : Nat} {kvs : List (Ky × V)} (h : m[p]? = some (.dict kvs e)) : aB8 .expr [.ref p] m = .ok (kvs.map fun x => x.1.val, .dict p e) m := by
 show dZ (.ref p) m = _
 unfold dZ; dsimp only; rw [h]
theorem bJ0 {p e : Nat} {kvs : List (Ky × V)} (h : m[p]? = some (.dict kvs e)) : (Gd.dict p e).stays m = true := by
 unfold Gd.stays; dsimp only; rw [h]; exact beq_self_eq_true e
theorem cL0 (l : List Wo) : ((kD l).map fun x => x.1.val) = l.map Wo.v := by unfold kD; rw [List.map_map]; rfl
theorem bN9 (H : HF S N) (n : Nat) (w : Wo) (h : Ho m N.C D s) (h1 : 1 <= s.cnt) (h2 : s.cnt <= 12) (hl : s.sz + 8 < lid) : Wp (run S (n + 6) (N.ki + 2) [.ref D.p, w.v]) m (Tells m N.C D (s.hear w)) nox := by
 obtain ⟨ea, ka⟩ := h.kn
 obtain ⟨d, hd, hx, hi, hm⟩ := H.cls
 have e0 : evT S (run S (n + 5)) (.val (.cmp (.var 1) [.In] [(.attr (.var 0) 11)])) [some (.ref D.p), some w.v, none] m = .ok (decide (w ∈ s.known)) m := by
  refine aS (aQ rfl (bD rfl h.inst rfl) ?_)
  show inV w.v (.ref D.a) m = _
  rw [bK ka (k := w.ky) rfl (aA6 _ _), aX5]
 refine cE H.hear rfl (cJ e0 ?_)
 unfold Hs.hear
 by_cases z : w ∈ s.known
 ·rw [if_pos z, decide_eq_true z]
  refine bG (aW (aF (aK fun q m' l k g => ?_)))
  exact cO k g (h.out g) (h.le l) l.mod
 ·rw [if_neg z, decide_eq_false z]
  dsimp only
  have hsl : s.sz < lid := Nat.lt_of_le_of_lt (Nat.le_add_right _ _) hl
  have hkl : s.known.length <= lid := Nat.le_of_lt (Nat.lt_of_le_of_lt s.kl hsl)
  refine bC (aC0 s.known Wo.v Wo.v (fun a => fG a w) (fun m' => m' = m) (aD (aH (bD rfl h.inst rfl) (aF (aH (aZ7 ka) ⟨cL0 _, rfl, ?_, ?_, hkl, ?_⟩)))))
  ·intro m' em; rw [em]; exact bJ0 ka
  ·intro a ha m' em
   rw [em]
   refine aC rfl (aH4 (aH (aS (aO0 (vs := [a.v, w.v]) rfl (bI0 H _ a w m))) ⟨rfl, ?_⟩))
   cases fG a w with
   | true => exact aB4 (aC (m' := m) (a := a.v) rfl ⟨rfl, rfl⟩)
   | false => rfl
  ·intro qa m1' m1 em l1 k1 g1
   rw [em] at l1 g1
   clear em m1'
   have ha := h.le l1
   obtain ⟨ea, ka⟩ := ha.kn
   refine dY (aC rfl (aH (bD rfl ha.inst rfl) (aC rfl (eA ka (k := w.ky) rfl (aA6 _ _) (by unfold kD; rw [List.length_map]; exact Nat.lt_of_le_of_lt s.kl hsl) ?_))))
   show Wp _ (m1.set D.a (.dict (put w.ky (.bool true) (kD s.known)) (ea + 1))) _ _
   rw [bK9, show bF7 w s.known = s.known ++ [w] from if_neg z]
   have hb := ha.setK (s.known ++ [w]) (ea + 1)
   have qo : qa ∉ D.all := h.out g1
   have kq := aJ (o' := .dict (kD (s.known ++ [w])) (ea + 1)) (fun e => qo (e ▸ List.mem_append_left _ (by simp [Hd.foot])) : D.a ≠ qa) k1
   have M1 : Mod D.foot m (m1.set D.a (.dict (kD (s.known ++ [w])) (ea + 1))) := l1.mod.trans (Mod.set (by simp [Hd.foot]))
   generalize hs1 : ({ s with known := s.known ++ [w] } : Hs) = s1 at hb ⊢
   have sz1 : s1.sz = s.sz + 1 := by rw [<- hs1]; unfold Hs.sz; rw [List.length_append]; exact cS0
   have cn1 : s1.cnt = s.cnt := by rw [<- hs1]
   generalize hm2 : m1.set D.a (.dict (kD (s.known ++ [w])) (ea + 1)) = m2 at hb kq M1 ⊢
   have c1 := (dQ s1 w).1
   have c6 := (dQ s1 w).2.2.2.2.2.1
   have c7 := (dQ s1 w).2.2.2.2.2.2
   refine bG (aL1 (aL1 (bL (aC rfl ⟨D.p, N.C, _, d, N.ki + 3, rfl, hb.inst, hd, rfl, hm 2 (by decide), aC rfl (dI (bD8 H (n + 4) w hb (Nat.lt_of_le_of_lt s1.km (by rw [sz1]; exact Nat.lt_of_le_of_lt (Nat.add_le_add_left (show 1 <= 8 by decide) s.sz) hl))) fun m3 q1 l3 k3 g3 o3 h3 M3 y3 => ?_)⟩))))
   refine bL (aC rfl ⟨D.p, N.C, _, d, N.ki + 4, rfl, h3.inst, hd, rfl, hm 3 (by decide), aC rfl (dI (bC7 (D := D.ext l3) H n w.n w.r h3 (by rw [c1, cn1]; exact h1) (by rw [c1, cn1]; exact h2) (Nat.lt_of_le_of_lt (Hs.rl _) (Nat.lt_of_le_of_lt c6 (by rw [sz1]; exact Nat.lt_of_le_of_lt (Nat.add_le_add_left (show 3 <= 8 by decide) s.sz) hl)))) fun m4 q2 l4 k4 g4 o4 h4 M4 y4 => ?_)⟩)
   have b5 := (fN (s1.marking w).1 w.n w.r).2.2.2.2.1
   have b6 := (fN (s1.marking w).1 w.n w.r).2.2.2.2.2
   have k34 := M4.has k3 (aB0 (D := D.ext l3) o3)
   have len2 : (s1.marking w).2.length + ((s1.marking w).1.writing w.n w.r).2.length <= 13 := by rw [c1, cn1] at b6; exact Nat.add_le_add c7 (Nat.le_trans b6 (aK3 h2))
   refine aK2 k34 k4 (by rw [List.length_map, List.length_map]; exact bM len2 (by decide)) fun q5 m5 l5 k5 g5 => ?_
   have h5 := h4.le l5
   have le23 := M3.1
   have le34 := M4.1
   have qa5 : m5[qa]? = some (.list ((s.known.filter fun a => fG a w).map Wo.v)) := l5.has (M4.has (M3.has kq (aB0 qo)) (show qa ∉ D.foot from aB0 qo))
   have lt2 : qa < m2.length := aO kq
   have oa : qa ∉ ((D.ext l3).ext l4).all := fun c => by
    rcases List.mem_append.mp c with c | c
    ·exact qo (List.mem_append_left _ c)
    ·have c : qa ∈ (D.bs ++ l3) ++ l4 := c
     rcases List.mem_append.mp c with c | c
     ·rcases List.mem_append.mp c with c | c
      ·exact qo (List.mem_append_right _ c)
      ·exact absurd (y3 _ c) (Nat.not_le.mpr lt2)
     ·exact absurd (Nat.le_trans le23 (y4 _ c)) (Nat.not_le.mpr lt2)
   refine bL (aC rfl ⟨D.p, N.C, _, d, N.ki + 5, rfl, h5.inst, hd, rfl, hm 4 (by decide), aC rfl (dI (bL9 (D := (D.ext l3).ext l4) H (n + 4) w qa5 oa h5 (Nat.lt_of_le_of_lt (Hs.nl _) (Nat.lt_of_le_of_lt (Nat.le_trans b5 (Nat.succ_le_succ c6)) (by rw [sz1]; exact Nat.lt_of_le_of_lt (Nat.add_le_add_left (show 4 <= 8 by decide) s.sz) hl)))) fun m6 q6 l6 k6 g6 o6 h6 M6 y6 => ?_)⟩)
   have n5 := (aL4 ((s1.marking w).1.writing w.n w.r).1 w (s.known.filter fun a => fG a w)).2.2.2.2
   have o5 : q5 ∉ ((D.ext l3).ext l4).all := h4.out g5
   have k56 := M6.has k5 (aB0 (D := (D.ext l3).ext l4) o5)
   refine aK2 k56 k6 (by rw [List.length_append, List.length_map, List.length_map, List.length_map]; exact bM (Nat.add_le_add len2 n5) (by decide)) fun q7 m7 l7 k7 g7 => ?_
   have h7 := h6.le l7
   have lm : m.length <= m2.length := M1.1
   have le56 := M6.1
   have le45 := l5.1
   rw [Hd.ext_ext, Hd.ext_ext] at h7
   rw [Hd.ext_ext, Hd.ext_ext] at h6
   rw [<- List.append_assoc] at h6 h7
   have le2 := Nat.le_trans lm le23
   have le3 := Nat.le_trans le2 le34
   refine ⟨q7, l3 ++ l4 ++ l6, rfl, ?_, Nat.le_trans (Nat.le_trans le3 le45) (Nat.le_trans le56 g7), h6.out g7, h7, ?_, fun y hy => ?_⟩
   ·rw [k7, List.map_append, List.map_append]
   ·exact (M1.trans M3).trans ((M4.trans l5.mod).trans (Mod.trans M6 l7.mod))
   ·rcases List.mem_append.mp hy with hy | hy
    ·rcases List.mem_append.mp hy with hy | hy
     ·exact Nat.le_trans lm (y3 y hy)
     ·exact Nat.le_trans le2 (y4 y hy)
    ·exact Nat.le_trans (Nat.le_trans le3 le45) (y6 y hy)
theorem cO3 (H : HF S N) (n : Nat) (r : Str) (h : Ho m N.C D s) (hr : cS8 (.str r) = true) (hrl : r.length <= 64) (h1 : 1 <= s.cnt) (h2 : s.cnt <= 12) (hl : s.sz + 8 < lid) : Wp (run S (n + 7) (N.ki + 1) [.ref D.p, .str r]) m (Tells m N.C D (s.call r)) nox := by
 obtain ⟨y_, gL⟩ := H.gL
 obtain ⟨y_, gS⟩ := H.gS
 obtain ⟨d, hd, hx, hi, hm⟩ := H.cls
 have er := bN6 H.R gL gS (n + 5) (m := m) (v := .str r) (.str r hrl)
 rw [hr] at er
 refine cE H.call rfl (cJ (dA (aS (bT rfl er))) ?_)
 show Wp _ m _ _
 refine bC (dL (aD (aC rfl (aD (aH (bD rfl h.inst rfl) (aD (aC rfl (aD (aH (bD rfl h.inst rfl) (aF ?_))))))))))
 refine aR1 (aH (bN (bD rfl h.inst rfl) (bD rfl h.inst rfl) rfl) (aC rfl ⟨D.p, N.C, _, rfl, h.inst, ?_⟩))
 have hb := h.setP (s.onw + s.cnt)
 show Wp _ (m.set D.p (.inst N.C (cP6 D { s with onw := s.onw + s.cnt }))) _ _
 have M1 : Mod D.foot m (m.set D.p (.inst N.C (cP6 D { s with onw := s.onw + s.cnt }))) := Mod.set (by simp [Hd.foot])
 generalize hm2 : m.set D.p (.inst N.C (cP6 D { s with onw := s.onw + s.cnt })) = m2 at hb M1 ⊢
 refine bG (aL1 (aW (aD (aC rfl (aF (aK fun q0 m0 l0 k0 g0 => ?_))))))
 have h0 := hb.le l0
 refine bL (aC rfl ⟨D.p, N.C, _, d, N.ki + 2, rfl, h0.inst, hd, rfl, hm 1 (by decide), aC rfl (dI (bN9 H n ⟨fP, s.onw, r, s.own⟩ h0 h1 h2 hl) fun m3 q1 l3 k3 g3 o3 h3 M3 y3 => ?_)⟩)
 have o0 : q0 ∉ D.all := hb.out g0
 have k03 := M3.has k0 (aB0 o0)
 have n5 : (Hs.hear { s with onw := s.onw + s.cnt } ⟨fP, s.onw, r, s.own⟩).2.length <= s.cnt.toNat + 3 := (aO9 { s with onw := s.onw + s.cnt } ⟨fP, s.onw, r, s.own⟩).2.2.2.2
 refine aK2 k03 k3 (by rw [List.length_map]; exact bM (Nat.add_le_add (Nat.le_refl 1) (Nat.le_trans n5 (Nat.add_le_add_right (aK3 h2) 3))) (by decide)) fun q7 m7 l7 k7 g7 => ?_
 have lm := M1.1
 have lm2 := l0.1
 have lm3 := M3.1
 refine ⟨q7, l3, rfl, k7, Nat.le_trans (Nat.le_trans lm lm2) (Nat.le_trans lm3 g7), h3.out g7, h3.le l7, ?_, fun y hy => Nat.le_trans (Nat.le_trans lm lm2) (y3 y hy)⟩
 exact (M1.trans l0.mod).trans (M3.trans l7.mod)
end
end Mini
namespace Mini
open PySem
section
variable {S : Sig} {N : HN} {m : MH} {D : Hd} {s : Hs}
theorem bO1 {p C : Nat} {fs : List (Nat × V)} (h : m[p]? = some (.inst C fs)) (fs' : List (Nat × V)) (o : MObj) :
  ∃ m', (m ++ [o]).set p (.inst C fs') = m' /\ m'[p]? = some (.inst C fs') /\ m'[m.length]? = some o /\ (∀ q x, q ≠ p -> m[q]? = some x -> m'[q]? = some x) /\ m'.length = m.length + 1 /\ Mod [p] m m' := by
 have hlt := aO h
 refine ⟨_, rfl, bB ((Le.app _ _).has h), ?_, fun q x hq k => ?_, by simp, (Le.app _ _).mod.trans (Mod.set (.head _))⟩
 ·rw [List.getElem?_set_ne (by omega)]; exact bI
 ·exact aJ (fun e => hq e.symm) ((Le.app _ _).has k)
noncomputable def Hs.new (c o : Int) : Hs := ⟨c, o, o, [], [], [], []⟩
noncomputable def cE1 (c : Int) : V -> Bool | .int o => !(decide (0 <= o) && decide (o < c)) | _ => true
theorem cT9 (H : HF S N) (n : Nat) {v x : V} {c : Int} (hv : Pl m v) : evT S (run S (n + 1)) (.all false [(.not (.val (.call N.kW [(.var 2)]))), (.not (.val (.cmp (.cnst (Lt.int 0)) [.LtE, .Lt] [(.var 2), (.var 1)])))]) [some x, some (.int c), some v] m = .ok (cE1 c v) m := by
 have ew : evT S (run S (n + 1)) (.not (.val (.call N.kW [(.var 2)]))) [some x, some (.int c), some v] m = .ok (!vW v) m := dA (aS (bT rfl (eR H.W n hv)))
 cases hq : vW v with
 | false =>
  rw [hq] at ew
  rw [fC (cS5 ew)]
  cases v <;> first | rfl | cases hq
 | true =>
  obtain ⟨o, rfl⟩ := cR1 hq
  have e2 := b0 (S := S) (F := run S (n + 1)) (as := []) (r := [some x, some (.int c), some (.int o)]) (dA (aS (bK7 (m := m) (a := .cnst (Lt.int 0)) (b := .var 2) (c := .var 1) (o := .LtE) (o' := .Lt) rfl rfl rfl rfl rfl))) aA9
  rw [Bool.or_false] at e2
  exact fC (b0 (x := false) (by rw [ew, hq]; rfl) e2)
theorem nd7 {p n : Nat} (h : p < n) : [p, n, n + 1, n + 2, n + 3, n + 4, n + 5].Nodup := by
 show (p :: List.range' n 6).Nodup
 exact List.nodup_cons.mpr ⟨fun q => absurd (List.mem_range'_1.mp q).1 (Nat.not_le.mpr h), List.nodup_range'⟩
theorem mem7 {p n y : Nat} (hy : y ∈ [p, n, n + 1, n + 2, n + 3, n + 4, n + 5]) : y = p \/ n <= y := by
 have hy : y ∈ p :: List.range' n 6 := hy
 rcases List.mem_cons.mp hy with e | e
 ·exact .inl e
 ·exact .inr (List.mem_range'_1.mp e).1
theorem eZ {F : Fns} {r : Lo} {E : Nat -> MH -> Prop} {Q : Fl × Lo -> MH -> Prop} {ss : List CS} {p C k n : Nat} {fs : List (Nat × V)} {o : MObj} {e : CE} (he : ev S F e r m = .ok (.ref m.length) (m ++ [o])) (hv : ev S F (.var 0) r (m ++ [o]) = .ok (.ref p) (m ++ [o])) (h : m[p]? = some (.inst C fs)) (hn : m.length = n)
  (q : ∀ m', m'[p]? = some (.inst C (d8 k (.ref n) fs)) -> m'[n]? = some o -> (∀ q x, q ≠ p -> m[q]? = some x -> m'[q]? = some x) -> m'.length = n + 1 -> Mod [p] m m' -> Wp (exs S F ss r) m' Q E) : Wp (exs S F (.asg (.attr (.var 0) k) e :: ss) r) m Q E := by
 subst hn
 obtain ⟨a1, e1, i1, n1, f1, L1, M1⟩ := bO1 h (d8 k (.ref m.length) fs) o
 refine aR1 (aH he (aH hv ⟨p, C, fs, rfl, (Le.app _ _).has h, ?_⟩))
 rw [e1]
 exact q a1 i1 n1 f1 L1 M1
theorem cM0 (H : HF S N) (n : Nat) {c o : Int} {p : Nat} (h1 : 1 <= c) (h2 : c <= 12) (h3 : 0 <= o) (h4 : o < c) (hp : m[p]? = some (.inst N.C [])) : Wp (run S (n + 3) N.ki [.ref p, .int c, .int o]) m (fun u m' => u = .none /\ ∃ D, D.p = p /\ Ho m' N.C D (Hs.new c o) /\ Mod [p] m m' /\ ∀ y ∈ D.all, y = p \/ m.length <= y) nox := by
 obtain ⟨y_, gM⟩ := H.gM
 have en : run S (n + 2) N.kN [.int c] m = .ok .none m := by
  rw [aX0 H.N_ H.W gM n (.int c)]
  have : isC (.int c) = true := by show (decide (1 <= c) && decide (c <= 12)) = true; rw [decide_eq_true h1, decide_eq_true h2]; rfl
  rw [this]; rfl
 have hb : cE1 c (.int o) = false := by show (!(decide (0 <= o) && decide (o < c))) = false; rw [decide_eq_true h3, decide_eq_true h4]; rfl
 have hlt := aO hp
 refine cE H.I rfl (eH (aH (bT rfl en) (cJ (t := false) ((cT9 H (n + 1) (.int o)).trans (by rw [hb])) ?_)))
 clear hb en h1 h2 h3 h4
 refine aR1 (aC rfl (aC rfl ⟨p, N.C, [], rfl, hp, ?_⟩))
 have k1 := bB (o' := .inst N.C (d8 8 (.int c) [])) hp
 refine aR1 (aC rfl (aC rfl ⟨p, N.C, _, rfl, k1, ?_⟩))
 have k2 := bB (o' := .inst N.C (d8 9 (.int o) (d8 8 (.int c) []))) k1
 refine aR1 (aC rfl (aC rfl ⟨p, N.C, _, rfl, k2, ?_⟩))
 have k3 := bB (o' := .inst N.C (d8 10 (.int o) (d8 9 (.int o) (d8 8 (.int c) [])))) k2
 have M0 : Mod [p] m (((m.set p (.inst N.C (d8 8 (.int c) []))).set p (.inst N.C (d8 9 (.int o) (d8 8 (.int c) [])))).set p (.inst N.C (d8 10 (.int o) (d8 9 (.int o) (d8 8 (.int c) []))))) :=
  ((Mod.set (.head _)).trans (Mod.set (.head _))).trans (Mod.set (.head _))
 have L0 : (((m.set p (.inst N.C (d8 8 (.int c) []))).set p (.inst N.C (d8 9 (.int o) (d8 8 (.int c) [])))).set p (.inst N.C (d8 10 (.int o) (d8 9 (.int o) (d8 8 (.int c) []))))).length = m.length := by simp
 clear k1 k2
 generalize ((m.set p (.inst N.C (d8 8 (.int c) []))).set p (.inst N.C (d8 9 (.int o) (d8 8 (.int c) [])))).set p (.inst N.C (d8 10 (.int o) (d8 9 (.int o) (d8 8 (.int c) [])))) = a0 at k3 M0 L0 ⊢
 refine eZ rfl rfl k3 L0 fun a1 i1 n1 f1 L1 M1 => ?_
 refine eZ rfl rfl i1 L1 fun a2 i2 n2 f2 L2 M2 => ?_
 refine eZ rfl rfl i2 L2 fun a3 i3 n3 f3 L3 M3 => ?_
 refine eZ rfl rfl i3 L3 fun a4 i4 n4 f4 L4 M4 => ?_
 refine eZ rfl rfl i4 L4 fun a5 i5 n5 f5 L5 M5 => ?_
 refine eZ rfl rfl i5 L5 fun a6 i6 n6 f6 L6 M6 => ?_
 have g : ∀ k, m.length + k ≠ p := fun k e => absurd hlt (by rw [<- e]; exact Nat.not_lt.mpr (Nat.le_add_right _ _))
 refine aJ1 ⟨rfl, ⟨p, m.length, m.length + 1, m.length + 2, m.length + 3, m.length + 4, m.length + 5, []⟩, rfl, ⟨i6, ⟨0, ?_⟩, ⟨0, ?_⟩, ⟨0, ?_⟩, ⟨0, ?_⟩, ?_, ⟨0, n6⟩, fun i x e => ?_, rfl, nd7 hlt⟩, ?_, fun y hy => mem7 hy⟩
 ·exact f6 _ _ (g 0) (f5 _ _ (g 0) (f4 _ _ (g 0) (f3 _ _ (g 0) (f2 _ _ (g 0) n1))))
 ·exact f6 _ _ (g 1) (f5 _ _ (g 1) (f4 _ _ (g 1) (f3 _ _ (g 1) n2)))
 ·exact f6 _ _ (g 2) (f5 _ _ (g 2) (f4 _ _ (g 2) n3))
 ·exact f6 _ _ (g 3) (f5 _ _ (g 3) n4)
 ·exact f6 _ _ (g 4) n5
 ·cases e
 ·exact ((M0.trans M1).trans (M2.trans M3)).trans ((M4.trans M5).trans M6)
theorem aI4 (H : HF S N) (n : Nat) (h : Ho m N.C D s) : run S (n + 1) (N.ki + 8) [.ref D.p] m = .ok (.ref m.length) (m ++ [.list (aA0 s.named)]) := by
 rw [bA0 H.caught rfl]
 show Res.bind (Res.bind (Res.bind (Res.bind (Res.bind (ev S (run S n) (.attr (.var 0) 15) [some (.ref D.p)] m) _) _) _) _) _ = _
 rw [bD (k := 15) (v := .ref D.e) rfl h.inst rfl]
 show Res.bind (Res.bind (Res.bind (biV .list [.ref D.e] m) _) _) _ = _
 have : biV .list [.ref D.e] m = .ok (.ref m.length) (m ++ [.list (aA0 s.named)]) := by
  unfold biV; dsimp only; rw [h.na]; rfl
 rw [this]; rfl
noncomputable def c9 (l : List (Int × Str × List Wo)) (k : Int) : Str := match l.find? (fun x => x.1 == k) with
 | some x => x.2.1
 | none => Str.empty
noncomputable def ledD (l : List (Int × Str × List Wo)) : List (Ky × V) := (sortI (l.map (·.1))).foldl (fun d i => put (.int i) (.str (c9 l i)) d) []
theorem aO6 {α : Type} (g : α -> Int) (f : α -> V) : ∀ l : List α, bX (tD g f l) = some (l.map g)
 | [] => rfl
 | a :: l => by
  show (bX (tD g f l)).map _ = _
  rw [aO6 g f l]; rfl
theorem aO5 {i j : Int} : ∀ {l : List Int}, j ∈ insI i l ↔ j = i \/ j ∈ l
 | [] => by simp [insI]
 | a :: l => by
  unfold insI
  split
  ·simp
  ·rw [List.mem_cons, aO5, List.mem_cons]; exact ⟨fun h => by rcases h with h | h | h <;> simp [h], fun h => by rcases h with h | h | h <;> simp [h]⟩
theorem mem_sortI {j : Int} : ∀ {l : List Int}, j ∈ sortI l ↔ j ∈ l
 | [] => Iff.rfl
 | a :: l => by
  show j ∈ insI a (sortI l) ↔ _
  rw [aO5, mem_sortI, List.mem_cons]
theorem bB6 (i : Int) : ∀ l : List Int, (insI i l).length = l.length + 1
 | [] => rfl
 | a :: l => by
  unfold insI
  split
  ·rfl
  ·rw [List.length_cons, bB6, List.length_cons]
theorem b8 : ∀ l : List Int, (sortI l).length = l.length
 | [] => rfl
 | a :: l => by
  show (insI a (sortI l)).length = _
  rw [bB6, b8, List.length_cons]
theorem bD5 {k j : Int} {v : V} {d : List (Ky × V)} (h : aU (.int k) d = true) : aU (.int k) (put (.int j) v d) = true := by
 induction d with
 | nil => rfl
 | cons a d ih =>
  obtain ⟨b, x⟩ := a
  unfold aU at h ih ⊢
  rw [List.all_cons, Bool.and_eq_true] at h
  show (if b = Ky.int j then (b, v) :: d else (b, x) :: put (.int j) v d).all _ = true
  split
  ·rw [List.all_cons, h.1, h.2]; rfl
  ·rw [List.all_cons, ih h.2, h.1]; rfl
theorem bK8 {k : Ky} {v : V} : ∀ d : List (Ky × V), (put k v d).length <= d.length + 1
 | [] => Nat.le_refl _
 | (b, x) :: d => by
  show (if b = k then (b, v) :: d else (b, x) :: put k v d).length <= _
  split
  ·exact Nat.le_succ _
  ·exact Nat.succ_le_succ (bK8 (k := k) (v := v) d)
theorem bM8 {x : Mn V} {kvs : List (Ky × V)} {Q : V -> MH -> Prop} {E : Nat -> MH -> Prop} (h : Wp x m (fun u m' => ∃ q e, u = .ref q /\ m'[q]? = some (.dict kvs e) /\ m.length <= q /\ Le m m') nox) (k : ∀ m' q e, m'[q]? = some (.dict kvs e) -> m.length <= q -> Le m m' -> Q (.ref q) m') : Wp x m Q E :=
 dX h fun y_ m' ⟨q, e, e0, k1, k2, k3⟩ => e0 ▸ k m' q e k1 k2 k3
inductive LInv (C : Nat) (D : Hd) (s : Hs) (m m0 : MH) (zs : List Int) (r : Lo) (m' : MH) : Prop
 | mk (a : List Int) (e : Nat) (x : Option V) (er : r = [some (.ref D.p), some (.ref m.length), x]) (e1 : sortI (s.rows.map (·.1)) = a ++ zs) (ka : m'[m.length]? = some (.dict (a.foldl (fun d i => put (.int i) (.str (c9 s.rows i)) d) []) e)) (kb : m'[m0.length]? = some (.list ((sortI (s.rows.map (·.1))).map V.int))) (hh : Ho m' C D s) (ll : Le m m') (hq : aU (.int 0) (a.foldl (fun d i => put (.int i) (.str (c9 s.rows i)) d) []) = true) (hz : (a.foldl (fun d i => put (.int i) (.str (c9 s.rows i)) d) []).length <= a.length)
theorem aS4 (H : HF S N) (n : Nat) (h : Ho m N.C D s) (hl : s.rows.length < 64) : Wp (run S (n + 1) (N.ki + 6) [.ref D.p]) m (fun u m' => ∃ q e, u = .ref q /\ m'[q]? = some (.dict (ledD s.rows) e) /\ m.length <= q /\ Le m m') nox := by
 refine cE H.ledger rfl (bC (aH (a := .ref m.length) (m' := m ++ [.dict [] 0]) rfl ?_))
 have l0 : Le m (m ++ [.dict [] 0]) := .app _ _
 have k0 : (m ++ [.dict [] 0])[m.length]? = some (.dict [] 0) := bI
 generalize m ++ [MObj.dict [] 0] = m0 at l0 k0 ⊢
 have h0 := h.le l0
 obtain ⟨ec, kc⟩ := h0.ro
 have hs : biV .sorted [.ref D.c] m0 = .ok (.ref m0.length) (m0 ++ [.list ((sortI (s.rows.map (·.1))).map V.int)]) := by
  unfold biV; dsimp only; rw [kc]; dsimp only
  unfold dK
  rw [aO6]; dsimp only
  rw [if_pos (by rw [List.length_map]; exact hl)]; rfl
 have k1 : (m0 ++ [MObj.list ((sortI (s.rows.map (·.1))).map V.int)])[m0.length]? = some (.list ((sortI (s.rows.map (·.1))).map V.int)) := bI
 have l1 : Le m0 (m0 ++ [.list ((sortI (s.rows.map (·.1))).map V.int)]) := .app _ _
 have g1 : m0.length < (m0 ++ [MObj.list ((sortI (s.rows.map (·.1))).map V.int)]).length := by simp
 generalize (m0 ++ [MObj.list ((sortI (s.rows.map (·.1))).map V.int)]) = m1 at k1 l1 g1 hs
 have lt0 := aO k0
 have ht : ∀ i ∈ sortI (s.rows.map (·.1)), b9 (.int i) (dK s.rows) = some (.str (c9 s.rows i)) := fun i hi => by
  have hi := mem_sortI.mp hi
  obtain ⟨x, hx, e⟩ := List.mem_map.mp hi
  unfold dK
  rw [aA1]
  unfold c9
  cases q : s.rows.find? fun x => x.1 == i with
  | none => exact absurd (List.find?_eq_none.mp q x hx) (by simp [e])
  | some y => rfl
 refine aG5 (sortI (s.rows.map (·.1))) V.int (LInv N.C D s m m0) (aD (aD8 (aD (aH (bD rfl h0.inst rfl) (aF (aH hs (aF (d9 k1 ⟨rfl, ⟨[], 0, none, rfl, rfl, l1.has k0, k1, h0.le l1, l0.trans l1, rfl, Nat.le_refl _⟩, ?_, ?_, ?_⟩))))))))
 ·rintro zs r m' ⟨a, e, x, rfl, e1, ka, kb, hh, ll, hq, hz⟩
  exact bZ kb
 ·rintro z zs r m' ⟨a, e, x, rfl, e1, ka, kb, hh, ll, hq, hz⟩
  obtain ⟨e2, k2⟩ := hh.ro
  have hm : z ∈ sortI (s.rows.map (·.1)) := by rw [e1]; simp
  have al : a.length < 64 := by
   have := congrArg List.length e1
   rw [b8, List.length_map, List.length_append] at this
   exact Nat.lt_of_le_of_lt (Nat.le_trans (Nat.le_add_right _ _) (Nat.le_of_eq this.symm)) hl
  have np : m.length ∉ D.all := h.out (Nat.le_refl _)
  refine aC rfl (dY (aH (aT (bD rfl hh.inst rfl) rfl (aG k2 rfl (aZ _ _ _ _) (ht z hm))) (aC rfl (aC rfl (eA ka rfl hq (Nat.lt_of_le_of_lt hz (Nat.lt_of_lt_of_le al (by decide))) (aJ1 ?_))))))
  refine ⟨a ++ [z], e + 1, some (.int z), rfl, by rw [e1, List.append_assoc]; rfl, ?_, aJ (Nat.ne_of_lt lt0) kb, hh.mod (T := [m.length]) (Mod.set (.head _)) fun y hy hy' => ?_, ?_, ?_, ?_⟩
  ·rw [List.foldl_append]; exact bB ka
  ·rw [List.mem_singleton.mp hy'] at hy; exact np hy
  ·exact ll.set (Nat.le_refl _) _
  ·rw [List.foldl_append]; exact bD5 hq
  ·rw [List.foldl_append, List.length_append]
   have := bK8 (k := .int z) (v := .str (c9 s.rows z)) (a.foldl (fun d i => put (.int i) (.str (c9 s.rows i)) d) [])
   exact Nat.le_trans this (Nat.succ_le_succ hz)
 ·rintro r m' ⟨a, e, x, rfl, e1, ka, kb, hh, ll, hq, hz⟩
  rw [List.append_nil] at e1
  refine bG (aC rfl ⟨m.length, e, rfl, ?_, Nat.le_refl _, ll⟩)
  unfold ledD; rw [e1]; exact ka
end
end Mini
namespace Mini
open PySem
noncomputable def Rf (v : V) : Prop := ∃ d, (∀ m, rd 11 m v = some d) /\ PyData.eqv d d = true
theorem cS9 (i : Int) : Rf (.int i) := ⟨.int i, fun y_ => rfl, beq_self_eq_true i⟩
theorem cI0 (w : Wo) : Rf w.v := ⟨w.d, fun y_ => rfl, by rw [bP0]; exact decide_eq_true rfl⟩
theorem cI1 (x : Int × Wo × Wo) : Rf (.tup [.int x.1, x.2.1.v, x.2.2.v]) := by
 refine ⟨.tuple [.int x.1, x.2.1.d, x.2.2.d], fun y_ => rfl, ?_⟩
 show (x.1 == x.1 && (PyData.eqv x.2.1.d x.2.1.d && (PyData.eqv x.2.2.d x.2.2.d && true))) = true
 rw [bP0, bP0, beq_self_eq_true, decide_eq_true rfl, decide_eq_true rfl]; rfl
theorem cB6 : ∀ {xs : List V}, (∀ x ∈ xs, Rf x) -> ∃ ds, (∀ m, aD5 (rd 11 m) xs = some ds) /\ PyData.eqvAll ds ds = true
 | [], _ => ⟨[], fun y_ => rfl, rfl⟩
 | x :: xs, h => by
  obtain ⟨d, h1, h2⟩ := h x (.head _)
  obtain ⟨ds, h3, h4⟩ := cB6 fun y hy => h y (.tail _ hy)
  exact ⟨d :: ds, fun m => bR0 (h1 m) (h3 m), by rw [bB9, h2, h4]; rfl⟩
section
variable {m : MH} {p q : Nat}
theorem cI4 {xs : List V} (hp : m[p]? = some (.list xs)) : rd dN m (.ref p) = (aD5 (rd 11 m) xs).map PyData.list := by
 show (match m[p]? with | some (.list xs) => (aD5 (rd 11 m) xs).map PyData.list | _ => none) = _
 rw [hp]
theorem aJ8 {xs : List V} (hx : ∀ x ∈ xs, Rf x) (hp : m[p]? = some (.list xs)) (hq : m[q]? = some (.list xs)) : eqV (.ref p) (.ref q) m = .ok true m := by
 obtain ⟨ds, h1, h2⟩ := cB6 hx
 have r1 : ∀ {p : Nat}, m[p]? = some (.list xs) -> rd dN m (.ref p) = some (.list ds) := fun hp => by rw [cI4 hp, h1]; rfl
 unfold eqV
 rw [r1 hp, r1 hq]
 show Res.ok (PyData.eqvAll ds ds) m = _
 rw [h2]
theorem bC3 {ls : List (Ky × V)} : ∀ {ks : List (Ky × V)}, (∀ x ∈ ks, ∃ t, x.2 = .str t /\ b9 x.1 ls = some (.str t)) -> aE1 m ls ks = some true
 | [], _ => rfl
 | (k, v) :: r, h => by
  obtain ⟨t, e, hl⟩ := h _ (.head _)
  have e : v = .str t := e
  subst e
  show (match b9 k ls with | none => some false | some u => (match rd dN m (.str t) with | some x => (match rd dN m u with | some y => (match aE1 m ls r with | some b => some (PyData.eqv x y && b) | none => none) | none => none) | none => none)) = _
  rw [hl, bC3 fun x hx => h x (.tail _ hx)]
  show some (t == t && true) = _
  rw [beq_self_eq_true]; rfl
theorem bC0 {ks ls : List (Ky × V)} {e e' : Nat} (hp : m[p]? = some (.dict ks e)) (hq : m[q]? = some (.dict ls e')) (hne : p ≠ q) (hl : ks.length = ls.length) (h1 : aB3 ks = true) (h2 : aB3 ls = true) (h : ∀ x ∈ ks, ∃ t, x.2 = .str t /\ b9 x.1 ls = some (.str t)) : eqV (.ref p) (.ref q) m = .ok true m := by
 have r1 : rd dN m (.ref p) = none := by
  show (match m[p]? with | some (.list xs) => (aD5 (rd 11 m) xs).map PyData.list | _ => none) = _
  rw [hp]
 have en : eqN m (eqX 8 m) (.ref p) (.ref q) = some true := by
  show (match m[p]? with | some (.list xs) => (match m[q]? with | some (.list ys) => (if p ≠ q /\ xs.length = ys.length then bF4 (eqX 8 m) xs ys else none) | _ => none) | some (.dict ks _) => (match m[q]? with | some (.dict ls _) => (if p ≠ q /\ ks.length = ls.length /\ (aB3 ks && aB3 ls) = true then aE1 m ls ks else none) | _ => none) | _ => none) = _
  rw [hp, hq]
  show (if p ≠ q /\ ks.length = ls.length /\ (aB3 ks && aB3 ls) = true then aE1 m ls ks else none) = _
  rw [if_pos ⟨hne, hl, by rw [h1, h2]; rfl⟩]
  exact bC3 h
 unfold eqV
 rw [r1]
 show (match eqN m (eqX 8 m) (.ref p) (.ref q) with | some c => Res.ok c m | Option.none => .bad) = _
 rw [en]
theorem cK {a b : V} (h : eqV a b m = .ok true m) : aA2 .NotEq a b m = .ok false m := by
 show (eqV a b m).bind _ = _
 rw [h]; rfl
end
theorem ins_mem {i j : Int} {l : List Int} : j ∈ insI i l ↔ j = i \/ j ∈ l := aO5
theorem ins_ss {i : Int} : ∀ {l : List Int}, l.Pairwise (· < ·) -> i ∉ l -> (insI i l).Pairwise (· < ·)
 | [], _, _ => List.pairwise_singleton _ _
 | k :: l, h, hi => by
  show (if i <= k then i :: k :: l else k :: insI i l).Pairwise (· < ·)
  have hk : i ≠ k := fun e => hi (e ▸ .head _)
  have h' := List.pairwise_cons.mp h
  by_cases z : i <= k
  ·rw [if_pos z]
   have z : i < k := Int.lt_iff_le_and_ne.mpr ⟨z, hk⟩
   exact List.pairwise_cons.mpr ⟨List.forall_mem_cons.mpr ⟨z, fun x hx => Int.lt_trans z (h'.1 x hx)⟩, h⟩
  ·rw [if_neg z]
   refine List.pairwise_cons.mpr ⟨fun x hx => ?_, ins_ss h'.2 fun q => hi (.tail _ q)⟩
   rcases ins_mem.mp hx with e | e
   ·rw [e]; exact Int.not_le.mp z
   ·exact h'.1 x e
theorem sort_ss : ∀ {l : List Int}, l.Nodup -> (sortI l).Pairwise (· < ·)
 | [], _ => List.Pairwise.nil
 | i :: l, h => by
  rw [List.nodup_cons] at h
  exact ins_ss (sort_ss h.2) fun q => h.1 (mem_sortI.mp q)
theorem aR0 : ∀ {l : List Int}, l.Pairwise (· < ·) -> sortI l = l
 | [], _ => rfl
 | i :: l, h => by
  have h' := List.pairwise_cons.mp h
  show insI i (sortI l) = _
  rw [aR0 h'.2]
  cases l with
  | nil => rfl
  | cons j l => exact if_pos (Int.le_of_lt (h'.1 j (.head _)))
theorem cI8 {k : Int} {v : V} : ∀ {is : List Int} {f : Int -> V}, k ∉ is -> put (.int k) v (tD id f is) = tD id f is ++ [(.int k, v)] := fun {is f} h => by
 rw [aD0]
 rw [List.any_eq_false]
 intro x hx e
 exact h (eq_of_beq e ▸ hx)
noncomputable def aV1 (l : List (Int × Str × List Wo)) : List (Ky × V) := tD id (fun i => .str (c9 l i)) (sortI (l.map (·.1)))
theorem cC6 {l : List (Int × Str × List Wo)} (nd : (l.map (·.1)).Nodup) : ledD l = aV1 l := by
 have key : ∀ (is js : List Int), (js ++ is).Nodup -> is.foldl (fun d i => put (.int i) (.str (c9 l i)) d) (tD id (fun i => .str (c9 l i)) js) = tD id (fun i => .str (c9 l i)) (js ++ is) := by
  intro is
  induction is with
  | nil => intro js _; rw [List.append_nil]; rfl
  | cons i is ih =>
   intro js h
   have hi : i ∉ js := fun c => (List.nodup_append.mp h).2.2 i c i (.head _) rfl
   rw [List.foldl_cons, cI8 hi]
   have := ih (js ++ [i]) (by rw [List.append_assoc]; exact h)
   rw [List.append_assoc] at this
   rw [show tD id (fun i => V.str (c9 l i)) js ++ [(Ky.int i, V.str (c9 l i))] = tD id (fun i => .str (c9 l i)) (js ++ [i]) by unfold tD; rw [List.map_append]; rfl]
   exact this
 exact key _ [] ((sort_ss nd).imp fun h => Int.ne_of_lt h)
theorem aC2 {α : Type} (g : α -> Int) (f : α -> V) (l : List α) : aB3 (tD g f l) = true := by
 unfold aB3 tD
 rw [List.all_map, List.all_eq_true]
 intro _ _; rfl
theorem bD4 {l : List (Int × Str × List Wo)} {k : Int} (hk : k ∈ l.map (·.1)) : (l.find? fun x => x.1 == k).map (fun x => V.str x.2.1) = some (.str (c9 l k)) := by
 obtain ⟨x, hx, e⟩ := List.mem_map.mp hk
 have hs : (l.find? fun x => x.1 == k).isSome = true := by rw [List.find?_isSome]; exact ⟨x, hx, beq_iff_eq.mpr e⟩
 obtain ⟨y, hy⟩ := Option.isSome_iff_exists.mp hs
 unfold c9
 rw [hy]; rfl
theorem cK7 {l : List (Int × Str × List Wo)} : ∀ x ∈ aV1 l, ∃ t, x.2 = .str t /\ b9 x.1 (dK l) = some (.str t) := fun x hx => by
 obtain ⟨i, hi, rfl⟩ := List.mem_map.mp hx
 refine ⟨c9 l i, rfl, ?_⟩
 unfold dK
 rw [show (Ky.int (id i), V.str (c9 l i)).1 = Ky.int i from rfl, aA1, bD4 (mem_sortI.mp hi)]
theorem bW0 {l : List (Int × Str × List Wo)} : ∀ x ∈ aV1 l, ∃ t, x.2 = .str t /\ b9 x.1 (aV1 l) = some (.str t) := fun x hx => by
 obtain ⟨i, hi, rfl⟩ := List.mem_map.mp hx
 refine ⟨c9 l i, rfl, ?_⟩
 have hs : ((sortI (l.map (·.1))).find? fun x => id x == i).isSome = true := by rw [List.find?_isSome]; exact ⟨i, hi, beq_self_eq_true i⟩
 obtain ⟨y, hy⟩ := Option.isSome_iff_exists.mp hs
 have e : y = i := eq_of_beq (List.find?_some (p := fun x => id x == i) hy)
 unfold aV1
 rw [show (Ky.int (id i), V.str (c9 l i)).1 = Ky.int i from rfl, aA1, hy, e]; rfl
theorem cK8 (l : List (Int × Str × List Wo)) : (aV1 l).length = l.length := by unfold aV1 tD; rw [List.length_map, b8, List.length_map]
section
variable {S : Sig} {N : HN} {m : MH} {D : Hd} {s : Hs}
theorem bF3 (H : HF S N) (n : Nat) {v : V} (h : Ho m N.C D s) (hv : Pl m v) (hb : (match v with | .int k => !s.wrote k | _ => true) = true) : Wp (run S (n + 2) (N.ki + 7) [.ref D.p, v]) m (fun y_ y_ => False) (fun c m' => c = N.cN /\ m' = m) := by
 obtain ⟨ec, kc⟩ := h.ro
 have ew : evT S (run S (n + 1)) (.not (.val (.call N.kW [(.var 1)]))) [some (.ref D.p), some v] m = .ok (!vW v) m := dA (aS (bT rfl (eR H.W n hv)))
 have e1 : evT S (run S (n + 1)) (.all false [(.not (.val (.call N.kW [(.var 1)]))), (.val (.cmp (.var 1) [.NotIn] [(.attr (.var 0) 13)]))]) [some (.ref D.p), some v] m = .ok true m := by
  cases hq : vW v with
  | false => rw [hq] at ew; exact fC (cS5 ew)
  | true =>
   obtain ⟨k, rfl⟩ := cR1 hq
   have hb : (!s.wrote k) = true := hb
   refine fC (b0 (x := false) (by rw [ew]; rfl) (b0 (x := true) (aS (aQ rfl (bD rfl h.inst rfl) ?_)) aA9))
   show Res.bind (inV (.int k) (.ref D.c) m) _ = _
   rw [bK kc rfl (aZ _ _ _ _), dK, cS]
   show Res.ok (!s.wrote k) m = _
   rw [hb]
 exact cE H.backing rfl (cJ e1 (s_rse ⟨rfl, rfl⟩))
noncomputable def fE (l : List (Int × Str × List Wo)) (k : Int) : List Wo := match l.find? (fun x => x.1 == k) with
 | some x => x.2.2
 | none => []
theorem bO3 {l : List (Int × Str × List Wo)} {bs : List Nat} {k : Int} : ∀ {x : Int × Str × List Wo}, l.find? (fun x => x.1 == k) = some x -> bs.length = l.length -> ∃ (i q : Nat), l[i]? = some x /\ bs[i]? = some q /\ ((l.map (·.1)).zip bs).find? (fun y => y.1 == k) = some (x.1, q) := by
 induction l generalizing bs with
 | nil => intro x h; cases h
 | cons a l ih =>
  intro x h hl
  cases bs with
  | nil => cases hl
  | cons b bs =>
   by_cases z : (a.1 == k) = true
   ·rw [List.find?_cons_of_pos (p := fun x : Int × Str × List Wo => x.1 == k) z] at h
    cases h
    exact ⟨0, b, rfl, rfl, List.find?_cons_of_pos (p := fun y : Int × Nat => y.1 == k) z⟩
   ·rw [List.find?_cons_of_neg (p := fun x : Int × Str × List Wo => x.1 == k) z] at h
    obtain ⟨i, q, h1, h2, h3⟩ := ih h (Nat.succ.inj hl)
    exact ⟨i + 1, q, h1, h2, (List.find?_cons_of_neg (p := fun y : Int × Nat => y.1 == k) z).trans h3⟩
theorem aK1 {k : Int} (hb : s.wrote k = true) : ∃ x, s.rows.find? (fun x => x.1 == k) = some x := by
 have hs : (s.rows.find? fun x => x.1 == k).isSome = true := by
  rw [List.find?_isSome]
  obtain ⟨x, hx, e⟩ := List.any_eq_true.mp hb
  exact ⟨x, hx, e⟩
 exact Option.isSome_iff_exists.mp hs
theorem e9 (H : HF S N) (n : Nat) {k : Int} (h : Ho m N.C D s) (hb : s.wrote k = true) : run S (n + 2) (N.ki + 7) [.ref D.p, .int k] m = .ok (.ref m.length) (m ++ [.list ((fE s.rows k).map Wo.v)]) := by
 obtain ⟨ec, kc⟩ := h.ro
 obtain ⟨ed, kd⟩ := h.ba
 obtain ⟨x, hx⟩ := aK1 hb
 obtain ⟨i, q, h1, h2, h3⟩ := bO3 hx h.len
 obtain ⟨q', g1, g2⟩ := h.bk i x h1
 rw [h2] at g1
 cases g1
 have ew : evT S (run S (n + 1)) (.not (.val (.call N.kW [(.var 1)]))) [some (.ref D.p), some (.int k)] m = .ok false m := dA (aS (bT rfl (eR H.W n (.int k))))
 have e1 : evT S (run S (n + 1)) (.all false [(.not (.val (.call N.kW [(.var 1)]))), (.val (.cmp (.var 1) [.NotIn] [(.attr (.var 0) 13)]))]) [some (.ref D.p), some (.int k)] m = .ok false m := by
  refine fC (b0 (x := false) ew (b0 (x := false) (aS (aQ rfl (bD rfl h.inst rfl) ?_)) aA9))
  show Res.bind (inV (.int k) (.ref D.c) m) _ = _
  rw [bK kc rfl (aZ _ _ _ _), dK, cS]
  show Res.ok (!s.wrote k) m = _
  rw [hb]; rfl
 have ei : aI8 (.ref D.d) (.int k) m = .ok (.ref q) m := aG kd rfl (aZ _ _ _ _) (by unfold aQ1; rw [aA1]; unfold bak; rw [h3]; rfl)
 have eb : fE s.rows k = x.2.2 := by unfold fE; rw [hx]
 rw [bA0 H.backing rfl]
 show ((exs S (run S (n + 1)) (aB6 N.kW N.cN) [some (.ref D.p), some (.int k)] m).bind cW5) = _
 have e2 : exs S (run S (n + 1)) (aB6 N.kW N.cN) [some (.ref D.p), some (.int k)] m = .ok (.ret (.ref m.length), [some (.ref D.p), some (.int k)]) (m ++ [.list ((fE s.rows k).map Wo.v)]) := by
  have w : Wp (exs S (run S (n + 1)) (aB6 N.kW N.cN) [some (.ref D.p), some (.int k)]) m (fun p m' => p = (.ret (.ref m.length), [some (.ref D.p), some (.int k)]) /\ m' = m ++ [.list ((fE s.rows k).map Wo.v)]) nox := by
   refine cJ e1 (bG (aD8 (aD (aH (aT (bD rfl h.inst rfl) rfl ei) (aF (aH (a := .ref m.length) (m' := m ++ [.list ((fE s.rows k).map Wo.v)]) ?_ ⟨rfl, rfl⟩))))))
   unfold biV; dsimp only; rw [g2, eb]; rfl
  obtain ⟨a, m', e, rfl, rfl⟩ := fF w
  exact e
 rw [e2]; rfl
end
end Mini
namespace Mini
namespace P06
open PySem
noncomputable def fM (k : List Wo) (w : Wo) : List Wo := k.filter fun a => a.k == w.k && (a.n == w.n && a.h == w.h)
noncomputable def cU7 (k : List Wo) (n o : Int) : List Wo := k.filter fun a => a.k == eM && (a.n == n && a.h == o)
noncomputable def aF2 (k : List Wo) (n : Int) (r : Str) : List Wo := k.filter fun a => a.k == eM && (a.n == n && a.r == r)
noncomputable def aB5 (k : List Wo) (n : Int) (r : Str) : List Wo := (sortI ((aF2 k n r).map (·.h))).map (mrk n r)
structure Fit (s : Hs) : Prop where
 own : ∀ n, n ∈ s.marked ↔ ∃ a ∈ s.known, a.k = eM /\ a.n = n /\ a.h = s.own
 nd : s.known.Nodup
 hs : ∀ a ∈ s.known, 0 <= a.h /\ a.h < s.cnt
theorem bF9 {a b : Wo} (h1 : a.k = b.k) (h2 : a.n = b.n) (h3 : a.r = b.r) (h4 : a.h = b.h) : a = b := by
 obtain ⟨a1, a2, a3, a4⟩ := a
 obtain ⟨b1, b2, b3, b4⟩ := b
 cases h1; cases h2; cases h3; cases h4; rfl
theorem bQ5 {k : List Wo} {w : Wo} (hw : w ∉ k) : fM k w = k.filter fun a => fG a w := by
 refine List.filter_congr fun a ha => ?_
 unfold fG
 rw [Bool.eq_iff_iff]
 simp only [Bool.and_eq_true, beq_iff_eq, bne_iff_ne]
 exact ⟨fun q => ⟨⟨⟨q.2.2, q.1⟩, q.2.1⟩, fun e => hw (bF9 q.1 q.2.1 e q.2.2 ▸ ha)⟩, fun q => ⟨q.1.1.2, q.1.2, q.1.1.1⟩⟩
theorem bA7 {s : Hs} {w : Wo} (I : Fit s) (hw : w.k = eM -> w.h ≠ s.own) : cU7 (s.known ++ [w]) w.n s.own = [] ↔ w.n ∉ s.marked := by
 unfold cU7
 rw [List.filter_eq_nil_iff, I.own]
 constructor
 ·rintro h ⟨a, ha, h1, h2, h3⟩
  exact h a (List.mem_append_left _ ha) (by simp [h1, h2, h3])
 ·intro h a ha q
  simp only [Bool.and_eq_true, beq_iff_eq] at q
  rcases List.mem_append.mp ha with e | e
  ·exact h ⟨a, e, q.1, q.2.1, q.2.2⟩
  ·rw [List.mem_singleton.mp e] at q
   exact hw q.1 q.2.2
theorem cB1 : ∀ {a b : List Int}, a.Pairwise (· < ·) -> b.Pairwise (· < ·) -> (∀ x, x ∈ a ↔ x ∈ b) -> a = b
 | [], [], _, _, _ => rfl
 | [], y :: b, _, _, h => absurd ((h y).mpr (.head _)) List.not_mem_nil
 | x :: a, [], _, _, h => absurd ((h x).mp (.head _)) List.not_mem_nil
 | x :: a, y :: b, ha, hb, h => by
  rw [List.pairwise_cons] at ha hb
  have e : x = y := by
   rcases List.mem_cons.mp ((h x).mp (.head _)) with e | e
   ·exact e
   ·rcases List.mem_cons.mp ((h y).mpr (.head _)) with e' | e'
    ·exact e'.symm
    ·have h1 := hb.1 x e
     have h2 := ha.1 y e'
     omega
  subst e
  rw [cB1 ha.2 hb.2 fun z => ⟨fun hz => ?_, fun hz => ?_⟩]
  ·rcases List.mem_cons.mp ((h z).mp (.tail _ hz)) with e | e
   ·have := ha.1 z hz; omega
   ·exact e
  ·rcases List.mem_cons.mp ((h z).mpr (.tail _ hz)) with e | e
   ·have := hb.1 z hz; omega
   ·exact e
theorem ins_mem {i j : Int} : ∀ {l : List Int}, j ∈ insI i l ↔ j = i \/ j ∈ l
 | [] => by simp [insI]
 | k :: l => by
  show j ∈ (if i <= k then i :: k :: l else k :: insI i l) ↔ _
  split
  ·simp
  ·rw [List.mem_cons, ins_mem (l := l), List.mem_cons]
   constructor
   ·rintro (h | h | h)
    ·exact .inr (.inl h)
    ·exact .inl h
    ·exact .inr (.inr h)
   ·rintro (h | h | h)
    ·exact .inr (.inl h)
    ·exact .inl h
    ·exact .inr (.inr h)
set_option tactic.hygienic true in
theorem ins_ss {i : Int} : ∀ {l : List Int}, l.Pairwise (· < ·) -> i ∉ l -> (insI i l).Pairwise (· < ·)
 | [], _, _ => List.pairwise_singleton _ _
 | k :: l, h, hi => by
  show (if i <= k then i :: k :: l else k :: insI i l).Pairwise (· < ·)
  have hk : i ≠ k := fun e => hi (e ▸ .head _)
  have h' := List.pairwise_cons.mp h
  split
  ·rename_i z
   have z : i < k := by omega
   exact List.pairwise_cons.mpr ⟨fun x hx => by
    rcases List.mem_cons.mp hx with e | e
    ·rw [e]; exact z
    ·exact Int.lt_trans z (h'.1 x e), h⟩
  ·rename_i z
   refine List.pairwise_cons.mpr ⟨fun x hx => ?_, ins_ss h'.2 fun q => hi (.tail _ q)⟩
   rcases ins_mem.mp hx with e | e
   ·rw [e]; omega
   ·exact h'.1 x e
theorem sort_ss : ∀ {l : List Int}, l.Nodup -> (sortI l).Pairwise (· < ·)
 | [], _ => List.Pairwise.nil
 | i :: l, h => by
  rw [List.nodup_cons] at h
  exact ins_ss (sort_ss h.2) fun q => h.1 (mem_sortI.mp q)
theorem bU3 (c : Nat) : ((List.range c).map fun (j : Nat) => (j : Int)).Pairwise (· < ·) := by
 rw [List.pairwise_map]
 exact (List.pairwise_lt_range).imp fun h => Int.ofNat_lt.mpr h
theorem bQ6 {s : Hs} (nd : s.known.Nodup) (hs : ∀ a ∈ s.known, 0 <= a.h /\ a.h < s.cnt) (n : Int) (r : Str) : aB5 s.known n r = s.marks n r := by
 have hb : ∀ a, a ∈ aF2 s.known n r ↔ a ∈ s.known /\ a = mrk n r a.h := fun a => by
  unfold aF2
  rw [List.mem_filter]
  refine and_congr_right fun y_ => ?_
  rw [Bool.and_eq_true_iff, Bool.and_eq_true_iff, beq_iff_eq, beq_iff_eq, beq_iff_eq]
  exact ⟨fun q => bF9 q.1 q.2.1 q.2.2 rfl, fun q => ⟨congrArg Wo.k q, congrArg Wo.n q, congrArg Wo.r q⟩⟩
 have hn : ((aF2 s.known n r).map (·.h)).Nodup := by
  have : (aF2 s.known n r).Nodup := nd.filter _
  refine List.pairwise_map.mpr (List.Pairwise.imp_of_mem (fun {a b} ha hb' hne e => hne ?_) this)
  rw [((hb a).mp ha).2, ((hb b).mp hb').2, e]
 have e1 : s.marks n r = (((List.range s.cnt.toNat).map fun (j : Nat) => (j : Int)).filter fun j => decide (mrk n r j ∈ s.known)).map (mrk n r) := by
  unfold Hs.marks
  rw [List.filter_map, List.filter_map, List.map_map]
  rfl
 rw [e1]
 unfold aB5
 refine congrArg (List.map (mrk n r)) (cB1 (sort_ss hn) ((bU3 _).filter _) fun x => ?_)
 rw [mem_sortI, List.mem_map, List.mem_filter, List.mem_map, decide_eq_true_iff]
 constructor
 ·rintro ⟨a, ha, rfl⟩
  obtain ⟨h1, h2⟩ := (hb a).mp ha
  have := hs a h1
  refine ⟨⟨a.h.toNat, List.mem_range.mpr (by omega), by omega⟩, ?_⟩
  rw [<- h2]; exact h1
 ·rintro ⟨y_, h⟩
  exact ⟨mrk n r x, (hb _).mpr ⟨h, rfl⟩, rfl⟩
end P06
end Mini
namespace Mini
namespace P06
open PySem
noncomputable def aD6 (s : Hs) (w : Wo) : List Wo := if w.k = fP /\ cU7 (s.known ++ [w]) w.n s.own = [] then [mrk w.n w.r s.own] else []
noncomputable def aR (s : Hs) (w : Wo) : List Wo := s.known ++ [w] ++ aD6 s w
noncomputable abbrev aA3 (s : Hs) (w : Wo) : Prop := s.wrote w.n = false /\ bJ s.cnt <= ((aB5 (aR s w) w.n w.r).length : Int)
noncomputable def aN7 (s : Hs) (w : Wo) : List (Int × Str × List Wo) := if aA3 s w then s.rows ++ [(w.n, w.r, aB5 (aR s w) w.n w.r)] else s.rows
noncomputable def cH2 (s : Hs) (w : Wo) : List Wo := if aA3 s w then aB5 (aR s w) w.n w.r else []
noncomputable def nm (s : Hs) (w : Wo) : List (Int × Wo × Wo) := match fM s.known w with
 | [] => []
 | a :: _ => if (s.named.any fun x => x.1 == w.h) = true then [] else [(w.h, a, w)]
noncomputable def cH1 (s : Hs) (w : Wo) : List Wo := match fM s.known w with
 | [] => []
 | a :: _ => if (s.named.any fun x => x.1 == w.h) = true then [] else [a, w]
structure Heard (s : Hs) (w : Wo) (p : Hs × List Wo) : Prop where
 known : p.1.known = aR s w
 rows : p.1.rows = aN7 s w
 named : p.1.named = s.named ++ nm s w
 cnt : p.1.cnt = s.cnt
 own : p.1.own = s.own
 onw : p.1.onw = s.onw
 told : p.2 = aD6 s w ++ cH2 s w ++ cH1 s w
 fit : Fit p.1
theorem aN6 : fP ≠ eM := by decide +kernel
theorem cM6 {s : Hs} {w : Wo} (I : Fit s) (hw : w ∉ s.known) (h0 : 0 <= w.h /\ w.h < s.cnt) (hm : w.k = eM -> w.h ≠ s.own) : Fit { s with known := s.known ++ [w] } where
 own := fun n => (I.own n).trans ⟨fun ⟨a, ha, q⟩ => ⟨a, List.mem_append_left _ ha, q⟩, fun ⟨a, ha, h1, h2, h3⟩ => by
  rcases List.mem_append.mp ha with e | e
  ·exact ⟨a, e, h1, h2, h3⟩
  ·rw [List.mem_singleton.mp e] at h1 h3
   exact absurd h3 (hm h1)⟩
 nd := List.nodup_append.mpr ⟨I.nd, List.nodup_cons.mpr ⟨List.not_mem_nil, List.nodup_nil⟩, fun a ha b hb e => by
  rw [List.mem_singleton.mp hb] at e
  exact hw (e ▸ ha)⟩
 hs := fun a ha => by
  rcases List.mem_append.mp ha with e | e
  ·exact I.hs a e
  ·rw [List.mem_singleton.mp e]; exact h0
theorem cK4 {s : Hs} {w : Wo} (I : Fit s) (hw : w ∉ s.known) (h0 : 0 <= w.h /\ w.h < s.cnt) (hm : w.k = eM -> w.h ≠ s.own) (ho : 0 <= s.own /\ s.own < s.cnt) :
  ∃ mk, ({ s with known := s.known ++ [w] } : Hs).marking w = ({ s with known := aR s w, marked := mk }, aD6 s w) /\ Fit { s with known := aR s w, marked := mk } := by
 have I1 := cM6 I hw h0 hm
 have e1 : ({ s with known := s.known ++ [w] } : Hs).marking w = if w.k ≠ fP \/ w.n ∈ s.marked then ({ s with known := s.known ++ [w] }, []) else ({ s with marked := s.marked ++ [w.n], known := bF7 (mrk w.n w.r s.own) (s.known ++ [w]) }, [mrk w.n w.r s.own]) := rfl
 rw [e1]
 by_cases z : w.k ≠ fP \/ w.n ∈ s.marked
 ·rw [if_pos z]
  have et : aD6 s w = [] := if_neg fun q => by
   rcases z with z | z
   ·exact z q.1
   ·exact (bA7 I hm).mp q.2 z
  have ek : aR s w = s.known ++ [w] := by unfold aR; rw [et, List.append_nil]
  rw [et, ek]
  exact ⟨s.marked, rfl, I1⟩
 ·rw [if_neg z]
  have hk : w.k = fP := Classical.byContradiction fun q => z (.inl q)
  have hn : w.n ∉ s.marked := fun q => z (.inr q)
  have et : aD6 s w = [mrk w.n w.r s.own] := if_pos ⟨hk, (bA7 I hm).mpr hn⟩
  have nm : mrk w.n w.r s.own ∉ s.known ++ [w] := fun q => hn ((I1.own w.n).mpr ⟨_, q, rfl, rfl, rfl⟩)
  have ea : bF7 (mrk w.n w.r s.own) (s.known ++ [w]) = aR s w := by
   unfold bF7 aR; rw [if_neg nm, et]
  rw [ea, et]
  refine ⟨s.marked ++ [w.n], rfl, ?_⟩
  have ek : aR s w = s.known ++ [w] ++ [mrk w.n w.r s.own] := by unfold aR; rw [et]
  rw [ek]
  refine ⟨fun n => ?_, List.nodup_append.mpr ⟨I1.nd, List.nodup_cons.mpr ⟨List.not_mem_nil, List.nodup_nil⟩, fun a ha b hb e => ?_⟩, fun a ha => ?_⟩
  ·show n ∈ s.marked ++ [w.n] ↔ _
   rw [List.mem_append, List.mem_singleton]
   constructor
   ·rintro (q | q)
    ·obtain ⟨a, ha, q⟩ := (I1.own n).mp q
     exact ⟨a, List.mem_append_left _ ha, q⟩
    ·exact ⟨mrk w.n w.r s.own, List.mem_append_right _ (.head _), rfl, q.symm, rfl⟩
   ·rintro ⟨a, ha, h1, h2, h3⟩
    rcases List.mem_append.mp ha with e | e
    ·exact .inl ((I1.own n).mpr ⟨a, e, h1, h2, h3⟩)
    ·rw [List.mem_singleton.mp e] at h2
     exact .inr h2.symm
  ·rw [List.mem_singleton.mp hb] at e
   exact nm (e ▸ ha)
  ·rcases List.mem_append.mp ha with e | e
   ·exact I1.hs a e
   ·rw [List.mem_singleton.mp e]; exact ho
theorem bB8 {s t : Hs} (I : Fit s) (h1 : t.known = s.known) (h2 : t.marked = s.marked) (h3 : t.own = s.own) (h4 : t.cnt = s.cnt) : Fit t where
 own := fun n => by rw [h1, h2, h3]; exact I.own n
 nd := h1 ▸ I.nd
 hs := fun a ha => by rw [h4]; exact I.hs a (h1 ▸ ha)
theorem bB7 {s : Hs} {w : Wo} (I : Fit s) (hw : w ∉ s.known) (h0 : 0 <= w.h /\ w.h < s.cnt) (hm : w.k = eM -> w.h ≠ s.own) (ho : 0 <= s.own /\ s.own < s.cnt) : Heard s w (s.hear w) := by
 obtain ⟨mk, em, I2⟩ := cK4 I hw h0 hm ho
 have eb := bQ5 hw
 have eh : s.hear w = (((({ s with known := aR s w, marked := mk } : Hs).writing w.n w.r).1.naming w (fM s.known w)).1, aD6 s w ++ (({ s with known := aR s w, marked := mk } : Hs).writing w.n w.r).2 ++ ((({ s with known := aR s w, marked := mk } : Hs).writing w.n w.r).1.naming w (fM s.known w)).2) := by
  unfold Hs.hear
  rw [if_neg hw, eb]
  dsimp only
  rw [em]
 have ew : ({ s with known := aR s w, marked := mk } : Hs).writing w.n w.r = ({ s with known := aR s w, marked := mk, rows := aN7 s w }, cH2 s w) := by
  have e1 : ({ s with known := aR s w, marked := mk } : Hs).writing w.n w.r = if (((({ s with known := aR s w, marked := mk } : Hs).marks w.n w.r).length : Int) < bJ s.cnt \/ s.wrote w.n = true) then ({ s with known := aR s w, marked := mk }, []) else ({ s with known := aR s w, marked := mk, rows := s.rows ++ [(w.n, w.r, ({ s with known := aR s w, marked := mk } : Hs).marks w.n w.r)] }, ({ s with known := aR s w, marked := mk } : Hs).marks w.n w.r) := rfl
  have e2 : ({ s with known := aR s w, marked := mk } : Hs).marks w.n w.r = aB5 (aR s w) w.n w.r := (bQ6 (s := { s with known := aR s w, marked := mk }) I2.nd I2.hs w.n w.r).symm
  rw [e1, e2]
  unfold aN7 cH2
  by_cases z : aA3 s w
  ·rw [if_pos z, if_pos z, if_neg]
   rintro (q | q)
   ·exact absurd z.2 (Int.not_le.mpr q)
   ·rw [z.1] at q; cases q
  ·rw [if_neg z, if_neg z, if_pos]
   by_cases q : s.wrote w.n = true
   ·exact .inr q
   ·refine .inl (Int.not_le.mp fun c => z ⟨?_, c⟩)
    cases q' : s.wrote w.n with
    | false => rfl
    | true => exact absurd q' q
 rw [eh, ew]
 have I3 : Fit { s with known := aR s w, marked := mk, rows := aN7 s w } := bB8 I2 rfl rfl rfl rfl
 have en : ({ s with known := aR s w, marked := mk, rows := aN7 s w } : Hs).naming w (fM s.known w) = ({ s with known := aR s w, marked := mk, rows := aN7 s w, named := s.named ++ nm s w }, cH1 s w) := by
  unfold nm cH1
  cases fM s.known w with
  | nil => show _ = (({ s with known := aR s w, marked := mk, rows := aN7 s w, named := s.named ++ [] } : Hs), []); rw [List.append_nil]; rfl
  | cons a l =>
   show (if (s.named.any fun x => x.1 == w.h) = true then _ else _) = _
   dsimp only
   by_cases z : (s.named.any fun x => x.1 == w.h) = true
   ·rw [if_pos z, if_pos z, if_pos z, List.append_nil]
   ·rw [if_neg z, if_neg z, if_neg z]
 rw [en]
 exact ⟨rfl, rfl, rfl, rfl, rfl, rfl, rfl, bB8 I3 rfl rfl rfl rfl⟩
theorem cM7 (c o : Int) : Fit (Hs.new c o) := ⟨fun n => ⟨fun h => absurd h List.not_mem_nil, fun ⟨a, h, _⟩ => absurd h List.not_mem_nil⟩, List.nodup_nil, fun a h => absurd h List.not_mem_nil⟩
end P06
end Mini
namespace C06
open PySem Mini
noncomputable def bE5 : List CS := [
 (.ret (.boolop true [(.isi (.var 0) .int), (.not (.isi (.var 0) .bool))]))]
noncomputable def aT0 : List CS := [
 (.ite (.all false [(.not (.val (.call 0 [(.var 0)]))), (.not (.val (.cmp (.cnst (Lt.int 1)) [.LtE, .LtE] [(.var 0), (.glob 0)])))]) [
  (.rse 2 (Str.ofString "a town has 1 to 12 houses"))] [])]
noncomputable def aT1 : List CS := [
 (.exp (.call 1 [(.var 0)])),
 (.ret (.bin .FloorDiv (.bin .Sub (.var 0) (.cnst (Lt.int 1))) (.cnst (Lt.int 3))))]
noncomputable def bY1 : List CS := [
 (.exp (.call 1 [(.var 0)])),
 (.ret (.bin .Add (.bin .FloorDiv (.bin .Add (.var 0) (.call 2 [(.var 0)])) (.cnst (Lt.int 2))) (.cnst (Lt.int 1))))]
noncomputable def bY0 : List CS := [
 (.ite (.all false [(.not (.val (.isi (.var 0) .str))), (.not (.val (.cmp (.cnst (Lt.int 1)) [.LtE, .LtE] [(.bi .len [(.var 0)]), (.glob 2)])))]) [
  (.ret (.cnst (Lt.bool false)))] []),
 (.for_ .expr (.one 1) [(.var 0)] [
  (.ite (.val (.cmp (.var 1) [.NotIn] [(.glob 1)])) [
   (.ret (.cnst (Lt.bool false)))] [])]),
 (.ret (.cnst (Lt.bool true)))]
noncomputable def aT7 : List CS := [
 (.ret (.boolop true [(.cmp (.idx (.var 0) (.cnst (Lt.int 3))) [.Eq] [(.idx (.var 1) (.cnst (Lt.int 3)))]), (.cmp (.idx (.var 0) (.cnst (Lt.int 0))) [.Eq] [(.idx (.var 1) (.cnst (Lt.int 0)))]), (.cmp (.idx (.var 0) (.cnst (Lt.int 1))) [.Eq] [(.idx (.var 1) (.cnst (Lt.int 1)))]), (.cmp (.idx (.var 0) (.cnst (Lt.int 2))) [.NotEq] [(.idx (.var 1) (.cnst (Lt.int 2)))])]))]
noncomputable def aT4 : List CS := [
 (.exp (.call 1 [(.var 1)])),
 (.ite (.all false [(.not (.val (.call 0 [(.var 2)]))), (.not (.val (.cmp (.cnst (Lt.int 0)) [.LtE, .Lt] [(.var 2), (.var 1)])))]) [
  (.rse 3 (Str.ofString "no house of the town"))] []),
 (.asg (.attr (.var 0) 8) (.var 1)),
 (.asg (.attr (.var 0) 9) (.var 2)),
 (.asg (.attr (.var 0) 10) (.var 2)),
 (.asg (.attr (.var 0) 11) (.dict [] [])),
 (.asg (.attr (.var 0) 12) (.dict [] [])),
 (.asg (.attr (.var 0) 13) (.dict [] [])),
 (.asg (.attr (.var 0) 14) (.dict [] [])),
 (.asg (.attr (.var 0) 15) (.list [])),
 (.asg (.attr (.var 0) 16) (.dict [] []))]
noncomputable def aT6 : List CS := [
 (.ite (.not (.val (.call 4 [(.var 1)]))) [
  (.rse 4 (Str.ofString "no row"))] []),
 (.asg (.one (.one 2)) (.tup [(.cnst (Lt.str (Str.ofString "say"))), (.attr (.var 0) 10), (.var 1), (.attr (.var 0) 9)])),
 (.asg (.attr (.var 0) 10) (.bin .Add (.attr (.var 0) 10) (.attr (.var 0) 8))),
 (.ret (.bin .Add (.list [(.var 2)]) (.meth (.var 0) 1 [(.var 2)])))]
noncomputable def aT5 : List CS := [
 (.ite (.val (.cmp (.var 1) [.In] [(.attr (.var 0) 11)])) [
  (.ret (.list []))] []),
 (.asg (.one (.one 2)) (.comp (.var 3) (.one 3) 1 .expr [(.attr (.var 0) 11)] [(.val (.call 5 [(.var 3), (.var 1)]))])),
 (.asg (.idx (.attr (.var 0) 11) (.var 1)) (.cnst (Lt.bool true))),
 (.ret (.bin .Add (.bin .Add (.meth (.var 0) 2 [(.var 1)]) (.meth (.var 0) 3 [(.idx (.var 1) (.cnst (Lt.int 1))), (.idx (.var 1) (.cnst (Lt.int 2)))])) (.meth (.var 0) 4 [(.var 1), (.var 2)])))]
noncomputable def aI1 : List CS := [
 (.ite (.all false [(.val (.cmp (.idx (.var 1) (.cnst (Lt.int 0))) [.NotEq] [(.cnst (Lt.str (Str.ofString "say")))])), (.val (.cmp (.idx (.var 1) (.cnst (Lt.int 1))) [.In] [(.attr (.var 0) 12)]))]) [
  (.ret (.list []))] []),
 (.asg (.one (.one 2)) (.tup [(.cnst (Lt.str (Str.ofString "mark"))), (.idx (.var 1) (.cnst (Lt.int 1))), (.idx (.var 1) (.cnst (Lt.int 2))), (.attr (.var 0) 9)])),
 (.asg (.idx (.attr (.var 0) 12) (.idx (.var 1) (.cnst (Lt.int 1)))) (.cnst (Lt.bool true))),
 (.asg (.idx (.attr (.var 0) 11) (.var 2)) (.cnst (Lt.bool true))),
 (.ret (.list [(.var 2)]))]
noncomputable def aI0 : List CS := [
 (.asg (.one (.one 3)) (.comp (.tup [(.cnst (Lt.str (Str.ofString "mark"))), (.var 1), (.var 2), (.var 4)]) (.one 4) 1 .range [(.attr (.var 0) 8)] [])),
 (.asg (.one (.one 3)) (.comp (.var 4) (.one 4) 1 .expr [(.var 3)] [(.val (.cmp (.var 4) [.In] [(.attr (.var 0) 11)]))])),
 (.ite (.all false [(.val (.cmp (.bi .len [(.var 3)]) [.Lt] [(.call 3 [(.attr (.var 0) 8)])])), (.val (.cmp (.var 1) [.In] [(.attr (.var 0) 13)]))]) [
  (.ret (.list []))] []),
 (.asg (.idx (.attr (.var 0) 13) (.var 1)) (.var 2)),
 (.asg (.idx (.attr (.var 0) 14) (.var 1)) (.var 3)),
 (.ret (.bi .list [(.var 3)]))]
noncomputable def aJ5 : List CS := [
 (.ite (.all false [(.val (.cmp (.var 2) [.Eq] [(.list [])])), (.val (.cmp (.idx (.var 1) (.cnst (Lt.int 3))) [.In] [(.attr (.var 0) 16)]))]) [
  (.ret (.list []))] []),
 (.asg (.idx (.attr (.var 0) 16) (.idx (.var 1) (.cnst (Lt.int 3)))) (.cnst (Lt.bool true))),
 (.exp (.smeth (.attr (.var 0) 15) .append [(.tup [(.idx (.var 1) (.cnst (Lt.int 3))), (.idx (.var 2) (.cnst (Lt.int 0))), (.var 1)])])),
 (.ret (.list [(.idx (.var 2) (.cnst (Lt.int 0))), (.var 1)]))]
noncomputable def aJ6 : List CS := [
 (.asg (.one (.one 1)) (.dict [] [])),
 (.for_ .expr (.one 2) [(.bi .sorted [(.attr (.var 0) 13)])] [
  (.asg (.idx (.var 1) (.var 2)) (.idx (.attr (.var 0) 13) (.var 2)))]),
 (.ret (.var 1))]
noncomputable def aI2 : List CS := [
 (.ite (.all false [(.not (.val (.call 0 [(.var 1)]))), (.val (.cmp (.var 1) [.NotIn] [(.attr (.var 0) 13)]))]) [
  (.rse 5 (Str.ofString "nothing is written there"))] []),
 (.ret (.bi .list [(.idx (.attr (.var 0) 14) (.var 1))]))]
noncomputable def aJ7 : List CS := [
 (.ret (.bi .list [(.attr (.var 0) 15)]))]
noncomputable def bX9 : List CS := [
 (.ite (.val (.cmp (.var 1) [.Lt] [(.bi .len [(.var 0)])])) [
  (.ret (.idx (.var 0) (.var 1)))] []),
 (.ret (.cnst (Lt.int 0)))]
noncomputable def aY2 : List CS := [
 (.ret (.boolop true [(.isi (.var 0) .int), (.not (.isi (.var 0) .bool))]))]
noncomputable def bO6 : List CS := [
 (.asg (.one (.one 2)) (.cnst (Lt.str (Str.ofString "abcdefghijklmnopqrstuvwxyz")))),
 (.asg (.one (.one 3)) (.bin .Add (.var 0) (.bin .Mult (.bin .Mult (.cnst (Lt.int 31)) (.var 1)) (.bin .Mod (.var 0) (.cnst (Lt.int 2)))))),
 (.asg (.one (.one 4)) (.bin .Mod (.bin .FloorDiv (.var 3) (.cnst (Lt.int 26))) (.cnst (Lt.int 8)))),
 (.asg (.one (.one 5)) (.smeth (.cnst (Lt.str (Str.ofString ""))) .join [(.comp (.idx (.var 2) (.bin .Mod (.bin .Add (.var 3) (.bin .Mult (.bin .Mult (.cnst (Lt.int 5)) (.var 7)) (.bin .Add (.cnst (Lt.int 1)) (.bin .Mod (.var 3) (.cnst (Lt.int 3)))))) (.cnst (Lt.int 26)))) (.one 7) 1 .range [(.var 4)] [])])),
 (.asg (.one (.one 6)) (.var 4)),
 (.ite (.val (.cmp (.bin .Mod (.var 0) (.cnst (Lt.int 2))) [.Eq] [(.cnst (Lt.int 0))])) [
  (.asg (.one (.one 6)) (.bin .Mod (.bin .FloorDiv (.var 0) (.cnst (Lt.int 4))) (.bin .Add (.var 4) (.cnst (Lt.int 1)))))] []),
 (.ite (.val (.cmp (.bin .Mod (.var 0) (.cnst (Lt.int 9))) [.Eq] [(.cnst (Lt.int 4))])) [
  (.ret (.idx (.list [(.cnst (Lt.str (Str.ofString "say"))), (.cnst (Lt.str (Str.ofString "mark"))), (.cnst (Lt.str (Str.ofString "by"))), (.cnst (Lt.str (Str.ofString "house")))]) (.bin .Mod (.var 1) (.cnst (Lt.int 4)))))] []),
 (.ret (.bin .Add (.bin .Add (.slice (.var 5) (.cnst Lt.none) (.var 6) (.cnst Lt.none)) (.idx (.cnst (Lt.str (Str.ofString "kqxz"))) (.bin .Mod (.var 1) (.cnst (Lt.int 4))))) (.slice (.var 5) (.var 6) (.cnst Lt.none) (.cnst Lt.none))))]
noncomputable def aT3 : List CS := [
 (.for_ .range (.one 1) [(.cnst (Lt.int 1)), (.bin .Add (.var 0) (.cnst (Lt.int 1)))] [
  (.ite (.all true [(.val (.cmp (.bin .Mult (.cnst (Lt.int 3)) (.bin .Sub (.bin .Mult (.cnst (Lt.int 2)) (.var 1)) (.var 0))) [.Gt] [(.cnst (Lt.int 0))])), (.val (.cmp (.bin .Sub (.bin .Mult (.cnst (Lt.int 2)) (.var 1)) (.var 0)) [.Gt] [(.bin .FloorDiv (.bin .Sub (.var 0) (.cnst (Lt.int 1))) (.cnst (Lt.int 3)))]))]) [
   (.ret (.var 1))] [])]),
 (.ret (.var 0))]
noncomputable def aH9 : List CS := [
 (.ite (.not (.val (.isi (.var 0) .list))) [
  (.ret (.cnst (Lt.bool false)))] []),
 (.for_ .expr (.one 1) [(.var 0)] [
  (.ite (.all false [(.not (.val (.isi (.var 1) .tuple))), (.val (.cmp (.bi .len [(.var 1)]) [.NotEq] [(.cnst (Lt.int 4))])), (.not (.val (.call 16 [(.idx (.var 1) (.cnst (Lt.int 1)))]))), (.not (.val (.call 16 [(.idx (.var 1) (.cnst (Lt.int 3)))])))]) [
   (.ret (.cnst (Lt.bool false)))] [])]),
 (.ret (.cnst (Lt.bool true)))]
noncomputable def aT2 : List CS := [
 (.asg (.one (.one 2)) (.dict [(Str.ofString "count"), (Str.ofString "house"), (Str.ofString "wanted"), (Str.ofString "known"), (Str.ofString "rows")] [(.var 0), (.var 1), (.call 18 [(.var 0)]), (.list []), (.dict [] [])])),
 (.asg (.idx (.var 2) (.cnst (Lt.str (Str.ofString "backings")))) (.dict [] [])),
 (.asg (.idx (.var 2) (.cnst (Lt.str (Str.ofString "names")))) (.list [])),
 (.ret (.var 2))]
noncomputable def f_law_heard : List CS := [
 (.ite (.val (.cmp (.var 1) [.In] [(.idx (.var 0) (.cnst (Lt.str (Str.ofString "known"))))])) [
  (.ret (.list []))] []),
 (.asg (.one (.one 2)) (.comp (.var 6) (.one 6) 1 .expr [(.idx (.var 0) (.cnst (Lt.str (Str.ofString "known"))))] [(.all true [(.val (.cmp (.idx (.var 6) (.cnst (Lt.int 0))) [.Eq] [(.idx (.var 1) (.cnst (Lt.int 0)))])), (.val (.cmp (.idx (.var 6) (.cnst (Lt.int 1))) [.Eq] [(.idx (.var 1) (.cnst (Lt.int 1)))])), (.val (.cmp (.idx (.var 6) (.cnst (Lt.int 3))) [.Eq] [(.idx (.var 1) (.cnst (Lt.int 3)))]))])])),
 (.exp (.smeth (.idx (.var 0) (.cnst (Lt.str (Str.ofString "known")))) .append [(.var 1)])),
 (.asg (.one (.one 3)) (.list [])),
 (.asg (.one (.one 4)) (.comp (.var 6) (.one 6) 1 .expr [(.idx (.var 0) (.cnst (Lt.str (Str.ofString "known"))))] [(.all true [(.val (.cmp (.idx (.var 6) (.cnst (Lt.int 0))) [.Eq] [(.cnst (Lt.str (Str.ofString "mark")))])), (.val (.cmp (.idx (.var 6) (.cnst (Lt.int 1))) [.Eq] [(.idx (.var 1) (.cnst (Lt.int 1)))])), (.val (.cmp (.idx (.var 6) (.cnst (Lt.int 3))) [.Eq] [(.idx (.var 0) (.cnst (Lt.str (Str.ofString "house"))))]))])])),
 (.ite (.all true [(.val (.cmp (.idx (.var 1) (.cnst (Lt.int 0))) [.Eq] [(.cnst (Lt.str (Str.ofString "say")))])), (.val (.cmp (.var 4) [.Eq] [(.list [])]))]) [
  (.exp (.smeth (.var 3) .append [(.tup [(.cnst (Lt.str (Str.ofString "mark"))), (.idx (.var 1) (.cnst (Lt.int 1))), (.idx (.var 1) (.cnst (Lt.int 2))), (.idx (.var 0) (.cnst (Lt.str (Str.ofString "house"))))])])),
  (.exp (.smeth (.idx (.var 0) (.cnst (Lt.str (Str.ofString "known")))) .append [(.idx (.var 3) (.cnst (Lt.int 0)))]))] []),
 (.asg (.one (.one 5)) (.comp (.var 6) (.one 6) 1 .expr [(.idx (.var 0) (.cnst (Lt.str (Str.ofString "known"))))] [(.all true [(.val (.cmp (.idx (.var 6) (.cnst (Lt.int 0))) [.Eq] [(.cnst (Lt.str (Str.ofString "mark")))])), (.val (.cmp (.idx (.var 6) (.cnst (Lt.int 1))) [.Eq] [(.idx (.var 1) (.cnst (Lt.int 1)))])), (.val (.cmp (.idx (.var 6) (.cnst (Lt.int 2))) [.Eq] [(.idx (.var 1) (.cnst (Lt.int 2)))]))])])),
 (.asg (.one (.one 5)) (.comp (.idx (.var 6) (.cnst (Lt.int 1))) (.one 6) 1 .expr [(.bi .sorted [(.comp (.tup [(.idx (.var 6) (.cnst (Lt.int 3))), (.var 6)]) (.one 6) 1 .expr [(.var 5)] [])])] [])),
 (.ite (.all true [(.val (.cmp (.idx (.var 1) (.cnst (Lt.int 1))) [.NotIn] [(.idx (.var 0) (.cnst (Lt.str (Str.ofString "rows"))))])), (.val (.cmp (.bi .len [(.var 5)]) [.GtE] [(.idx (.var 0) (.cnst (Lt.str (Str.ofString "wanted"))))]))]) [
  (.asg (.idx (.idx (.var 0) (.cnst (Lt.str (Str.ofString "rows")))) (.idx (.var 1) (.cnst (Lt.int 1)))) (.idx (.var 1) (.cnst (Lt.int 2)))),
  (.asg (.idx (.idx (.var 0) (.cnst (Lt.str (Str.ofString "backings")))) (.idx (.var 1) (.cnst (Lt.int 1)))) (.var 5)),
  (.asg (.one (.one 3)) (.bin .Add (.var 3) (.var 5)))] []),
 (.ite (.all true [(.val (.cmp (.var 2) [.NotEq] [(.list [])])), (.val (.cmp (.idx (.var 1) (.cnst (Lt.int 3))) [.NotIn] [(.comp (.idx (.var 6) (.cnst (Lt.int 0))) (.one 6) 1 .expr [(.idx (.var 0) (.cnst (Lt.str (Str.ofString "names"))))] [])]))]) [
  (.exp (.smeth (.idx (.var 0) (.cnst (Lt.str (Str.ofString "names")))) .append [(.tup [(.idx (.var 1) (.cnst (Lt.int 3))), (.idx (.var 2) (.cnst (Lt.int 0))), (.var 1)])])),
  (.asg (.one (.one 3)) (.bin .Add (.var 3) (.list [(.idx (.var 2) (.cnst (Lt.int 0))), (.var 1)])))] []),
 (.ret (.var 3))]
noncomputable def f_law_word : List CS := [
 (.asg (.one (.one 3)) (.bin .Mod (.bin .FloorDiv (.var 0) (.cnst (Lt.int 2))) (.cnst (Lt.int 3)))),
 (.asg (.one (.one 4)) (.call 17 [(.var 2), (.bin .Mod (.bin .FloorDiv (.var 0) (.cnst (Lt.int 6))) (.cnst (Lt.int 3)))])),
 (.ite (.val (.cmp (.bin .Mod (.var 0) (.cnst (Lt.int 2))) [.Eq] [(.cnst (Lt.int 0))])) [
  (.ite (.val (.cmp (.bin .Mod (.var 3) (.idx (.var 1) (.cnst (Lt.str (Str.ofString "count"))))) [.Eq] [(.idx (.var 1) (.cnst (Lt.str (Str.ofString "house"))))])) [
   (.asg (.one (.one 3)) (.bin .Add (.var 3) (.cnst (Lt.int 1))))] []),
  (.ret (.tup [(.cnst (Lt.str (Str.ofString "say"))), (.var 3), (.var 4), (.bin .Mod (.var 3) (.idx (.var 1) (.cnst (Lt.str (Str.ofString "count")))))]))] []),
 (.asg (.one (.one 5)) (.bin .Mod (.bin .FloorDiv (.var 0) (.cnst (Lt.int 18))) (.idx (.var 1) (.cnst (Lt.str (Str.ofString "count")))))),
 (.ite (.val (.cmp (.var 5) [.Eq] [(.idx (.var 1) (.cnst (Lt.str (Str.ofString "house"))))])) [
  (.asg (.one (.one 5)) (.bin .Mod (.bin .Add (.var 5) (.cnst (Lt.int 1))) (.idx (.var 1) (.cnst (Lt.str (Str.ofString "count"))))))] []),
 (.ret (.tup [(.cnst (Lt.str (Str.ofString "mark"))), (.var 3), (.var 4), (.var 5)]))]
noncomputable def aD3 : List CS := [
 (.for_ .expr (.one 2) [(.bi .sorted [(.idx (.var 1) (.cnst (Lt.str (Str.ofString "backings"))))])] [
  (.ite (.val (.cmp (.meth (.var 0) 6 [(.var 2)]) [.NotEq] [(.idx (.idx (.var 1) (.cnst (Lt.str (Str.ofString "backings")))) (.var 2))])) [
   (.ret (.cnst (Lt.bool false)))] [])]),
 (.ret (.cmp (.meth (.var 0) 7 []) [.Eq] [(.idx (.var 1) (.cnst (Lt.str (Str.ofString "names"))))]))]
noncomputable def f_law_state : List CS := [
 (.asg (.one (.one 3)) (.meth (.var 0) 5 [])),
 (.asg (.one (.one 4)) (.meth (.var 0) 7 [])),
 (.ite (.all false [(.not (.val (.isi (.var 3) .dict))), (.val (.cmp (.var 3) [.NotEq] [(.idx (.var 1) (.cnst (Lt.str (Str.ofString "rows"))))])), (.val (.cmp (.bi .list [(.var 3)]) [.NotEq] [(.bi .sorted [(.var 3)])]))]) [
  (.ret (.cnst (Lt.bool false)))] []),
 (.ite (.all false [(.not (.val (.isi (.var 4) .list))), (.val (.cmp (.var 4) [.NotEq] [(.idx (.var 1) (.cnst (Lt.str (Str.ofString "names"))))]))]) [
  (.ret (.cnst (Lt.bool false)))] []),
 (.ite (.val (.cmp (.comp (.var 7) (.one 7) 1 .expr [(.var 4)] [(.not (.val (.isi (.var 7) .tuple)))]) [.NotEq] [(.list [])])) [
  (.ret (.cnst (Lt.bool false)))] []),
 (.exp (.smeth (.var 2) .append [(.tup [(.var 3), (.bi .dict [(.var 3)])])])),
 (.exp (.smeth (.var 2) .append [(.tup [(.var 4), (.bi .list [(.var 4)])])])),
 (.for_ .range (.one 5) [(.cnst (Lt.int 4))] [
  (.ite (.all true [(.val (.cmp (.var 5) [.NotIn] [(.idx (.var 1) (.cnst (Lt.str (Str.ofString "rows"))))])), (.not (.val (.call 25 [(.var 0), (.var 5)])))]) [
   (.ret (.cnst (Lt.bool false)))] [])]),
 (.for_ .expr (.one 5) [(.var 3)] [
  (.asg (.one (.one 6)) (.meth (.var 0) 6 [(.var 5)])),
  (.ite (.all false [(.not (.val (.call 19 [(.var 6)]))), (.val (.cmp (.var 6) [.NotEq] [(.idx (.idx (.var 1) (.cnst (Lt.str (Str.ofString "backings")))) (.var 5))]))]) [
   (.ret (.cnst (Lt.bool false)))] []),
  (.exp (.smeth (.var 2) .append [(.tup [(.var 6), (.bi .list [(.var 6)])])])),
  (.exp (.smeth (.meth (.var 0) 6 [(.var 5)]) .clear [])),
  (.ite (.val (.cmp (.meth (.var 0) 6 [(.var 5)]) [.NotEq] [(.var 6)])) [
   (.ret (.cnst (Lt.bool false)))] [])]),
 (.ret (.cnst (Lt.bool true)))]
noncomputable def eO : List CS := [
 (.try_ [
  (.exp (.meth (.var 0) 6 [(.var 1)]))] 5 Option.none (.cnst (Lt.bool true))),
 (.ret (.cnst (Lt.bool false)))]
noncomputable def aM2 : List CS := [
 (.ite (.all false [(.val (.cmp (.bin .Mod (.var 2) (.cnst (Lt.int 16))) [.Eq] [(.cnst (Lt.int 5))])), (.val (.cmp (.idx (.var 1) (.cnst (Lt.str (Str.ofString "count")))) [.Eq] [(.cnst (Lt.int 1))]))]) [
  (.asg (.one (.one 5)) (.call 17 [(.var 3), (.bin .Mod (.bin .FloorDiv (.var 2) (.cnst (Lt.int 16))) (.cnst (Lt.int 4)))])),
  (.asg (.one (.one 6)) (.bin .Add (.idx (.var 1) (.cnst (Lt.str (Str.ofString "house")))) (.bin .Mult (.idx (.var 1) (.cnst (Lt.str (Str.ofString "count")))) (.var 4)))),
  (.asg (.one (.one 7)) (.tup [(.cnst (Lt.str (Str.ofString "say"))), (.var 6), (.var 5), (.idx (.var 1) (.cnst (Lt.str (Str.ofString "house"))))])),
  (.ret (.tup [(.meth (.var 0) 0 [(.var 5)]), (.bin .Add (.list [(.var 7)]) (.call 21 [(.var 1), (.var 7)]))]))] []),
 (.asg (.one (.one 7)) (.call 22 [(.bin .FloorDiv (.var 2) (.cnst (Lt.int 16))), (.var 1), (.var 3)])),
 (.ret (.tup [(.meth (.var 0) 1 [(.var 7)]), (.call 21 [(.var 1), (.var 7)])]))]
noncomputable def f_law : List CS := [
 (.asg (.one (.one 1)) (.call 15 [(.var 0), (.cnst (Lt.int 0))])),
 (.asg (.one (.one 2)) (.bin .Mod (.call 15 [(.var 0), (.cnst (Lt.int 1))]) (.cnst (Lt.int 100003)))),
 (.asg (.one (.one 3)) (.list [(.idx (.list [(.cnst (Lt.int 4)), (.cnst (Lt.int 5)), (.cnst (Lt.int 7)), (.bin .Add (.cnst (Lt.int 1)) (.bin .Mod (.bin .FloorDiv (.var 1) (.cnst (Lt.int 4))) (.cnst (Lt.int 12))))]) (.bin .Mod (.var 1) (.cnst (Lt.int 4)))), (.cnst (Lt.int 4))])),
 (.asg (.one (.one 4)) (.list [(.call 20 [(.idx (.var 3) (.cnst (Lt.int 0))), (.bin .Mod (.bin .FloorDiv (.var 1) (.cnst (Lt.int 48))) (.idx (.var 3) (.cnst (Lt.int 0))))]), (.call 20 [(.cnst (Lt.int 4)), (.cnst (Lt.int 1))])])),
 (.asg (.one (.one 5)) (.comp (.new 6 [(.idx (.var 13) (.cnst (Lt.str (Str.ofString "count")))), (.idx (.var 13) (.cnst (Lt.str (Str.ofString "house"))))]) (.one 13) 1 .expr [(.var 4)] [])),
 (.asg (.one (.one 6)) (.list [(.cnst (Lt.int 0)), (.cnst (Lt.int 0))])),
 (.asg (.one (.one 7)) (.list [])),
 (.for_ .expr (.one 8) [(.slice (.var 0) (.cnst (Lt.int 2)) (.cnst (Lt.int 62)) (.cnst Lt.none))] [
  (.asg (.one (.one 9)) (.bi .int [(.cmp (.bin .Mod (.bin .FloorDiv (.var 8) (.cnst (Lt.int 7))) (.cnst (Lt.int 9))) [.Eq] [(.cnst (Lt.int 4))])])),
  (.asg (.one (.many [10, 11])) (.call 26 [(.idx (.var 5) (.var 9)), (.idx (.var 4) (.var 9)), (.bi .abs [(.var 8)]), (.var 2), (.idx (.var 6) (.var 9))])),
  (.asg (.idx (.var 6) (.var 9)) (.bin .Add (.idx (.var 6) (.var 9)) (.bi .int [(.boolop false [(.cmp (.bin .Mod (.bi .abs [(.var 8)]) (.cnst (Lt.int 16))) [.Eq] [(.cnst (Lt.int 5))]), (.cmp (.idx (.var 3) (.var 9)) [.Eq] [(.cnst (Lt.int 1))])])]))),
  (.ite (.all false [(.not (.val (.call 19 [(.var 10)]))), (.val (.cmp (.var 10) [.NotEq] [(.var 11)]))]) [
   (.ret (.cnst (Lt.bool false)))] []),
  (.ite (.val (.cmp (.bin .Mod (.var 8) (.cnst (Lt.int 5))) [.Eq] [(.cnst (Lt.int 1))])) [
   (.exp (.smeth (.var 10) .clear [])),
   (.exp (.smeth (.meth (.idx (.var 5) (.var 9)) 7 []) .clear [])),
   (.exp (.smeth (.meth (.idx (.var 5) (.var 9)) 5 []) .clear []))] []),
  (.exp (.smeth (.var 7) .append [(.tup [(.var 10), (.bi .list [(.var 10)])])])),
  (.for_ .range (.one 12) [(.cnst (Lt.int 2))] [
   (.ite (.all true [(.val (.cmp (.bin .Mod (.bin .FloorDiv (.var 8) (.cnst (Lt.int 5))) (.cnst (Lt.int 2))) [.Eq] [(.cnst (Lt.int 1))])), (.not (.val (.call 23 [(.idx (.var 5) (.var 12)), (.idx (.var 4) (.var 12))])))]) [
    (.ret (.cnst (Lt.bool false)))] []),
   (.ite (.not (.val (.call 24 [(.idx (.var 5) (.var 12)), (.idx (.var 4) (.var 12)), (.var 7)]))) [
    (.ret (.cnst (Lt.bool false)))] [])])]),
 (.ret (.cmp (.comp (.var 13) (.one 13) 1 .expr [(.var 7)] [(.val (.cmp (.idx (.var 13) (.cnst (Lt.int 0))) [.NotEq] [(.idx (.var 13) (.cnst (Lt.int 1)))]))]) [.Eq] [(.list [])]))]
noncomputable def sig : Sig := {
 fns := [
  { name := (Str.ofString "is_whole"), np := 1, names := [(Str.ofString "thing")], body := bE5 },
  { name := (Str.ofString "need_count"), np := 1, names := [(Str.ofString "count")], body := aT0 },
  { name := (Str.ofString "most_liars"), np := 1, names := [(Str.ofString "count")], body := aT1 },
  { name := (Str.ofString "enough"), np := 1, names := [(Str.ofString "count")], body := bY1 },
  { name := (Str.ofString "is_row"), np := 1, names := [(Str.ofString "thing"), (Str.ofString "sign")], body := bY0 },
  { name := (Str.ofString "are_unlike"), np := 2, names := [(Str.ofString "one"), (Str.ofString "other")], body := aT7 },
  { name := (Str.ofString "__init__"), np := 3, names := [(Str.ofString "self"), (Str.ofString "count"), (Str.ofString "own")], body := aT4 },
  { name := (Str.ofString "call"), np := 2, names := [(Str.ofString "self"), (Str.ofString "row"), (Str.ofString "word")], body := aT6 },
  { name := (Str.ofString "hear"), np := 2, names := [(Str.ofString "self"), (Str.ofString "word"), (Str.ofString "ahead")], body := aT5 },
  { name := (Str.ofString "marking"), np := 2, names := [(Str.ofString "self"), (Str.ofString "word"), (Str.ofString "mark")], body := aI1 },
  { name := (Str.ofString "writing"), np := 3, names := [(Str.ofString "self"), (Str.ofString "number"), (Str.ofString "row"), (Str.ofString "marks")], body := aI0 },
  { name := (Str.ofString "naming"), np := 3, names := [(Str.ofString "self"), (Str.ofString "word"), (Str.ofString "ahead")], body := aJ5 },
  { name := (Str.ofString "ledger"), np := 1, names := [(Str.ofString "self"), (Str.ofString "found"), (Str.ofString "number")], body := aJ6 },
  { name := (Str.ofString "backing"), np := 2, names := [(Str.ofString "self"), (Str.ofString "number")], body := aI2 },
  { name := (Str.ofString "caught"), np := 1, names := [(Str.ofString "self")], body := aJ7 },
  { name := (Str.ofString "_law_at"), np := 2, names := [(Str.ofString "_law_script"), (Str.ofString "_law_k")], body := bX9 },
  { name := (Str.ofString "_law_whole"), np := 1, names := [(Str.ofString "_law_thing")], body := aY2 },
  { name := (Str.ofString "_law_row"), np := 2, names := [(Str.ofString "_law_base"), (Str.ofString "_law_k"), (Str.ofString "_law_letters"), (Str.ofString "_law_turned_here"), (Str.ofString "_law_size"), (Str.ofString "_law_tail"), (Str.ofString "_law_at_here")], body := bO6 },
  { name := (Str.ofString "_law_enough"), np := 1, names := [(Str.ofString "_law_count"), (Str.ofString "_law_wanted")], body := aT3 },
  { name := (Str.ofString "_law_words"), np := 1, names := [(Str.ofString "_law_found"), (Str.ofString "_law_word_here")], body := aH9 },
  { name := (Str.ofString "_law_own"), np := 2, names := [(Str.ofString "_law_count"), (Str.ofString "_law_house"), (Str.ofString "_law_own_here")], body := aT2 },
  { name := (Str.ofString "_law_heard"), np := 2, names := [(Str.ofString "_law_own_here"), (Str.ofString "_law_word_here"), (Str.ofString "_law_before"), (Str.ofString "_law_told"), (Str.ofString "_law_mine"), (Str.ofString "_law_backing")], body := f_law_heard },
  { name := (Str.ofString "_law_word"), np := 3, names := [(Str.ofString "_law_cell"), (Str.ofString "_law_own_here"), (Str.ofString "_law_base"), (Str.ofString "_law_number"), (Str.ofString "_law_row_here"), (Str.ofString "_law_house")], body := f_law_word },
  { name := (Str.ofString "_law_turned"), np := 2, names := [(Str.ofString "_law_house"), (Str.ofString "_law_own_here"), (Str.ofString "_law_number")], body := aD3 },
  { name := (Str.ofString "_law_state"), np := 3, names := [(Str.ofString "_law_house"), (Str.ofString "_law_own_here"), (Str.ofString "_law_held"), (Str.ofString "_law_rows"), (Str.ofString "_law_names"), (Str.ofString "_law_number"), (Str.ofString "_law_backing")], body := f_law_state },
  { name := (Str.ofString "_law_unwritten"), np := 2, names := [(Str.ofString "_law_house"), (Str.ofString "_law_number")], body := eO },
  { name := (Str.ofString "_law_deed"), np := 5, names := [(Str.ofString "_law_house"), (Str.ofString "_law_own_here"), (Str.ofString "_law_cell"), (Str.ofString "_law_base"), (Str.ofString "_law_calls"), (Str.ofString "_law_row_here"), (Str.ofString "_law_number"), (Str.ofString "_law_word_here")], body := aM2 },
  { name := (Str.ofString "law"), np := 1, names := [(Str.ofString "_law_script"), (Str.ofString "_law_first"), (Str.ofString "_law_base"), (Str.ofString "_law_counts"), (Str.ofString "_law_owns"), (Str.ofString "_law_houses"), (Str.ofString "_law_calls"), (Str.ofString "_law_held"), (Str.ofString "_law_cell"), (Str.ofString "_law_at_here"), (Str.ofString "_law_told"), (Str.ofString "_law_due"), (Str.ofString "_law_k")], body := f_law }],
 cls := [
  { name := (Str.ofString "ValueError"), init := none, meths := [], exc := false, supers := [0] },
  { name := (Str.ofString "HouseError"), init := none, meths := [], exc := true, supers := [1, 0] },
  { name := (Str.ofString "BadCount"), init := none, meths := [], exc := true, supers := [2, 1, 0] },
  { name := (Str.ofString "BadHouse"), init := none, meths := [], exc := true, supers := [3, 1, 0] },
  { name := (Str.ofString "BadRow"), init := none, meths := [], exc := true, supers := [4, 1, 0] },
  { name := (Str.ofString "NotWritten"), init := none, meths := [], exc := true, supers := [5, 1, 0] },
  { name := (Str.ofString "House"), init := some 6, meths := [(0, 7), (1, 8), (2, 9), (3, 10), (4, 11), (5, 12), (6, 13), (7, 14)], exc := false, supers := [6] }],
 attrs := [(Str.ofString "call"), (Str.ofString "hear"), (Str.ofString "marking"), (Str.ofString "writing"), (Str.ofString "naming"), (Str.ofString "ledger"), (Str.ofString "backing"), (Str.ofString "caught"), (Str.ofString "count"), (Str.ofString "own"), (Str.ofString "onward"), (Str.ofString "known"), (Str.ofString "marked"), (Str.ofString "rows"), (Str.ofString "backings"), (Str.ofString "named"), (Str.ofString "blames")],
 globs := [((Str.ofString "MOST_HOUSES"), (Lt.int 12)), ((Str.ofString "LETTERS"), (Lt.str (Str.ofString "abcdefghijklmnopqrstuvwxyz"))), ((Str.ofString "MOST_SIGNS"), (Lt.int 8))] }
end C06
namespace Mini
open PySem
noncomputable def Is (m : MH) (a : Nat) : MObj -> Prop
 | .dict kvs _ => ∃ e, m[a]? = some (.dict kvs e)
 | .list xs => m[a]? = some (.list xs)
 | .inst c fs => m[a]? = some (.inst c fs)
theorem Is.mod {T : List Nat} {m m' : MH} (l : Mod T m m') {a : Nat} (ha : a ∉ T) : ∀ {o : MObj}, Is m a o -> Is m' a o
 | .dict _ _, h => h.imp fun y_ q => l.has q ha
 | .list _, h => l.has h ha
 | .inst _ _, h => l.has h ha
theorem Is.lt {m : MH} {a : Nat} : ∀ {o : MObj}, Is m a o -> a < m.length
 | .dict _ _, h => h.elim fun y_ q => aO q
 | .list _, h => aO h
 | .inst _ _, h => aO h
structure Seg (m : MH) (as : List Nat) (os : List MObj) : Prop where
 len : as.length = os.length
 obj : ∀ (i a : Nat) (o : MObj), as[i]? = some a -> os[i]? = some o -> Is m a o
 nd : as.Nodup
section
variable {m m' : MH} {as : List Nat} {os : List MObj}
theorem Seg.mod {T : List Nat} (h : Seg m as os) (l : Mod T m m') (ht : ∀ x ∈ as, x ∉ T) : Seg m' as os := ⟨h.len, fun i a o h1 h2 => (h.obj i a o h1 h2).mod l (ht a (List.mem_of_getElem? h1)), h.nd⟩
theorem Seg.le (h : Seg m as os) (l : Le m m') : Seg m' as os := h.mod (T := []) l.mod fun y_ y_ q => nomatch q
theorem Seg.lt (h : Seg m as os) : ∀ x ∈ as, x < m.length := fun x hx => by
 obtain ⟨i, hi⟩ := List.getElem?_of_mem hx
 have hl : i < os.length := by rw [<- h.len]; exact (List.getElem?_eq_some_iff.mp hi).1
 exact (h.obj i x _ hi (List.getElem?_eq_getElem hl)).lt
theorem Seg.out (h : Seg m as os) {q : Nat} (hq : m.length <= q) : q ∉ as := fun c => Nat.not_lt.mpr hq (h.lt q c)
theorem cV4 {a : Nat} {o o' : MObj} (ho : ∀ m, m[a]? = some o' -> Is m a o) (ha : a < m.length) : Is (m.set a o') a o := ho _ (List.getElem?_set_self ha)
theorem Seg.set (h : Seg m as os) {i a : Nat} {o o' : MObj} (hi : as[i]? = some a) (ho : ∀ m, m[a]? = some o' -> Is m a o) : Seg (m.set a o') as (os.set i o) := by
 refine ⟨by rw [List.length_set]; exact h.len, fun j b x hj hx => ?_, h.nd⟩
 by_cases z : j = i
 ·subst z
  rw [hi] at hj
  cases hj
  have hl : j < os.length := by rw [<- h.len]; exact (List.getElem?_eq_some_iff.mp hi).1
  rw [List.getElem?_set_self hl] at hx
  cases hx
  exact cV4 ho (h.lt _ (List.mem_of_getElem? hi))
 ·rw [List.getElem?_set_ne (fun e => z e.symm)] at hx
  exact (h.obj j b x hj hx).mod (Mod.set (T := [a]) (.head _)) fun c => aX2 h.nd hj hi z (List.mem_singleton.mp c)
theorem Seg.snoc (h : Seg m as os) {a : Nat} {o : MObj} (ha : a ∉ as) (ho : Is m a o) : Seg m (as ++ [a]) (os ++ [o]) := by
 refine ⟨by rw [List.length_append, List.length_append, h.len]; rfl, fun i b x hi hx => ?_, ?_⟩
 ·rcases Nat.lt_or_ge i as.length with z | z
  ·rw [List.getElem?_append_left z] at hi
   rw [List.getElem?_append_left (by rw [<- h.len]; exact z)] at hx
   exact h.obj i b x hi hx
  ·rw [List.getElem?_append_right z] at hi
   rw [List.getElem?_append_right (by rw [<- h.len]; exact z), <- h.len] at hx
   cases w : i - as.length with
   | zero => rw [w] at hi hx; cases hi; cases hx; exact ho
   | succ j => rw [w] at hi; cases hi
 ·exact List.nodup_append.mpr ⟨h.nd, List.nodup_cons.mpr ⟨List.not_mem_nil, List.nodup_nil⟩, fun x hx y hy e => by rw [List.mem_singleton.mp hy] at e; exact ha (e ▸ hx)⟩
end
namespace P06
noncomputable def sC : Str := Str.ofString "count"
noncomputable def sH : Str := Str.ofString "house"
noncomputable def sW : Str := Str.ofString "wanted"
noncomputable def sK : Str := Str.ofString "known"
noncomputable def sR : Str := Str.ofString "rows"
noncomputable def sB : Str := Str.ofString "backings"
noncomputable def sN : Str := Str.ofString "names"
structure Od where
 p : Nat
 a : Nat
 b : Nat
 c : Nat
 d : Nat
 bs : List Nat
noncomputable def Od.foot (D : Od) : List Nat := [D.p, D.a, D.b, D.c, D.d]
noncomputable def Od.all (D : Od) : List Nat := D.foot ++ D.bs
noncomputable def Od.ext (D : Od) (l : List Nat) : Od := { D with bs := D.bs ++ l }
theorem Od.ext_nil (D : Od) : D.ext [] = D := by unfold Od.ext; rw [List.append_nil]
theorem Od.ext_all (D : Od) (l : List Nat) : (D.ext l).all = D.all ++ l := (List.append_assoc _ _ _).symm
noncomputable def ownD (D : Od) (s : Hs) : List (Ky × V) := [(.str sC, .int s.cnt), (.str sH, .int s.own), (.str sW, .int (bJ s.cnt)), (.str sK, .ref D.a), (.str sR, .ref D.b), (.str sB, .ref D.c), (.str sN, .ref D.d)]
noncomputable def aY9 (rows : List (Int × Str × List Wo)) (bs : List Nat) : List (Ky × V) := aQ1 ((rows.map (·.1)).zip bs)
noncomputable def cC2 (D : Od) (s : Hs) : List MObj := [.dict (ownD D s) 0, .list (s.known.map Wo.v), .dict (dK s.rows) 0, .dict (aY9 s.rows D.bs) 0, .list (aA0 s.named)] ++ s.rows.map fun x => .list (x.2.2.map Wo.v)
noncomputable def Ow (m : MH) (D : Od) (s : Hs) : Prop := Seg m D.all (cC2 D s)
section
variable {m m' : MH} {D : Od} {s : Hs}
theorem Ow.dic (h : Ow m D s) : ∃ e, m[D.p]? = some (.dict (ownD D s) e) := h.obj 0 D.p (.dict (ownD D s) 0) rfl rfl
theorem Ow.kn (h : Ow m D s) : m[D.a]? = some (.list (s.known.map Wo.v)) := h.obj 1 D.a (.list (s.known.map Wo.v)) rfl rfl
theorem Ow.ro (h : Ow m D s) : ∃ e, m[D.b]? = some (.dict (dK s.rows) e) := h.obj 2 D.b (.dict (dK s.rows) 0) rfl rfl
theorem Ow.ba (h : Ow m D s) : ∃ e, m[D.c]? = some (.dict (aY9 s.rows D.bs) e) := h.obj 3 D.c (.dict (aY9 s.rows D.bs) 0) rfl rfl
theorem Ow.na (h : Ow m D s) : m[D.d]? = some (.list (aA0 s.named)) := h.obj 4 D.d (.list (aA0 s.named)) rfl rfl
theorem Ow.len (h : Ow m D s) : D.bs.length = s.rows.length := by
 have h1 : D.bs.length + 5 = (s.rows.map fun x : Int × Str × List Wo => MObj.list (x.2.2.map Wo.v)).length + 5 := by simpa [Od.all, Od.foot, cC2] using Seg.len h
 rw [List.length_map] at h1
 exact Nat.add_right_cancel h1
theorem Ow.bk (h : Ow m D s) {i : Nat} {x : Int × Str × List Wo} (hx : s.rows[i]? = some x) : ∃ q, D.bs[i]? = some q /\ m[q]? = some (.list (x.2.2.map Wo.v)) := by
 have hi : i < D.bs.length := by rw [h.len]; exact (List.getElem?_eq_some_iff.mp hx).1
 refine ⟨D.bs[i], List.getElem?_eq_getElem hi, h.obj (i + 5) _ (.list (x.2.2.map Wo.v)) (List.getElem?_eq_getElem hi) ?_⟩
 show (s.rows.map fun x : Int × Str × List Wo => MObj.list (x.2.2.map Wo.v))[i]? = _
 rw [List.getElem?_map, hx]; rfl
theorem Ow.same {t : Hs} (h : Ow m D s) (h1 : t.cnt = s.cnt) (h2 : t.own = s.own) (h3 : t.known = s.known) (h4 : t.rows = s.rows) (h5 : t.named = s.named) : Ow m D t := by
 have e : cC2 D t = cC2 D s := by unfold cC2 ownD; rw [h1, h2, h3, h4, h5]
 unfold Ow; rw [e]; exact h
theorem Ow.setK (h : Ow m D s) (l : List Wo) : Ow (m.set D.a (.list (l.map Wo.v))) D { s with known := l } := Seg.set h (i := 1) (o := .list (l.map Wo.v)) rfl fun y_ e => e
theorem Ow.setN (h : Ow m D s) (l : List (Int × Wo × Wo)) : Ow (m.set D.d (.list (aA0 l))) D { s with named := l } := Seg.set h (i := 4) (o := .list (aA0 l)) rfl fun y_ e => e
theorem Ow.setR (h : Ow m D s) {n : Int} {r : Str} {ws : List Wo} {q e1 e2 : Nat} (hq : m[q]? = some (.list (ws.map Wo.v))) (hn : q ∉ D.all) :
  Ow ((m.set D.b (.dict (dK (s.rows ++ [(n, r, ws)])) e1)).set D.c (.dict (aY9 (s.rows ++ [(n, r, ws)]) (D.bs ++ [q])) e2)) (D.ext [q]) { s with rows := s.rows ++ [(n, r, ws)] } := by
 have h1 := Seg.set (Seg.set h (i := 2) (a := D.b) (o := .dict (dK (s.rows ++ [(n, r, ws)])) 0) (o' := .dict (dK (s.rows ++ [(n, r, ws)])) e1) rfl fun y_ e => ⟨e1, e⟩) (i := 3) (a := D.c) (o := .dict (aY9 (s.rows ++ [(n, r, ws)]) (D.bs ++ [q])) 0) (o' := .dict (aY9 (s.rows ++ [(n, r, ws)]) (D.bs ++ [q])) e2) rfl fun y_ e => ⟨e2, e⟩
 have nb : q ≠ D.b := fun e => hn (e ▸ .tail _ (.tail _ (.head _)))
 have nc : q ≠ D.c := fun e => hn (e ▸ .tail _ (.tail _ (.tail _ (.head _))))
 have h2 := Seg.snoc h1 (a := q) (o := .list (ws.map Wo.v)) hn (aJ (Ne.symm nc) (aJ (Ne.symm nb) hq))
 unfold Ow
 rw [Od.ext_all]
 have e : cC2 (D.ext [q]) { s with rows := s.rows ++ [(n, r, ws)] } = (((cC2 D s).set 2 (.dict (dK (s.rows ++ [(n, r, ws)])) 0)).set 3 (.dict (aY9 (s.rows ++ [(n, r, ws)]) (D.bs ++ [q])) 0)) ++ [.list (ws.map Wo.v)] := by
  unfold cC2
  show _ ++ List.map _ (s.rows ++ [(n, r, ws)]) = _
  rw [List.map_append]; rfl
 rw [e]; exact h2
end
end P06
end Mini
namespace Mini
open PySem
theorem aW6 {S : Sig} {F : Fns} {r : Lo} {m : MH} {E : Nat -> MH -> Prop} {Q : V -> MH -> Prop} {ks : List Str} {vs : List CE} (h : Wp (evs S F vs r) m (fun us m' => Wp (alloc (.dict ((ks.map Ky.str).zip us) 0)) m' Q E) E) : Wp (ev S F (.dict ks vs) r) m Q E := aL (x := evs S F vs r) h
namespace P06
open C06
noncomputable abbrev S6 : Sig := C06.sig
noncomputable def N6 : HN := ⟨6, 0, 1, 2, 3, 4, 5, 6, 2, 3, 4, 5, 0, 1, 2⟩
theorem hf : HF S6 N6 := ⟨⟨_, rfl, rfl, rfl, rfl⟩, ⟨_, rfl, rfl, rfl, rfl⟩, ⟨_, rfl, rfl, rfl, rfl⟩, ⟨_, rfl, rfl, rfl, rfl⟩, ⟨_, rfl, rfl, rfl, rfl⟩, ⟨_, rfl, rfl, rfl, rfl⟩, ⟨_, rfl, rfl, rfl, rfl⟩, ⟨_, rfl, rfl, rfl, rfl⟩, ⟨_, rfl, rfl, rfl, rfl⟩, ⟨_, rfl, rfl, rfl, rfl⟩, ⟨_, rfl, rfl, rfl, rfl⟩, ⟨_, rfl, rfl, rfl, rfl⟩, ⟨_, rfl, rfl, rfl, rfl⟩, ⟨_, rfl, rfl, rfl, rfl⟩, ⟨_, rfl, rfl, rfl, rfl⟩, ⟨_, rfl⟩, ⟨_, rfl⟩, ⟨_, rfl⟩,
 ⟨_, rfl, rfl, rfl, by decide⟩⟩
theorem f_at : eQ S6 15 2 2 b_at := ⟨_, rfl, rfl, rfl, rfl⟩
theorem bO5 : eQ S6 16 1 1 aP8 := ⟨_, rfl, rfl, rfl, rfl⟩
theorem cW8 : eQ S6 17 2 7 b_row := ⟨_, rfl, rfl, rfl, rfl⟩
theorem cM8 : eQ S6 19 1 2 aH9 := ⟨_, rfl, rfl, rfl, rfl⟩
theorem f_own : eQ S6 20 2 3 aT2 := ⟨_, rfl, rfl, rfl, rfl⟩
theorem cN0 : eQ S6 21 2 6 f_law_heard := ⟨_, rfl, rfl, rfl, rfl⟩
theorem cW7 : eQ S6 22 3 6 f_law_word := ⟨_, rfl, rfl, rfl, rfl⟩
theorem bX8 : eQ S6 23 2 3 aD3 := ⟨_, rfl, rfl, rfl, rfl⟩
theorem cM9 : eQ S6 24 3 7 f_law_state := ⟨_, rfl, rfl, rfl, rfl⟩
theorem aY1 : eQ S6 25 2 2 eO := ⟨_, rfl, rfl, rfl, rfl⟩
theorem cX0 : eQ S6 26 5 8 aM2 := ⟨_, rfl, rfl, rfl, rfl⟩
theorem cW9 : eQ S6 27 1 13 f_law := ⟨_, rfl, rfl, rfl, rfl⟩
theorem bE6 (n : Nat) (m : MH) : ∀ k : Nat, k < 12 -> run S6 (n + 1) 18 [.int ((k : Int) + 1)] m = .ok (.int (bJ ((k : Int) + 1))) m
 | 0, _ => rfl
 | 1, _ => rfl
 | 2, _ => rfl
 | 3, _ => rfl
 | 4, _ => rfl
 | 5, _ => rfl
 | 6, _ => rfl
 | 7, _ => rfl
 | 8, _ => rfl
 | 9, _ => rfl
 | 10, _ => rfl
 | 11, _ => rfl
 | k + 12, h => absurd h (by omega)
theorem bE1 (n : Nat) (m : MH) {c : Int} (h1 : 1 <= c) (h2 : c <= 12) : run S6 (n + 1) 18 [.int c] m = .ok (.int (bJ c)) m := by
 have z := Int.sub_nonneg_of_le h1
 have e : c = ((c - 1).toNat : Int) + 1 := by rw [Int.toNat_of_nonneg z]; exact (Int.sub_add_cancel c 1).symm
 have w := (Int.toNat_lt z).mpr (Int.lt_of_lt_of_le (Int.sub_lt_self c (by decide)) h2)
 rw [e]; exact bE6 n m _ w
theorem dR {a b : Nat} {l : List Nat} (h : a < b) (p : (b :: l).Pairwise (· < ·)) : (a :: b :: l).Pairwise (· < ·) := List.pairwise_cons.mpr ⟨List.forall_mem_cons.mpr ⟨h, fun x hx => Nat.lt_trans h ((List.pairwise_cons.mp p).1 x hx)⟩, p⟩
theorem nd5 {a b c d e : Nat} (h1 : a < b) (h2 : b < c) (h3 : c < d) (h4 : d < e) : [c, a, b, d, e].Nodup :=
 (List.Perm.nodup_iff (List.perm_middle (l₁ := [a, b]) (a := c) (l₂ := [d, e]))).mp ((dR h1 (dR h2 (dR h3 (dR h4 (List.pairwise_singleton _ _))))).imp fun h => Nat.ne_of_lt h)
theorem cC1 (n : Nat) {c : Int} (o : Int) (h1 : 1 <= c) (h2 : c <= 12) (m : MH) : Wp (run S6 (n + 2) 20 [.int c, .int o]) m (fun u m' => ∃ D : Od, u = .ref D.p /\ Ow m' D (Hs.new c o) /\ Le m m' /\ ∀ y ∈ D.all, m.length <= y) nox := by
 refine cE f_own rfl (bC (aW6 ?_))
 refine aD (aC rfl (aD (aC rfl (aD (aH (bT rfl (bE1 n m h1 h2)) ?_)))))
 refine aD (aW (aF (aK fun q1 m1 l1 k1 g1 => ?_)))
 refine aD (aW6 (aF (aK fun q2 m2 l2 k2 g2 => ?_)))
 refine aF (aK fun q3 m3 l3 k3 g3 => ?_)
 refine dY (aW6 (aF (aK fun q4 m4 l4 k4 g4 => aC rfl (aC rfl (eA (l4.has k3) rfl rfl (show 5 < lid by decide) ?_)))))
 refine dY (aW (aF (aK fun q5 m5 l5 k5 g5 => aC rfl (aC rfl (eA (l5.has (bB (l4.has k3))) rfl rfl (show 6 < lid by decide) ?_)))))
 refine bG (aC rfl ⟨⟨q3, q1, q2, q4, q5, []⟩, rfl, ⟨rfl, fun i a x hi hx => ?_, ?_⟩, ?_, ?_⟩)
 all_goals
  have z1 := aO k1
  have z2 := aO k2
  have z3 := aO k3
  have z4 := aO k4
  have g5 : m4.length <= q5 := by simpa using g5
  have y12 : q1 < q2 := Nat.lt_of_lt_of_le z1 g2
  have y23 : q2 < q3 := Nat.lt_of_lt_of_le z2 g3
  have y13 : q1 < q3 := Nat.lt_trans y12 y23
  have y34 : q3 < q4 := Nat.lt_of_lt_of_le z3 g4
  have y45 : q4 < q5 := Nat.lt_of_lt_of_le z4 g5
 ·match i, hi, hx with
  | 0, hi, hx => cases hi; cases hx; exact ⟨_, bB (l5.has (bB (l4.has k3)))⟩
  | 1, hi, hx => cases hi; cases hx; exact aJ (Nat.ne_of_gt y13) (l5.has (aJ (Nat.ne_of_gt y13) (l4.has (l3.has (l2.has k1)))))
  | 2, hi, hx => cases hi; cases hx; exact ⟨_, aJ (Nat.ne_of_gt y23) (l5.has (aJ (Nat.ne_of_gt y23) (l4.has (l3.has k2))))⟩
  | 3, hi, hx => cases hi; cases hx; exact ⟨_, aJ (Nat.ne_of_lt y34) (l5.has (aJ (Nat.ne_of_lt y34) k4))⟩
  | 4, hi, hx => cases hi; cases hx; exact aJ (Nat.ne_of_lt (Nat.lt_trans y34 y45)) k5
  | i + 5, hi, hx => cases hi
 ·exact nd5 y12 y23 y34 y45
 ·have a3 : m.length <= q3 := Nat.le_trans (l1.trans l2).1 g3
  have a2 := ((l1.trans (l2.trans l3)).trans l4).set a3 (.dict (put (.str sB) (.ref q4) ((([sC, sH, sW, sK, sR]).map Ky.str).zip [.int c, .int o, .int (bJ c), .ref q1, .ref q2])) 1)
  exact (a2.trans l5).set a3 _
 ·have a2 : m.length <= q2 := Nat.le_trans l1.1 g2
  have a3 : m.length <= q3 := Nat.le_trans (l1.trans l2).1 g3
  have a4 : m.length <= q4 := Nat.le_trans a3 (Nat.le_of_lt y34)
  exact aH8 a3 (aH8 g1 (aH8 a2 (aH8 a4 (aH8 (Nat.le_trans a4 (Nat.le_of_lt y45)) cW6))))
end P06
end Mini
namespace Mini
open PySem
section
variable {S : Sig} {F : Fns} {r : Lo} {m : MH} {E : Nat -> MH -> Prop}
theorem bA2 {a : CB} {x : Bool} (ha : evT S F a r m = .ok x m) : aT8 S F true [a] r m = .ok x m := by
 rw [aC9 ha aA9, Bool.and_true]
theorem aU7 (w : Wo) : ∀ l : List Wo, ((l.map Wo.d).any fun e => PyData.eqv e w.d) = decide (w ∈ l)
 | [] => by simp
 | a :: l => by
  rw [List.map_cons, List.any_cons, bP0, aU7 w l, Bool.eq_iff_iff, Bool.or_eq_true_iff, decide_eq_true_iff, decide_eq_true_iff, decide_eq_true_iff, List.mem_cons]
  exact ⟨fun h => h.imp Eq.symm id, fun h => h.imp Eq.symm id⟩
theorem bX1 {p : Nat} {l : List Wo} (w : Wo) (h : m[p]? = some (.list (l.map Wo.v))) : inV w.v (.ref p) m = .ok (decide (w ∈ l)) m := by
 unfold inV; dsimp only; rw [h]; dsimp only
 rw [show dN = 10 + 2 from rfl, aE9 m 10 l, show rd (10 + 2) m w.v = some w.d from rfl]
 dsimp only
 rw [aU7]
theorem bV3 {p q : Nat} {a b : List Wo} (hp : m[p]? = some (.list (a.map Wo.v))) (hq : m[q]? = some (.list (b.map Wo.v))) : aA2 .NotEq (.ref p) (.ref q) m = .ok (!decide (a = b)) m := by
 show (eqV _ _ m).bind _ = _
 rw [aP4 hp hq]; rfl
theorem aW5 {r0 r1 r2 r3 r4 r5 : Option V} {p : Nat} {l : List Wo} {src : CE} {c : CB} (keep : Wo -> Bool) {Q : V -> MH -> Prop} (hp : m[p]? = some (.list (l.map Wo.v))) (hl : l.length <= lid) (hs : ev S F src [r0, r1, r2, r3, r4, r5] m = .ok (.ref p) m)
  (hc : ∀ a : Wo, evT S F c [r0, r1, r2, r3, r4, r5, some a.v] m = .ok (keep a) m) (k : ∀ q m', Le m m' -> m'[q]? = some (.list ((l.filter keep).map Wo.v)) -> m.length <= q -> Q (.ref q) m') : Wp (ev S F (.comp (.var 6) (.one 6) 1 .expr [src] [c]) [r0, r1, r2, r3, r4, r5]) m Q E := by
 refine aC0 l Wo.v Wo.v keep (fun m' => m' = m) (aD (aH hs (aF (d9 hp ⟨rfl, rfl, ?_, ?_, hl, ?_⟩))))
 ·intro m' em; rw [em]; exact bZ hp
 ·intro a y_ m' em
  rw [em]
  refine aC rfl (aH4 (aH (hc a) ⟨rfl, ?_⟩))
  cases keep a with
  | true => exact aB4 (aC (m' := m) (a := a.v) rfl ⟨rfl, rfl⟩)
  | false => rfl
 ·intro q m' m1 em l1 k1 g1
  rw [em] at l1 g1
  exact k q m1 l1 k1 g1
theorem bL3 {α : Type} {r0 r1 r2 r3 r4 r5 : Option V} {p : Nat} {xs : List V} (l : List α) (f g : α -> V) {src elt : CE} {Q : V -> MH -> Prop} (hp : m[p]? = some (.list xs)) (hx : xs = l.map f) (hl : l.length <= lid) (hs : ev S F src [r0, r1, r2, r3, r4, r5] m = .ok (.ref p) m)
  (hc : ∀ a, ev S F elt [r0, r1, r2, r3, r4, r5, some (f a)] m = .ok (g a) m) (k : ∀ q m', Le m m' -> m'[q]? = some (.list (l.map g)) -> m.length <= q -> Q (.ref q) m') : Wp (ev S F (.comp elt (.one 6) 1 .expr [src] []) [r0, r1, r2, r3, r4, r5]) m Q E := by
 subst hx
 refine bL1 l f g (fun m' => m' = m) (aD (aH hs (aF (d9 hp ⟨rfl, rfl, ?_, ?_, hl, ?_⟩))))
 ·intro m' em; rw [em]; exact bZ hp
 ·intro a y_ m' em
  rw [em]
  exact aC rfl (aH (hc a) ⟨rfl, rfl⟩)
 ·intro q m' m1 em l1 k1 g1
  rw [em] at l1 g1
  exact k q m1 l1 k1 g1
end
namespace P06
open C06
noncomputable abbrev bR4 (Q : V -> MH -> Prop) : Fl × Lo -> MH -> Prop := fun p m' => match p.1 with | .ret v => Q v m' | .next => Q .none m' | .cont => False
noncomputable def tl3 (b : List Wo) (nd : List (Int × Wo × Wo)) (w : Wo) : List Wo := match b with
 | [] => []
 | a :: _ => if (nd.any fun x => x.1 == w.h) = true then [] else [a, w]
noncomputable def nm3 (b : List Wo) (nd : List (Int × Wo × Wo)) (w : Wo) : List (Int × Wo × Wo) := match b with
 | [] => []
 | a :: _ => if (nd.any fun x => x.1 == w.h) = true then [] else [(w.h, a, w)]
section
variable {m : MH} {D : Od} {s : Hs} {Q : V -> MH -> Prop} {q2 q3 : Nat} {v4 v5 : Option V} {b t : List Wo}
theorem aP1 {a : Wo} {l : List Wo} {q : Nat} (h : m[q]? = some (.list ((a :: l).map Wo.v))) : aI8 (.ref q) (.int 0) m = .ok a.v m := by unfold aI8; dsimp only; rw [h]; rfl
theorem cR6 (n : Nat) (w : Wo) (h : Ow m D s) (hb : m[q2]? = some (.list (b.map Wo.v))) (ht : m[q3]? = some (.list (t.map Wo.v))) (o2 : q2 ∉ D.all) (o3 : q3 ∉ D.all) (lt : t.length <= 100) (ln : s.named.length < lid)
  (hQ : ∀ m' q, m'[q]? = some (.list ((t ++ tl3 b s.named w).map Wo.v)) -> (q = q3 \/ m.length <= q) -> Ow m' D { s with named := s.named ++ nm3 b s.named w } -> Mod D.foot m m' -> Q (.ref q) m') :
  Wp (exs S6 (run S6 n) (f_law_heard.drop 9) [some (.ref D.p), some w.v, some (.ref q2), some (.ref q3), v4, v5]) m (bR4 Q) nox := by
 refine aG4 (aL0 (bP (fJ (fK (aC rfl (aW (aF (aK fun q0 m0 l0 k0 g0 => ?_))))))))
 refine aH (bV3 (b := []) (l0.has hb) k0) (aC rfl ?_)
 have h0 := Seg.le h l0
 cases b with
 | nil =>
  refine aP6 (bG (aC rfl (hQ m0 q3 ?_ (.inl rfl) ?_ l0.mod)))
  ·rw [show t ++ tl3 [] s.named w = t from List.append_nil t]; exact l0.has ht
  ·exact Ow.same h0 rfl rfl rfl rfl (List.append_nil _)
 | cons a as =>
  refine aB4 (bP (fJ (fK (aC rfl ?_))))
  obtain ⟨ed, kd⟩ := Ow.dic h0
  refine bL3 s.named (fun x => .tup [.int x.1, x.2.1.v, x.2.2.v]) (fun x => .int x.1) (Ow.na h0) rfl (Nat.le_of_lt ln) (aT rfl rfl (aG kd rfl rfl rfl)) (fun y_ => rfl) fun q1 m1 l1 k1 g1 => ?_
  have k1' : m1[q1]? = some (.list ((s.named.map (·.1)).map V.int)) := by rw [List.map_map]; exact k1
  have e1 : aA2 .NotIn (.int w.h) (.ref q1) m1 = .ok (!(s.named.any fun x => x.1 == w.h)) m1 := by
   show (inV _ _ m1).bind _ = _
   rw [cM1 k1', List.any_map]; rfl
  refine aH e1 (aC rfl ?_)
  have h1 := Seg.le h0 l1
  have M1 : Le m m1 := l0.trans l1
  unfold tl3 nm3 at hQ
  dsimp only at hQ
  cases z : s.named.any fun x => x.1 == w.h with
  | true =>
   rw [z] at hQ
   refine aP6 (bG (aC rfl (hQ m1 q3 ?_ (.inl rfl) ?_ M1.mod)))
   ·rw [if_pos rfl, List.append_nil]; exact M1.has ht
   ·exact Ow.same h1 rfl rfl rfl rfl (by rw [if_pos rfl]; exact List.append_nil _)
  | false =>
   rw [z, if_neg Bool.false_ne_true, if_neg Bool.false_ne_true] at hQ
   refine aB4 ?_
   show Wp (exs _ _ (_ :: _ :: _) _) m1 _ _
   obtain ⟨e1, kd1⟩ := Ow.dic h1
   have b1 := M1.has hb
   refine eH (bH (aH (aT rfl rfl (aG kd1 rfl rfl rfl)) ⟨0, aD7 (Ow.na h1), rfl, aD (dL (aD (aC rfl (aD (aH (aT rfl rfl (aP1 b1)) (aD (aC rfl (aF (aF (cF (Ow.na h1) (by unfold aA0; rw [List.length_map]; exact ln) ?_))))))))))⟩))
   have en : aA0 s.named ++ [V.tup [.int w.h, a.v, w.v]] = aA0 (s.named ++ [(w.h, a, w)]) := by unfold aA0; rw [List.map_append]; rfl
   rw [en]
   have h2 := Ow.setN h1 (s.named ++ [(w.h, a, w)])
   have d2 : D.d ≠ q2 := fun e => o2 (e ▸ .tail _ (.tail _ (.tail _ (.tail _ (.head _)))))
   have d3 : D.d ≠ q3 := fun e => o3 (e ▸ .tail _ (.tail _ (.tail _ (.tail _ (.head _)))))
   have b2 := aJ (o' := .list (aA0 (s.named ++ [(w.h, a, w)]))) d2 b1
   have t2 := aJ (o' := .list (aA0 (s.named ++ [(w.h, a, w)]))) d3 (M1.has ht)
   refine bC (aL1 (aC rfl (aW (aD (aH (aT rfl rfl (aP1 b2)) (aD (aC rfl (aF (aK fun q4 m4 l4 k4 g4 => ?_)))))))))
   refine aK2 (l4.has t2) (k4 : m4[q4]? = some (.list ([a, w].map Wo.v))) (bM (k := 102) (Nat.add_le_add (by rw [List.length_map]; exact lt) (Nat.le_refl 2)) (by decide)) fun q5 m5 l5 k5 g5 => ?_
   have g5' : m.length <= q5 := Nat.le_trans M1.1 (Nat.le_trans (Nat.le_of_eq (List.length_set).symm) (Nat.le_trans l4.1 g5))
   refine bG (aC rfl (hQ m5 q5 (k5.trans (by rw [List.map_append]; rfl)) (.inr g5') (Seg.le h2 (l4.trans l5)) ?_))
   exact (M1.mod.trans (Mod.set (.tail _ (.tail _ (.tail _ (.tail _ (.head _))))))).trans (l4.trans l5).mod
end
end P06
end Mini
namespace Mini
open PySem
theorem cJ0 {S : Sig} {F : Fns} {elt : CE} {k : IK} {t : CT} {nl : Nat} {src : List CE} {r : Lo} {m : MH} {Q : V -> MH -> Prop} {E : Nat -> MH -> Prop} {α : Type} (zs : List α) (vv ww : α -> V)
  (h : Wp (evs S F src r) m (fun vs m' => Wp (aB8 k vs) m' (fun p m1 => p.1 = zs.map vv /\ p.2.stays m1 = true /\ (∀ z ∈ zs, Wp (aI9 t (vv z) (r ++ List.replicate nl Option.none)) m1 (fun r' m' => m' = m1 /\ ev S F elt r' m1 = .ok (ww z) m1) nox) /\ zs.length <= lid /\ ∀ q m2, Le m1 m2 -> m2[q]? = some (.list (zs.map ww)) -> m1.length <= q -> Q (.ref q) m2) E) E) : Wp (ev S F (.comp elt t nl k src []) r) m Q E := by
 refine cJ1 (wp_mono h (fun vs m' h => wp_mono h (fun p m1 h => ?_) fun y_ y_ q => q) fun y_ y_ q => q)
 obtain ⟨e, hs, hz, hl, hk⟩ := h
 refine ⟨fun xs l m' => m' = m1 /\ ∃ a b, zs = a ++ b /\ xs = b.map vv /\ l = a.map ww, ⟨rfl, [], zs, rfl, e, rfl⟩, fun y_ y_ y_ q => q.1 ▸ hs, ?_, ?_⟩
 ·rintro x xs l m' ⟨rfl, a, b, e1, e2, rfl⟩
  cases b with
  | nil => cases e2
  | cons z b =>
   obtain ⟨e3, e4⟩ := List.cons.inj e2
   subst e3
   refine wp_mono (hz z (by rw [e1]; exact List.mem_append_right _ (.head _))) (fun r' m2 q => ?_) fun y_ y_ q => q
   obtain ⟨rfl, q⟩ := q
   refine aC (a := true) (m' := m2) rfl (aB4 (aH q ⟨rfl, a ++ [z], b, by rw [e1, List.append_assoc]; rfl, e4, by rw [List.map_append]; rfl⟩))
 ·rintro l m' ⟨rfl, a, b, e1, e2, rfl⟩
  cases b with
  | nil =>
   rw [List.append_nil] at e1
   subst e1
   exact ⟨by rw [List.length_map]; exact hl, hk⟩
  | cons z b => cases e2
namespace P06
open C06
theorem fL {α β : Type} {f : α -> Option β} {g : α -> β} : ∀ {l : List α}, (∀ a ∈ l, f a = some (g a)) -> l.filterMap f = l.map g
 | [], _ => rfl
 | a :: l, h => by rw [List.filterMap_cons, h a (.head _), fL fun b hb => h b (.tail _ hb)]; rfl
noncomputable def pr (a : Wo) : V := .tup [.int a.h, a.v]
theorem bA4 : ∀ l : List Wo, aR8 (l.map pr) = some (l.map (·.h))
 | [] => rfl
 | a :: l => by
  show (aR8 (l.map pr)).map (a.h :: ·) = _
  rw [bA4 l]; rfl
theorem bT9 {n : Int} {r : Str} {l : List Wo} (hl : ∀ a ∈ l, a = mrk n r a.h) : bD3 (l.map pr) (l.map (·.h)) = (sortI (l.map (·.h))).map fun i => pr (mrk n r i) := by
 unfold bD3
 refine fL fun i hi => ?_
 obtain ⟨a, ha, e⟩ := List.mem_map.mp (mem_sortI.mp hi)
 rw [List.zip_map', List.find?_map]
 have hs : (l.find? ((fun p : Int × V => p.1 == i) ∘ fun a : Wo => (a.h, pr a))).isSome = true := by
  rw [List.find?_isSome]; exact ⟨a, ha, beq_iff_eq.mpr e⟩
 obtain ⟨b, hb⟩ := Option.isSome_iff_exists.mp hs
 have h1 : b.h = i := eq_of_beq (show ((fun p : Int × V => p.1 == i) ∘ fun a : Wo => (a.h, pr a)) b = true from List.find?_some hb)
 rw [hb]
 show some (pr b) = some (pr (mrk n r i))
 rw [hl b (List.mem_of_find?_eq_some hb), h1]
theorem bJ3 {n : Int} {r : Str} {l : List Wo} {m : MH} {q : Nat} (hq : m[q]? = some (.list (l.map pr))) (hl : ∀ a ∈ l, a = mrk n r a.h) (nd : (l.map (·.h)).Nodup) (h64 : l.length < 64) : biV .sorted [.ref q] m = alloc (.list ((sortI (l.map (·.h))).map fun i => pr (mrk n r i))) m := by
 show (match m[q]? with | some (.list xs) => (match aD2 xs with | some is => if is.length < 64 then alloc (.list ((sortI is).map .int)) m else .bad | Option.none => aK6 xs m) | some (.dict kvs _) => (match bX kvs with | some is => if is.length < 64 then alloc (.list ((sortI is).map .int)) m else .bad | Option.none => .bad) | _ => .bad) = _
 rw [hq]
 cases l with
 | nil => rfl
 | cons a l =>
  show (match aR8 ((a :: l).map pr) with | some is => if is.length < 64 /\ is.Nodup then alloc (.list (bD3 ((a :: l).map pr) is)) m else .bad | Option.none => .bad) = _
  rw [bA4]
  show (if _ then _ else _) = _
  rw [if_pos ⟨by rw [List.length_map]; exact h64, nd⟩, bT9 hl]
theorem cI7 {rows : List (Int × Str × List Wo)} {n : Int} {r : Str} {ws : List Wo} (z : (rows.any fun x => x.1 == n) = false) : put (.int n) (.str r) (dK rows) = dK (rows ++ [(n, r, ws)]) := by
 unfold dK
 rw [aD0 _ _ _ _ _ z]
 unfold tD
 rw [List.map_append]; rfl
theorem cI9 {rows : List (Int × Str × List Wo)} {bs : List Nat} {n : Int} {r : Str} {ws : List Wo} {q : Nat} (z : (rows.any fun x => x.1 == n) = false) (hl : bs.length = rows.length) : put (.int n) (.ref q) (aY9 rows bs) = aY9 (rows ++ [(n, r, ws)]) (bs ++ [q]) := by
 have zb : (((rows.map (·.1)).zip bs).any fun y => y.1 == n) = false := by
  rw [List.any_eq_false]
  intro y hy
  obtain ⟨t, ht, e⟩ := List.mem_map.mp (List.of_mem_zip (a := y.1) (b := y.2) hy).1
  rw [<- e]; exact List.any_eq_false.mp z t ht
 unfold aY9 aQ1
 rw [aD0 _ _ _ _ _ zb, List.map_append, List.zip_append (by rw [List.length_map, hl])]
 unfold tD
 rw [List.map_append]; rfl
noncomputable def T2 (s : Hs) (w : Wo) (bs : List Wo) : List Wo := if s.wrote w.n = false /\ bJ s.cnt <= (bs.length : Int) then bs else []
noncomputable def R2 (s : Hs) (w : Wo) (bs : List Wo) : List (Int × Str × List Wo) := if s.wrote w.n = false /\ bJ s.cnt <= (bs.length : Int) then s.rows ++ [(w.n, w.r, bs)] else s.rows
section
variable {m : MH} {D : Od} {s : Hs} {Q : V -> MH -> Prop} {q2 q3 q5 : Nat} {v4 v5 : Option V} {b t bs : List Wo}
theorem tail2 (n : Nat) (w : Wo) (h : Ow m D s) (hb : m[q2]? = some (.list (b.map Wo.v))) (ht : m[q3]? = some (.list (t.map Wo.v))) (h5 : m[q5]? = some (.list (bs.map Wo.v))) (o2 : q2 ∉ D.all) (o3 : q3 ∉ D.all) (o5 : q5 ∉ D.all) (n2 : q2 ≠ q5) (lt : t.length <= 1) (l5 : bs.length <= 12) (ls : s.sz + 8 < lid)
  (hQ : ∀ m' q l, m'[q]? = some (.list ((t ++ T2 s w bs ++ tl3 b s.named w).map Wo.v)) -> (q = q3 \/ m.length <= q) -> (l = [] \/ l = [q5]) -> Ow m' (D.ext l) { s with rows := R2 s w bs, named := s.named ++ nm3 b s.named w } -> Mod D.foot m m' -> Q (.ref q) m') :
  Wp (exs S6 (run S6 n) (f_law_heard.drop 8) [some (.ref D.p), some w.v, some (.ref q2), some (.ref q3), v4, some (.ref q5)]) m (bR4 Q) nox := by
 obtain ⟨ed, kd⟩ := Ow.dic h
 obtain ⟨er, kr⟩ := Ow.ro h
 obtain ⟨eb, kb⟩ := Ow.ba h
 have lnm : s.named.length < lid := Nat.lt_of_le_of_lt s.nl (Nat.lt_of_le_of_lt (Nat.le_add_right _ _) ls)
 have lrw : s.rows.length < lid := Nat.lt_of_le_of_lt s.rl (Nat.lt_of_le_of_lt (Nat.le_add_right _ _) ls)
 have e1 : evT S6 (run S6 n) (.val (.cmp (.idx (.var 1) (.cnst (Lt.int 1))) [.NotIn] [(.idx (.var 0) (.cnst (Lt.str (Str.ofString "rows"))))])) [some (.ref D.p), some w.v, some (.ref q2), some (.ref q3), v4, some (.ref q5)] m = .ok (!(s.wrote w.n)) m := by
  refine aS (aQ rfl (aT rfl rfl (aG kd rfl rfl rfl)) ?_)
  show (inV (.int w.n) (.ref D.b) m).bind _ = _
  rw [bK kr rfl (aZ _ _ _ _), dK, cS]; rfl
 have e2 : evT S6 (run S6 n) (.val (.cmp (.bi .len [(.var 5)]) [.GtE] [(.idx (.var 0) (.cnst (Lt.str (Str.ofString "wanted"))))])) [some (.ref D.p), some w.v, some (.ref q2), some (.ref q3), v4, some (.ref q5)] m = .ok (decide ((bs.length : Int) ≥ bJ s.cnt)) m := by
  refine aS (aQ (x := .int bs.length) ?_ (aT rfl rfl (aG kd rfl rfl rfl)) rfl)
  show biV .len [.ref q5] m = _
  unfold biV; dsimp only; rw [h5]; dsimp only; rw [List.length_map]
 refine cJ (fC (aC9 e1 (bA2 e2))) ?_
 unfold T2 R2 at hQ
 by_cases z : s.wrote w.n = false /\ bJ s.cnt <= (bs.length : Int)
 ·rw [if_pos z, if_pos z] at hQ
  rw [z.1, decide_eq_true (show (bs.length : Int) ≥ bJ s.cnt from z.2)]
  show Wp (exs _ _ (_ :: _ :: _ :: _) _) m _ _
  refine dY (aC rfl (aH (aT rfl rfl (aG kd rfl rfl rfl)) (aC rfl (eA kr rfl (aZ _ _ _ _) (by unfold dK tD; rw [List.length_map]; exact lrw) ?_))))
  rw [cI7 (ws := bs) z.1]
  have nbp : D.b ≠ D.p := aX2 h.nd (i := 2) (j := 0) rfl rfl (by decide)
  have nbc : D.b ≠ D.c := aX2 h.nd (i := 2) (j := 3) rfl rfl (by decide)
  have kd1 := aJ (o' := .dict (dK (s.rows ++ [(w.n, w.r, bs)])) (er + 1)) nbp kd
  have kb1 := aJ (o' := .dict (dK (s.rows ++ [(w.n, w.r, bs)])) (er + 1)) nbc kb
  refine dY (aC rfl (aH (aT rfl rfl (aG kd1 rfl rfl rfl)) (aC rfl (eA kb1 rfl (aZ _ _ _ _) (by unfold aY9 aQ1 tD; rw [List.length_map, List.length_zip, List.length_map, h.len, Nat.min_self]; exact lrw) ?_))))
  rw [cI9 (r := w.r) (ws := bs) z.1 (Ow.len h)]
  have h3 := Ow.setR h (n := w.n) (r := w.r) (e1 := er + 1) (e2 := eb + 1) h5 o5
  have mb : D.b ∈ D.all := .tail _ (.tail _ (.head _))
  have mc : D.c ∈ D.all := .tail _ (.tail _ (.tail _ (.head _)))
  have fb : D.b ∈ D.foot := .tail _ (.tail _ (.head _))
  have fc : D.c ∈ D.foot := .tail _ (.tail _ (.tail _ (.head _)))
  have keep : ∀ {q : Nat} {o : MObj}, q ∉ D.all -> m[q]? = some o -> ((m.set D.b (.dict (dK (s.rows ++ [(w.n, w.r, bs)])) (er + 1))).set D.c (.dict (aY9 (s.rows ++ [(w.n, w.r, bs)]) (D.bs ++ [q5])) (eb + 1)))[q]? = some o := fun hq ho => aJ (fun e => hq (e ▸ mc)) (aJ (fun e => hq (e ▸ mb)) ho)
  refine bC (aL1 (aC rfl (aC rfl (aK2 (keep o3 ht) (keep o5 h5) (bM (k := 13) (by rw [List.length_map, List.length_map]; exact Nat.add_le_add lt l5) (by decide)) fun q6 m6 l6 k6 g6 => ?_))))
  have h6 := Seg.le h3 l6
  have g6' : m.length <= q6 := Nat.le_trans (Nat.le_of_eq (by rw [List.length_set, List.length_set])) g6
  have k6' : m6[q6]? = some (.list ((t ++ bs).map Wo.v)) := by rw [k6, List.map_append]
  have o6 : q6 ∉ (D.ext [q5]).all := Seg.out h3 g6
  have o2' : q2 ∉ (D.ext [q5]).all := by
   rw [Od.ext_all]; intro c
   rcases List.mem_append.mp c with c | c
   ·exact o2 c
   ·exact n2 (List.mem_singleton.mp c)
  have M6 : Mod D.foot m m6 := ((Mod.set fb).trans (Mod.set fc)).trans l6.mod
  exact cR6 (D := D.ext [q5]) n w h6 (l6.has (keep o2 hb)) k6' o2' o6 (by rw [List.length_append]; exact Nat.le_trans (Nat.add_le_add lt l5) (by decide)) lnm fun m' q k g h' M => hQ m' q [q5] k (g.elim (fun e => .inr (e ▸ g6')) fun g => .inr (Nat.le_trans M6.1 g)) (.inr rfl) h' (M6.trans M)
 ·rw [if_neg z, if_neg z, List.append_nil] at hQ
  have zf : (!(s.wrote w.n) && decide ((bs.length : Int) ≥ bJ s.cnt)) = false := by
   cases q : s.wrote w.n with
   | true => rfl
   | false => exact decide_eq_false fun c => z ⟨q, c⟩
  rw [zf]
  exact cR6 n w h hb ht o2 o3 (Nat.le_trans lt (by decide)) lnm fun m' q k g h' M => hQ m' q [] k g (.inl rfl) (by rw [Od.ext_nil]; exact h') M
end
end P06
end Mini
namespace Mini
open PySem
namespace P06
open C06
noncomputable def cP3 (m : MH) (D : Od) (x : Hs × List Wo) (u : V) (m' : MH) : Prop :=
 ∃ q l, u = .ref q /\ m'[q]? = some (.list (x.2.map Wo.v)) /\ m.length <= q /\ q ∉ (D.ext l).all /\ Ow m' (D.ext l) x.1 /\ Mod D.foot m m' /\ ∀ y ∈ l, m.length <= y
section
variable {m : MH} {D : Od} {s : Hs} {Q : V -> MH -> Prop} {q2 q3 q5 : Nat} {v4 v5 : Option V} {b t : List Wo}
theorem aP7 {k : List Wo} {n : Int} {r : Str} {a : Wo} (h : a ∈ aF2 k n r) : a ∈ k /\ a = mrk n r a.h := by
 unfold aF2 at h
 rw [List.mem_filter, Bool.and_eq_true_iff, Bool.and_eq_true_iff, beq_iff_eq, beq_iff_eq, beq_iff_eq] at h
 exact ⟨h.1, bF9 h.2.1 h.2.2.1 h.2.2.2 rfl⟩
theorem cO5 {k : List Wo} (nd : k.Nodup) (n : Int) (r : Str) : ((aF2 k n r).map (·.h)).Nodup := by
 have : (aF2 k n r).Nodup := nd.filter _
 refine List.pairwise_map.mpr (List.Pairwise.imp_of_mem (fun {a b} ha hb hne e => hne ?_) this)
 rw [(aP7 ha).2, (aP7 hb).2, e]
theorem bZ5 {s : Hs} (nd : s.known.Nodup) (hs : ∀ a ∈ s.known, 0 <= a.h /\ a.h < s.cnt) (h2 : s.cnt <= 12) (n : Int) (r : Str) : (aF2 s.known n r).length <= 12 := by
 have e : (aB5 s.known n r).length = (aF2 s.known n r).length := by unfold aB5; rw [List.length_map, b8, List.length_map]
 rw [<- e, bQ6 nd hs]
 exact Nat.le_trans (aG8 s n r) (aK3 h2)
theorem tail1 (n : Nat) (w : Wo) (h : Ow m D s) (nd : s.known.Nodup) (hs : ∀ a ∈ s.known, 0 <= a.h /\ a.h < s.cnt) (hc : s.cnt <= 12) (hb : m[q2]? = some (.list (b.map Wo.v))) (ht : m[q3]? = some (.list (t.map Wo.v))) (o2 : q2 ∉ D.all) (o3 : q3 ∉ D.all) (lt : t.length <= 1) (ls : s.sz + 8 < lid)
  (hQ : ∀ m' q l, m'[q]? = some (.list ((t ++ T2 s w (aB5 s.known w.n w.r) ++ tl3 b s.named w).map Wo.v)) -> (q = q3 \/ m.length <= q) -> q ∉ (D.ext l).all -> (∀ y ∈ l, m.length <= y) -> Ow m' (D.ext l) { s with rows := R2 s w (aB5 s.known w.n w.r), named := s.named ++ nm3 b s.named w } -> Mod D.foot m m' -> Q (.ref q) m') :
  Wp (exs S6 (run S6 n) (f_law_heard.drop 6) [some (.ref D.p), some w.v, some (.ref q2), some (.ref q3), v4, v5]) m (bR4 Q) nox := by
 obtain ⟨ed, kd⟩ := Ow.dic h
 have lk : s.known.length <= lid := Nat.le_of_lt (Nat.lt_of_le_of_lt s.kl (Nat.lt_of_le_of_lt (Nat.le_add_right _ _) ls))
 refine bC (aW5 (fun a => a.k == eM && (a.n == w.n && a.r == w.r)) (Ow.kn h) lk (aT rfl rfl (aG kd rfl rfl rfl)) (fun a => fC (aC9 (aS (aQ rfl rfl rfl)) (aC9 (aS (aQ rfl rfl rfl)) (bA2 (aS (aQ rfl rfl rfl)))))) fun q1 m1 l1 k1 g1 => ?_)
 have k1 : m1[q1]? = some (.list ((aF2 s.known w.n w.r).map Wo.v)) := k1
 have bl := bZ5 nd hs hc w.n w.r
 have bl' : (aF2 s.known w.n w.r).length <= lid := bM bl (by decide)
 refine bC (cJ0 (sortI ((aF2 s.known w.n w.r).map (·.h))) (fun i => pr (mrk w.n w.r i)) (fun i => (mrk w.n w.r i).v) (aD (aD8 (aD ?_))))
 refine bL3 (aF2 s.known w.n w.r) Wo.v pr k1 rfl bl' rfl (fun y_ => rfl) fun q4 m4 l4 k4 g4 => ?_
 refine aF (cZ (bJ3 k4 (fun a ha => (aP7 ha).2) (cO5 nd _ _) (Nat.lt_of_le_of_lt bl (by decide))) (aK fun q5 m5 l5 k5 g5 => ?_))
 refine aF (d9 k5 ⟨rfl, bZ k5, fun z y_ => aC rfl ⟨rfl, rfl⟩, ?_, fun q6 m6 l6 k6 g6 => ?_⟩)
 ·rw [b8, List.length_map]; exact bl'
 ·have L : Le m m6 := l1.trans (l4.trans (l5.trans l6))
  have k6 : m6[q6]? = some (.list ((aB5 s.known w.n w.r).map Wo.v)) := by unfold aB5; rw [List.map_map]; exact k6
  have g6' : m.length <= q6 := Nat.le_trans (l1.trans (l4.trans l5)).1 g6
  have b6 : (aB5 s.known w.n w.r).length <= 12 := by unfold aB5; rw [List.length_map, b8, List.length_map]; exact bl
  have o6 := Seg.out h g6'
  refine tail2 n w (Seg.le h L) (L.has hb) (L.has ht) k6 o2 o3 o6 (fun e => Nat.not_lt.mpr g6' (e ▸ aO hb)) lt b6 ls fun m' q l k g hl h' M => hQ m' q l k (g.imp id (Nat.le_trans L.1)) ?_ ?_ h' (L.mod.trans M)
  ·intro c
   rw [Od.ext_all] at c
   have hd : q ∉ D.all := by
    rcases g with rfl | g
    ·exact o3
    ·exact Seg.out h (Nat.le_trans L.1 g)
   rcases List.mem_append.mp c with c | c
   ·exact hd c
   ·rcases hl with rfl | rfl
    ·exact absurd c List.not_mem_nil
    ·have e := List.mem_singleton.mp c
     rcases g with g | g
     ·have := aO ht; rw [<- g, e] at this; exact Nat.not_lt.mpr g6' this
     ·have := aO k6; rw [<- e] at this; exact Nat.not_lt.mpr g this
  ·rcases hl with rfl | rfl
   ·exact fun y_ q => nomatch q
   ·intro y hy; rw [List.mem_singleton.mp hy]; exact g6'
theorem aS7 (n : Nat) (w : Wo) (h : Ow m D s) (I : Fit s) (hw0 : 0 <= w.h /\ w.h < s.cnt) (hm : w.k = eM -> w.h ≠ s.own) (ho : 0 <= s.own /\ s.own < s.cnt) (h2 : s.cnt <= 12) (hl : s.sz + 12 < lid) : Wp (run S6 (n + 1) 21 [.ref D.p, w.v]) m (cP3 m D (s.hear w)) nox := by
 obtain ⟨ed, kd⟩ := Ow.dic h
 have lk : s.known.length + 3 < lid := Nat.lt_of_le_of_lt (Nat.add_le_add s.kl (show 3 <= 12 by decide)) hl
 refine cE cN0 rfl (cJ (aS (aQ rfl (aT rfl rfl (aG kd rfl rfl rfl)) (bX1 w (Ow.kn h)))) ?_)
 by_cases z : w ∈ s.known
 ·rw [decide_eq_true z]
  refine bG (aW (aF (aK fun q m' l k g => ?_)))
  have e : s.hear w = (s, []) := by unfold Hs.hear; rw [if_pos z]
  rw [e]
  exact ⟨q, [], rfl, k, g, by rw [Od.ext_nil]; exact Seg.out h g, by rw [Od.ext_nil]; exact Seg.le h l, l.mod, fun y_ q => nomatch q⟩
 ·rw [decide_eq_false z]
  show Wp (exs _ _ (_ :: _) _) m _ _
  have X := bB7 I z hw0 hm ho
  refine bC (aW5 (fun a => a.k == w.k && (a.n == w.n && a.h == w.h)) (Ow.kn h) (Nat.le_of_lt (Nat.lt_of_le_of_lt (Nat.le_add_right _ 3) lk)) (aT rfl rfl (aG kd rfl rfl rfl)) (fun a => fC (aC9 (aS (aQ rfl rfl rfl)) (aC9 (aS (aQ rfl rfl rfl)) (bA2 (aS (aQ rfl rfl rfl)))))) fun q2 m2 l2 k2 g2 => ?_)
  have k2 : m2[q2]? = some (.list ((fM s.known w).map Wo.v)) := k2
  have hA := Seg.le h l2
  obtain ⟨e2, kd2⟩ := Ow.dic hA
  refine eH (bH (aH (aT rfl rfl (aG kd2 rfl rfl rfl)) ⟨0, aD7 (Ow.kn hA), rfl, aD (aC rfl (aF (cF (Ow.kn hA) (by rw [List.length_map]; exact Nat.lt_of_le_of_lt (Nat.le_add_right _ 3) lk) ?_)))⟩))
  rw [show s.known.map Wo.v ++ [w.v] = (s.known ++ [w]).map Wo.v by rw [List.map_append]; rfl]
  have hB := Ow.setK hA (s.known ++ [w])
  have da : D.a ∈ D.foot := .tail _ (.head _)
  have o2 : q2 ∉ D.all := Seg.out h g2
  have k2' := aJ (o' := .list ((s.known ++ [w]).map Wo.v)) (fun e => o2 (e ▸ List.mem_append_left _ da) : D.a ≠ q2) k2
  have M2 : Mod D.foot m (m2.set D.a (.list ((s.known ++ [w]).map Wo.v))) := l2.mod.trans (Mod.set da)
  generalize m2.set D.a (.list ((s.known ++ [w]).map Wo.v)) = mB at hB k2' M2 ⊢
  refine bC (aW (aF (aK fun q3 m3 l3 k3 g3 => ?_)))
  have hC := Seg.le hB l3
  obtain ⟨e3, kd3⟩ := Ow.dic hC
  have hsz : ((s.known ++ [w]).length) <= lid := by rw [List.length_append]; exact Nat.le_of_lt (Nat.lt_of_le_of_lt (Nat.add_le_add_left (show 1 <= 3 by decide) _) lk)
  refine bC (aW5 (fun a => a.k == eM && (a.n == w.n && a.h == s.own)) (Ow.kn hC) hsz (aT rfl rfl (aG kd3 rfl rfl rfl)) (fun a => fC (aC9 (aS (aQ rfl rfl rfl)) (aC9 (aS (aQ rfl rfl rfl)) (bA2 (aS (aQ rfl (aT rfl rfl (aG kd3 rfl rfl rfl)) rfl)))))) fun q4 m4 l4 k4 g4 => ?_)
  have k4 : m4[q4]? = some (.list ((cU7 (s.known ++ [w]) w.n s.own).map Wo.v)) := k4
  have hD := Seg.le hC l4
  have L34 : Le mB m4 := l3.trans l4
  have q3lt : q3 < m3.length := aO k3
  have o3 : q3 ∉ D.all := Seg.out hB g3
  have fin : ∀ (m6 : MH) (t : List Wo) (r4 : Option V), t = aD6 s w -> Ow m6 D { s with known := aR s w } -> m6[q2]? = some (.list ((fM s.known w).map Wo.v)) -> m6[q3]? = some (.list (t.map Wo.v)) -> Mod D.foot m m6 ->
    Wp (exs S6 (run S6 n) (f_law_heard.drop 6) [some (.ref D.p), some w.v, some (.ref q2), some (.ref q3), r4, none]) m6 (bR4 (cP3 m D (s.hear w))) nox := by
   intro m6 t r4 et h6 b6 t6 M6
   have Y : Fit { s with known := aR s w, marked := (s.hear w).1.marked } := bB8 X.fit X.known.symm rfl X.own.symm X.cnt.symm
   have gq3 : m.length <= q3 := Nat.le_trans M2.1 g3
   refine tail1 (s := { s with known := aR s w }) n w h6 Y.nd Y.hs h2 b6 t6 o2 o3 (by rw [et]; unfold aD6; split <;> simp) ?_ fun m' q l k g ol yl h' M => ?_
   ·have e : ({ s with known := aR s w } : Hs).sz <= s.sz + 2 := by
     show (aR s w).length + s.marked.length + s.rows.length + s.named.length <= _
     have : (aR s w).length <= s.known.length + 2 := by
      unfold aR aD6
      rw [List.length_append, List.length_append]
      split
      ·exact Nat.le_refl _
      ·exact Nat.le_succ _
     unfold Hs.sz; omega
    omega
   ·refine ⟨q, l, rfl, ?_, g.elim (fun e => e ▸ gq3) (Nat.le_trans M6.1), ol, Ow.same h' X.cnt X.own X.known ?_ ?_, M6.trans M, fun y hy => Nat.le_trans M6.1 (yl y hy)⟩
    ·rw [k, X.told, et]; rfl
    ·rw [X.rows]; rfl
    ·rw [X.named]; rfl
  have hb4 : m4[q2]? = some (.list ((fM s.known w).map Wo.v)) := L34.has k2'
  have ht4 : m4[q3]? = some (.list []) := l4.has k3
  have M4 : Mod D.foot m m4 := M2.trans L34.mod
  refine aG4 (aL0 (bP (aH (aS (aQ (t := w.k == fP) rfl rfl rfl)) ?_)))
  by_cases zs : w.k = fP
  ·rw [show (w.k == fP) = true from beq_iff_eq.mpr zs]
   refine aB4 (bP (fJ (fK (aC rfl (aW (aF (aK fun q5 m5 l5 k5 g5 => ?_)))))))
   refine aH (show aA2 .Eq (.ref q4) (.ref q5) m5 = _ from aP4 (l5.has k4) (b := []) k5) (aC rfl ?_)
   have hE := Seg.le hD l5
   obtain ⟨e5, kd5⟩ := Ow.dic hE
   by_cases zm : cU7 (s.known ++ [w]) w.n s.own = []
   ·rw [decide_eq_true zm]
    refine aB4 ?_
    show Wp (exs _ _ (_ :: _ :: _) _) m5 _ _
    have et : aD6 s w = [mrk w.n w.r s.own] := if_pos ⟨zs, zm⟩
    have ek : aR s w = s.known ++ [w] ++ [mrk w.n w.r s.own] := by unfold aR; rw [et]
    have k35 := l5.has ht4
    refine eH (bH (aC rfl ⟨0, aD7 k35, rfl, aD (dL (aD (aC rfl (aD (aC rfl (aD (aC rfl (aD (aH (aT rfl rfl (aG kd5 rfl rfl rfl)) (aF (aF (cF k35 (by decide) ?_))))))))))))⟩))
    have k36 : (m5.set q3 (.list ([] ++ [(mrk w.n w.r s.own).v])))[q3]? = some (.list ([mrk w.n w.r s.own].map Wo.v)) := bB k35
    have h6 : Ow (m5.set q3 (.list ([] ++ [(mrk w.n w.r s.own).v]))) D { s with known := s.known ++ [w] } := Seg.mod hE (Mod.set (T := [q3]) (.head _)) fun x hx c => o3 (List.mem_singleton.mp c ▸ hx)
    have n32 : q3 ≠ q2 := fun e => by have := aO k2'; rw [<- e] at this; exact Nat.not_lt.mpr g3 this
    have b6 := aJ (o' := .list ([] ++ [(mrk w.n w.r s.own).v])) n32 (l5.has hb4)
    have M6 : Mod D.foot m (m5.set q3 (.list ([] ++ [(mrk w.n w.r s.own).v]))) := by
     have g : m.length <= q3 := Nat.le_trans M2.1 g3
     refine ⟨by rw [List.length_set]; exact Nat.le_trans M4.1 l5.1, fun p hp hn => ?_⟩
     rw [List.getElem?_set_ne (fun e => Nat.not_lt.mpr g (by rw [e]; exact hp))]
     exact (M4.trans l5.mod).2 p hp hn
    show Wp (exs _ _ _ _) (m5.set q3 (.list ([] ++ [(mrk w.n w.r s.own).v]))) _ _
    generalize m5.set q3 (.list ([] ++ [(mrk w.n w.r s.own).v])) = m6 at k36 h6 b6 M6 ⊢
    obtain ⟨e6, kd6⟩ := Ow.dic h6
    refine eH (bH (aH (aT rfl rfl (aG kd6 rfl rfl rfl)) ⟨0, aD7 (Ow.kn h6), rfl, aD (aH (aT rfl rfl (aP1 k36)) (aF (cF (Ow.kn h6) (by rw [List.length_map, List.length_append]; exact Nat.lt_of_le_of_lt (Nat.add_le_add_left (show 1 <= 3 by decide) _) lk) ?_)))⟩))
    rw [show (s.known ++ [w]).map Wo.v ++ [(mrk w.n w.r s.own).v] = (aR s w).map Wo.v by rw [ek, List.map_append (l₁ := s.known ++ [w])]; rfl]
    have na : ∀ {q : Nat}, q ∉ D.all -> D.a ≠ q := fun hq e => hq (e ▸ List.mem_append_left _ da)
    exact fin _ [mrk w.n w.r s.own] _ et.symm (Ow.setK h6 (aR s w)) (aJ (na o2) b6) (aJ (na o3) k36) (M6.trans (Mod.set da))
   ·rw [decide_eq_false zm]
    refine aP6 ?_
    have et : aD6 s w = [] := if_neg fun q => zm q.2
    have ek : s.known ++ [w] = aR s w := by unfold aR; rw [et, List.append_nil]
    exact fin m5 [] _ et.symm (ek ▸ hE) (l5.has hb4) (l5.has ht4) (M4.trans l5.mod)
  ·rw [show (w.k == fP) = false from beq_eq_false_iff_ne.mpr zs]
   refine aP6 ?_
   have et : aD6 s w = [] := if_neg fun q => zs q.1
   have ek : s.known ++ [w] = aR s w := by unfold aR; rw [et, List.append_nil]
   exact fin m4 [] _ et.symm (ek ▸ hD) hb4 ht4 M4
end
end P06
end Mini
namespace Mini
open PySem
theorem bK5 {S : Sig} {F : Fns} {r : Lo} {m : MH} {a b c d : CE} {x y z w : V} (h1 : ev S F a r m = .ok x m) (h2 : ev S F b r m = .ok y m) (h3 : ev S F c r m = .ok z m) (h4 : ev S F d r m = .ok w m) : ev S F (.tup [a, b, c, d]) r m = .ok (.tup [x, y, z, w]) m := by
 obtain ⟨v, m', e, rfl, rfl⟩ := fF (show Wp (ev S F (.tup [a, b, c, d]) r) m (fun v m' => v = .tup [x, y, z, w] /\ m' = m) nox from dL (aD (aH h1 (aD (aH h2 (aD (aH h3 (aD (aH h4 (aF ⟨rfl, rfl⟩))))))))))
 exact e
namespace P06
open C06
section
variable {m : MH} {D : Hd} {O : Od} {s : Hs}
theorem aZ1 (n : Nat) {q : Nat} {l : List Wo} (h : m[q]? = some (.list (l.map Wo.v))) : run S6 (n + 2) 19 [.ref q] m = .ok (.bool true) m := by
 have hi : eN S6 (.ref q) .list m = .ok true m := by unfold eN; dsimp only; rw [h]; rfl
 refine aC6 (cE cM8 rfl (cJ (dA (aS (aN9 rfl hi))) ?_))
 show Wp (exs _ _ (_ :: _) _) m _ _
 refine aG5 l Wo.v (fun zs r m' => m' = m /\ ∃ x, r = [some (.ref q), x]) (aD (aC rfl (aF (d9 h ⟨rfl, ⟨rfl, _, rfl⟩, ?_, ?_, ?_⟩))))
 ·rintro _ _ m' ⟨rfl, _⟩; exact bZ h
 ·rintro w zs r m' ⟨rfl, x, rfl⟩
  refine aC rfl (cJ (fC (b0 (dA (aS (aN9 (b := true) rfl rfl))) (b0 (aS (aQ (t := false) rfl rfl rfl)) (b0 (dA (aS (bT (v := .bool true) rfl (eR bO5 n (.int _))))) (b0 (dA (aS (bT (v := .bool true) rfl (eR bO5 n (.int _))))) aA9))))) ?_)
  exact aJ1 ⟨rfl, _, rfl⟩
 ·rintro r m' ⟨rfl, x, rfl⟩
  exact bG (aC rfl ⟨rfl, rfl⟩)
theorem aQ5 (n : Nat) {k : Int} (h : Ho m N6.C D s) (hk : s.wrote k = false) : run S6 (n + 3) 25 [.ref D.p, .int k] m = .ok (.bool true) m := by
 refine aC6 (cE aY1 rfl (s_try (eH (bL (aC rfl ⟨D.p, 6, _, _, 13, rfl, h.inst, rfl, rfl, rfl, aC rfl (wp_mono (bF3 hf n h (.int k) (by show (!s.wrote k) = true; rw [hk]; rfl)) (fun y_ y_ q => q.elim) ?_)⟩)))))
 rintro y_ y_ ⟨rfl, rfl⟩
 exact ⟨rfl, aC rfl ⟨rfl, rfl⟩⟩
theorem bL6 (h : Ow m O s) {k : Int} (hk : s.wrote k = true) : ∃ q, aI8 (.ref O.c) (.int k) m = .ok (.ref q) m /\ m[q]? = some (.list ((fE s.rows k).map Wo.v)) := by
 obtain ⟨eb, kb⟩ := Ow.ba h
 obtain ⟨x, hx⟩ := aK1 hk
 obtain ⟨i, q, h1, h2, h3⟩ := bO3 hx (Ow.len h)
 obtain ⟨q', g1, g2⟩ := Ow.bk h h1
 rw [h2] at g1
 cases g1
 refine ⟨q, aG kb rfl (aZ _ _ _ _) (by unfold aY9 aQ1; rw [aA1, h3]; rfl), ?_⟩
 rw [g2]; unfold fE; rw [hx]
theorem eW (l : List Wo) : ∀ x ∈ l.map Wo.v, Rf x := fun x hx => by
 obtain ⟨w, y_, rfl⟩ := List.mem_map.mp hx
 exact cI0 w
theorem aN8 (l : List (Int × Wo × Wo)) : ∀ x ∈ aA0 l, Rf x := fun x hx => by
 obtain ⟨w, y_, rfl⟩ := List.mem_map.mp hx
 exact cI1 w
theorem bZ4 (h : Ow m O s) : bX (aY9 s.rows O.bs) = some (s.rows.map (·.1)) := by
 unfold aY9 aQ1
 rw [aO6]
 exact congrArg some (List.map_fst_zip (Nat.le_of_eq (by rw [List.length_map, Ow.len h])))
theorem wrote_iff {k : Int} : s.wrote k = true ↔ k ∈ s.rows.map (·.1) := by
 unfold Hs.wrote
 rw [List.any_eq_true, List.mem_map]
 exact ⟨fun ⟨x, hx, e⟩ => ⟨x, hx, eq_of_beq e⟩, fun ⟨x, hx, e⟩ => ⟨x, hx, beq_iff_eq.mpr e⟩⟩
theorem aG0 {q : Nat} {kvs : List (Ky × V)} {e : Nat} {is : List Int} (hq : m[q]? = some (.dict kvs e)) (hk : bX kvs = some is) (hl : is.length < 64) : biV .sorted [.ref q] m = alloc (.list ((sortI is).map .int)) m := by
 show (match m[q]? with | some (.list xs) => (match aD2 xs with | some is => if is.length < 64 then alloc (.list ((sortI is).map .int)) m else .bad | Option.none => aK6 xs m) | some (.dict kvs _) => (match bX kvs with | some is => if is.length < 64 then alloc (.list ((sortI is).map .int)) m else .bad | Option.none => .bad) | _ => .bad) = _
 rw [hq]
 show (match bX kvs with | some is => if is.length < 64 then alloc (.list ((sortI is).map .int)) m else .bad | Option.none => .bad) = _
 rw [hk]
 exact if_pos hl
theorem bI3 (n : Nat) (h : Ho m N6.C D s) (g : Ow m O s) (hl : s.rows.length < 64) : Wp (run S6 (n + 3) 23 [.ref D.p, .ref O.p]) m (fun u m' => u = .bool true /\ Le m m') nox := by
 obtain ⟨ed, kd⟩ := Ow.dic g
 obtain ⟨eb, kb⟩ := Ow.ba g
 refine cE bX8 rfl ?_
 refine cS6 (aD (aD8 (aD (aH (aT rfl rfl (aG kd rfl rfl rfl)) (aF (cZ (aG0 kb (bZ4 g) (by rw [List.length_map]; exact hl)) (aK fun q1 m1 l1 k1 g1 => aF (d9 k1 ?_))))))))
 refine ⟨fun xs r m' => Le m1 m' /\ (∃ x, r = [some (.ref D.p), some (.ref O.p), x]) /\ ∀ x ∈ xs, ∃ i, x = .int i /\ s.wrote i = true, ⟨.refl _, ⟨_, rfl⟩, ?_⟩, ?_, ?_, ?_⟩
 ·intro x hx
  obtain ⟨i, hi, rfl⟩ := List.mem_map.mp hx
  exact ⟨i, rfl, wrote_iff.mpr (mem_sortI.mp hi)⟩
 ·rintro _ _ m' ⟨l, _⟩; exact bZ (l.has k1)
 ·rintro x xs r m' ⟨l, ⟨y, rfl⟩, hx⟩
  obtain ⟨i, rfl, hi⟩ := hx x (.head _)
  have L := l1.trans l
  have h' := h.le L
  refine aC rfl (aG4 (fJ (fK (bL (aC rfl ⟨D.p, 6, _, _, 13, rfl, h'.inst, rfl, rfl, rfl, aC rfl (aH (e9 hf n h' hi) ?_)⟩)))))
  have L2 : Le m' (m' ++ [.list ((fE s.rows i).map Wo.v)]) := .app _ _
  have g2 := Seg.le g (L.trans L2)
  obtain ⟨e2, kd2⟩ := Ow.dic g2
  obtain ⟨q, hq, kq⟩ := bL6 g2 hi
  refine aH (aT (aT rfl rfl (aG kd2 rfl rfl rfl)) rfl hq) (aH (cK (aJ8 (eW _) bI kq)) (aC rfl ?_))
  exact aJ1 ⟨l.trans L2, ⟨_, rfl⟩, fun x hx' => hx x (.tail _ hx')⟩
 ·rintro r m' ⟨l, ⟨y, rfl⟩, y_⟩
  have L := l1.trans l
  have h' := h.le L
  refine bG (fK (bL (aC rfl ⟨D.p, 6, _, _, 14, rfl, h'.inst, rfl, rfl, rfl, aC rfl (aH (aI4 hf (n + 1) h') ?_)⟩)))
  have L2 : Le m' (m' ++ [.list (aA0 s.named)]) := .app _ _
  have g2 := Seg.le g (L.trans L2)
  obtain ⟨e2, kd2⟩ := Ow.dic g2
  refine aH (aT rfl rfl (aG kd2 rfl rfl rfl)) (aH (show aA2 .Eq _ _ _ = _ from aJ8 (aN8 _) bI (Ow.na g2)) ⟨rfl, L.trans L2⟩)
theorem cG0 (n : Nat) {c b : Int} (g : Ow m O s) (h2 : 2 <= s.cnt) (ho : 0 <= s.own /\ s.own < s.cnt) : Wp (run S6 (n + 2) 22 [.int c, .ref O.p, .int b]) m (fun u m' => ∃ w : Wo, u = w.v /\ Le m m' /\ (0 <= w.h /\ w.h < s.cnt) /\ (w.k = eM -> w.h ≠ s.own)) nox := by
 obtain ⟨ed, kd⟩ := Ow.dic g
 have h0 : 0 < s.cnt := Int.lt_of_lt_of_le (by decide) h2
 refine cE cW7 rfl (bC (aC rfl (bC (dC (aC rfl (dX (cB4 cW8 (n + 1) b (c / 6 % 3) m) fun v m1 q => ?_))))))
 obtain ⟨rfl, l1⟩ := q
 have kd1 := l1.has kd
 refine cJ (aS (aQ (t := c % 2 == 0) rfl rfl rfl)) ?_
 cases z : (c % 2 == 0) with
 | true =>
  show Wp (exs _ _ (_ :: _ :: _) _) m1 _ _
  refine cJ (aS (aQ (t := c / 2 % 3 % s.cnt == s.own) (bN rfl (aT rfl rfl (aG kd1 rfl rfl rfl)) (aL7 h0)) (aT rfl rfl (aG kd1 rfl rfl rfl)) rfl)) ?_
  have fin : ∀ k : Int, Wp (exs S6 (run S6 (n + 1)) ((.ret (.tup [(.cnst (Lt.str (Str.ofString "say"))), (.var 3), (.var 4), (.bin .Mod (.var 3) (.idx (.var 1) (.cnst (Lt.str (Str.ofString "count")))))])) :: f_law_word.drop 3) [some (.int c), some (.ref O.p), some (.int b), some (.int k), some (.str (row b (c / 6 % 3))), none]) m1 (bR4 fun u m' => ∃ w : Wo, u = w.v /\ Le m m' /\ (0 <= w.h /\ w.h < s.cnt) /\ (w.k = eM -> w.h ≠ s.own)) nox := fun k => by
   refine bG (aH (bK5 rfl rfl rfl (bN rfl (aT rfl rfl (aG kd1 rfl rfl rfl)) (aL7 h0))) ?_)
   exact ⟨⟨fP, k, row b (c / 6 % 3), k % s.cnt⟩, rfl, l1, ⟨md0 h0, md1 h0⟩, fun e => absurd e aN6⟩
  cases (c / 2 % 3 % s.cnt == s.own) with
  | true => exact bC (aC rfl (fin _))
  | false => exact fin _
 | false =>
  show Wp (exs _ _ (_ :: _ :: _) _) m1 _ _
  refine bC (aH (bN rfl (aT rfl rfl (aG kd1 rfl rfl rfl)) (aL7 h0)) ?_)
  refine cJ (aS (aQ (t := c / 18 % s.cnt == s.own) rfl (aT rfl rfl (aG kd1 rfl rfl rfl)) rfl)) ?_
  have fin : ∀ k : Int, 0 <= k -> k < s.cnt -> k ≠ s.own -> Wp (exs S6 (run S6 (n + 1)) (f_law_word.drop 5) [some (.int c), some (.ref O.p), some (.int b), some (.int (c / 2 % 3)), some (.str (row b (c / 6 % 3))), some (.int k)]) m1 (bR4 fun u m' => ∃ w : Wo, u = w.v /\ Le m m' /\ (0 <= w.h /\ w.h < s.cnt) /\ (w.k = eM -> w.h ≠ s.own)) nox := fun k a1 a2 a3 => by
   refine bG (aH (bK5 rfl rfl rfl rfl) ?_)
   exact ⟨⟨eM, c / 2 % 3, row b (c / 6 % 3), k⟩, rfl, l1, ⟨a1, a2⟩, fun y_ => a3⟩
  cases y : (c / 18 % s.cnt == s.own) with
  | true =>
   have y := eq_of_beq y
   refine bC (aH (bN rfl (aT rfl rfl (aG kd1 rfl rfl rfl)) (aL7 h0)) (fin _ (md0 h0) (md1 h0) fun e => ?_))
   rw [y] at e
   by_cases q : s.own + 1 < s.cnt
   ·rw [Int.emod_eq_of_lt (by omega) q] at e; omega
   ·have : s.own + 1 = s.cnt := by omega
    rw [this, Int.emod_self] at e; omega
  | false => exact fin _ (md0 h0) (md1 h0) (beq_eq_false_iff_ne.mp y)
end
end P06
end Mini
namespace Mini
open PySem
namespace P06
open C06
theorem aL9 {s : Hs} {w : Wo} (I : Fit s) (h0 : 0 <= w.h /\ w.h < s.cnt) (hm : w.k = eM -> w.h ≠ s.own) (ho : 0 <= s.own /\ s.own < s.cnt) (nd : (s.rows.map (·.1)).Nodup) : Fit (s.hear w).1 /\ ((s.hear w).1.rows.map (·.1)).Nodup /\ (s.hear w).1.rows.length <= s.rows.length + 1 := by
 by_cases z : w ∈ s.known
 ·have e : s.hear w = (s, []) := by unfold Hs.hear; rw [if_pos z]
  rw [e]; exact ⟨I, nd, Nat.le_succ _⟩
 ·have X := bB7 I z h0 hm ho
  refine ⟨X.fit, ?_, ?_⟩
  ·rw [X.rows]
   unfold aN7
   by_cases y : aA3 s w
   ·rw [if_pos y, List.map_append]
    refine List.nodup_append.mpr ⟨nd, List.nodup_cons.mpr ⟨List.not_mem_nil, List.nodup_nil⟩, fun a ha b hb e => ?_⟩
    rw [List.mem_singleton.mp hb] at e
    have := wrote_iff.mpr (e ▸ ha)
    rw [y.1] at this; cases this
   ·rw [if_neg y]; exact nd
  ·rw [X.rows]
   unfold aN7
   by_cases y : aA3 s w
   ·rw [if_pos y, List.length_append]; exact Nat.le_refl _
   ·rw [if_neg y]; exact Nat.le_succ _
structure Sd (m : MH) (D : Hd) (O : Od) (s : Hs) (c : Int) : Prop where
 ho : Ho m N6.C D s
 ow : Ow m O s
 fit : Fit s
 c1 : 1 <= s.cnt
 c2 : s.cnt <= 12
 o : 0 <= s.own /\ s.own < s.cnt
 on : s.onw = s.own + s.cnt * c
 nd : (s.rows.map (·.1)).Nodup
 ap : ∀ x ∈ D.all, x ∉ O.all
noncomputable def reg (D : Hd) (O : Od) : List Nat := D.all ++ O.all
section
variable {m m' : MH} {D : Hd} {O : Od} {s : Hs} {c : Int}
theorem Sd.mod {T : List Nat} (h : Sd m D O s c) (l : Mod T m m') (ht : ∀ x ∈ reg D O, x ∉ T) : Sd m' D O s c :=
 { h with ho := h.ho.mod l fun x hx => ht x (List.mem_append_left _ hx), ow := Seg.mod h.ow l fun x hx => ht x (List.mem_append_right _ hx) }
theorem Sd.lt (h : Sd m D O s c) : ∀ x ∈ reg D O, x < m.length := fun x hx => (List.mem_append.mp hx).elim (h.ho.lt x) (Seg.lt h.ow x)
inductive Did (m : MH) (D : Hd) (O : Od) (s : Hs) (c : Int) (u : V) (m' : MH) : Prop
 | mk (D' : Hd) (O' : Od) (s' : Hs) (t : List Wo) (q1 q2 : Nat) (e : u = .tup [.ref q1, .ref q2]) (sd : Sd m' D' O' s' c) (k1 : m'[q1]? = some (.list (t.map Wo.v))) (k2 : m'[q2]? = some (.list (t.map Wo.v)))
  (ne : q1 ≠ q2) (g1 : m.length <= q1) (g2 : m.length <= q2) (o1 : q1 ∉ reg D' O') (o2 : q2 ∉ reg D' O') (md : Mod (D.foot ++ O.foot) m m') (rg : ∀ x ∈ reg D' O', x ∈ reg D O \/ m.length <= x) (pD : D'.p = D.p) (pO : O'.p = O.p)
  (hc : s'.cnt = s.cnt) (sz : s'.sz <= s.sz + 5) (rl : s'.rows.length <= s.rows.length + 1) (tl : t.length <= 16)
theorem aY3 {D : Hd} {l : List Nat} {x : Nat} (h : x ∈ (D.ext l).all) : x ∈ D.all \/ x ∈ l := by
 have h : x ∈ D.foot ++ (D.bs ++ l) := h
 rw [<- List.append_assoc] at h
 exact List.mem_append.mp h
theorem aP3 {O : Od} {l : List Nat} {x : Nat} (h : x ∈ (O.ext l).all) : x ∈ O.all \/ x ∈ l := by
 rw [Od.ext_all] at h; exact List.mem_append.mp h
theorem aF0 {D : Hd} {x : Nat} (h : x ∈ D.foot) : x ∈ D.all := List.mem_append_left _ h
theorem dM {O : Od} {x : Nat} (h : x ∈ O.foot) : x ∈ O.all := List.mem_append_left _ h
theorem cD5 {m0 m2 m3 m4 m5 : MH} {s' : Hs} {t : List Wo} {c' : Int} {q1 q2 : Nat} {l l' : List Nat} (h : Sd m D O s c) (L0 : Le m m0) (k1 : m2[q1]? = some (.list (t.map Wo.v))) (g1 : m0.length <= q1) (o1 : q1 ∉ (D.ext l).all) (h2 : Ho m2 N6.C (D.ext l) s') (M2 : Mod D.foot m0 m2) (yl : ∀ y ∈ l, m0.length <= y)
  (L3 : Le m2 m3) (h4 : Ow m4 (O.ext l') s') (M4 : Mod O.foot m3 m4) (yl' : ∀ y ∈ l', m3.length <= y) (L5 : Le m4 m5) (k2 : m5[q2]? = some (.list (t.map Wo.v))) (g2 : m3.length <= q2) (o2 : q2 ∉ (O.ext l').all)
  (fit : Fit s') (hc : s'.cnt = s.cnt) (hw : s'.own = s.own) (on : s'.onw = s'.own + s'.cnt * c') (nd : (s'.rows.map (·.1)).Nodup) (sz : s'.sz <= s.sz + 5) (rl : s'.rows.length <= s.rows.length + 1) (tl : t.length <= 16) :
  ∃ D' O', D'.p = D.p /\ O'.p = O.p /\ Sd m5 D' O' s' c' /\ m5[q1]? = some (.list (t.map Wo.v)) /\ q1 ≠ q2 /\ m.length <= q1 /\ m.length <= q2 /\ q1 ∉ reg D' O' /\ q2 ∉ reg D' O' /\ Mod (D.foot ++ O.foot) m m5 /\ ∀ x ∈ reg D' O', x ∈ reg D O \/ m.length <= x := by
 have a0 := L0.1
 have a2 := M2.1
 have a3 := L3.1
 have lt1 : q1 < m3.length := Nat.lt_of_lt_of_le (aO k1) a3
 have fresh : ∀ {x : Nat}, x ∈ D.all -> x < m0.length := fun hx => Nat.lt_of_lt_of_le (h.ho.lt _ hx) a0
 have frO : ∀ {x : Nat}, x ∈ O.all -> x < m0.length := fun hx => Nat.lt_of_lt_of_le (Seg.lt h.ow _ hx) a0
 have le03 : m0.length <= m3.length := Nat.le_trans a2 a3
 have lD : ∀ {x : Nat}, x ∈ (D.ext l).all -> x < m2.length := fun hx => h2.lt _ hx
 have dD : ∀ x ∈ (D.ext l).all, x ∉ O.foot := fun x hx c => by
  rcases aY3 hx with hx | hx
  ·exact h.ap x hx (dM c)
  ·exact Nat.not_lt.mpr (yl x hx) (frO (dM c))
 have h5 : Ho m5 N6.C (D.ext l) s' := ((h2.le L3).mod M4 dD).le L5
 have o5 := Seg.le h4 L5
 have n1 : q1 ∉ O.foot := fun c => Nat.not_lt.mpr g1 (frO (dM c))
 refine ⟨D.ext l, O.ext l', rfl, rfl, ⟨h5, o5, fit, hc ▸ h.c1, hc ▸ h.c2, by rw [hc, hw]; exact h.o, on, nd, fun x hx c => ?_⟩, L5.has (M4.has (L3.has k1) n1), fun e => Nat.not_lt.mpr g2 (e ▸ lt1), Nat.le_trans a0 g1, Nat.le_trans a0 (Nat.le_trans le03 g2), fun c => ?_, fun c => ?_, ?_, fun x hx => ?_⟩
 ·rcases aP3 c with c | c
  ·rcases aY3 hx with hx | hx
   ·exact h.ap x hx c
   ·exact Nat.not_lt.mpr (yl x hx) (frO c)
  ·exact Nat.not_lt.mpr (yl' x c) (Nat.lt_of_lt_of_le (lD hx) a3)
 ·rcases List.mem_append.mp c with c | c
  ·exact o1 c
  ·rcases aP3 c with c | c
   ·exact Nat.not_lt.mpr g1 (frO c)
   ·exact Nat.not_lt.mpr (yl' _ c) lt1
 ·rcases List.mem_append.mp c with c | c
  ·exact Nat.not_lt.mpr g2 (Nat.lt_of_lt_of_le (lD c) a3)
  ·exact o2 c
 ·exact (L0.mod.trans (M2.mono fun x hx => List.mem_append_left _ hx)).trans ((L3.mod.trans (M4.mono fun x hx => List.mem_append_right _ hx)).trans L5.mod)
 ·rcases List.mem_append.mp hx with hx | hx
  ·rcases aY3 hx with hx | hx
   ·exact .inl (List.mem_append_left _ hx)
   ·exact .inr (Nat.le_trans a0 (yl x hx))
  ·rcases aP3 hx with hx | hx
   ·exact .inl (List.mem_append_right _ hx)
   ·exact .inr (Nat.le_trans a0 (Nat.le_trans le03 (yl' x hx)))
theorem aQ6 {p : Hs × List Wo} {x : Mn V} {Q : V -> MH -> Prop} {E : Nat -> MH -> Prop} (h : Wp x m (cP3 m O p) nox) (k : ∀ m' q l, m'[q]? = some (.list (p.2.map Wo.v)) -> m.length <= q -> q ∉ (O.ext l).all -> Ow m' (O.ext l) p.1 -> Mod O.foot m m' -> (∀ y ∈ l, m.length <= y) -> Q (.ref q) m') : Wp x m Q E :=
 dX h fun y_ m' ⟨q, l, e, k1, k2, k3, k4, k5, k6⟩ => e ▸ k m' q l k1 k2 k3 k4 k5 k6
noncomputable def calls (s : Hs) (cell : Int) : Bool := cell % 16 == 5 || s.cnt == 1
theorem cO1 (n : Nat) (cell b : Int) (h : Sd m D O s c) (hl : s.sz + 20 < lid) : Wp (run S6 (n + 8) 26 [.ref D.p, .ref O.p, .int cell, .int b, .int c]) m (Did m D O s (c + if calls s cell then 1 else 0)) nox := by
 obtain ⟨ed, kd⟩ := Ow.dic h.ow
 have h8 : s.sz + 8 < lid := Nat.lt_of_le_of_lt (Nat.add_le_add_left (show 8 <= 20 by decide) _) hl
 have h12 : s.sz + 12 < lid := Nat.lt_of_le_of_lt (Nat.add_le_add_left (show 12 <= 20 by decide) _) hl
 have ec : evT S6 (run S6 (n + 7)) (.all false [(.val (.cmp (.bin .Mod (.var 2) (.cnst (Lt.int 16))) [.Eq] [(.cnst (Lt.int 5))])), (.val (.cmp (.idx (.var 1) (.cnst (Lt.str (Str.ofString "count")))) [.Eq] [(.cnst (Lt.int 1))]))]) [some (.ref D.p), some (.ref O.p), some (.int cell), some (.int b), some (.int c), none, none, none] m = .ok (calls s cell) m := by
  have e := fC (b0 (x := cell % 16 == 5) (aS (aQ (S := S6) (F := run S6 (n + 7)) (r := [some (.ref D.p), some (.ref O.p), some (.int cell), some (.int b), some (.int c), none, none, none]) (m := m) (a := .bin .Mod (.var 2) (.cnst (Lt.int 16))) (o := .Eq) (b := .cnst (Lt.int 5)) rfl rfl rfl)) (b0 (x := s.cnt == 1) (aS (aQ (o := .Eq) (b := .cnst (Lt.int 1)) (aT (a := .var 1) (b := .cnst (Lt.str (Str.ofString "count"))) rfl rfl (aG kd rfl rfl rfl)) rfl rfl)) aA9))
  rw [Bool.or_false] at e
  exact e
 refine cE cX0 rfl (cJ ec ?_)
 cases z : calls s cell with
 | true =>
  show Wp (exs _ _ (_ :: _ :: _ :: _) _) m _ _
  refine bC (dC (aC rfl (dX (cB4 cW8 (n + 6) b (cell / 16 % 4) m) fun v m0 q => ?_)))
  obtain ⟨rfl, L0⟩ := q
  have kd0 := L0.has kd
  have h0 := h.ho.le L0
  have mu : bF6 .Mult (.int s.cnt) (.int c) m0 = .ok (.int (s.cnt * c)) m0 := bM0 (.inl (by have := h.c1; have := h.c2; omega))
  refine bC (aH (bN (aT rfl rfl (aG kd0 rfl rfl rfl)) (bN (aT rfl rfl (aG kd0 rfl rfl rfl)) rfl mu) rfl) ?_)
  rw [<- h.on]
  refine bC (aH (bK5 rfl rfl rfl (aT rfl rfl (aG kd0 rfl rfl rfl))) ?_)
  refine bG (dL (aD (bL (aC rfl ⟨D.p, 6, _, _, 7, rfl, h0.inst, rfl, rfl, rfl, aC rfl (dI (cO3 hf n (row b (cell / 16 % 4)) h0 (bK2 _ _) (Nat.le_trans (cH9 _ _).2 (by decide)) h.c1 h.c2 h8) fun m2 q1 l k1 g1 o1 h2 M2 yl => ?_)⟩))))
  have rows : (s.call (row b (cell / 16 % 4))) = ((({ s with onw := s.onw + s.cnt } : Hs).hear ⟨fP, s.onw, row b (cell / 16 % 4), s.own⟩).1, ⟨fP, s.onw, row b (cell / 16 % 4), s.own⟩ :: (({ s with onw := s.onw + s.cnt } : Hs).hear ⟨fP, s.onw, row b (cell / 16 % 4), s.own⟩).2) := rfl
  rw [rows] at k1 h2
  dsimp only at k1 h2
  have F1 : Fit { s with onw := s.onw + s.cnt } := bB8 h.fit rfl rfl rfl rfl
  have K := aL9 (w := ⟨fP, s.onw, row b (cell / 16 % 4), s.own⟩) F1 h.o (fun e => absurd e aN6) h.o h.nd
  have C := aO9 { s with onw := s.onw + s.cnt } ⟨fP, s.onw, row b (cell / 16 % 4), s.own⟩
  have O2 : Ow m2 O { s with onw := s.onw + s.cnt } := Ow.same (Seg.mod (Seg.le h.ow L0) M2 fun x hx c => h.ap x (aF0 c) hx) rfl rfl rfl rfl rfl
  refine aD (aL1 (aW (aD (aC rfl (aF (aK fun q3 m3 L3 k3 g3 => ?_))))))
  refine dC (aC rfl (aQ6 (aS7 (n + 6) ⟨fP, s.onw, row b (cell / 16 % 4), s.own⟩ (Seg.le O2 L3) F1 h.o (fun e => absurd e aN6) h.o h.c2 h12) fun m4 q4 l' k4 g4 o4 h4 M4 yl' => ?_))
  have tl : (({ s with onw := s.onw + s.cnt } : Hs).hear ⟨fP, s.onw, row b (cell / 16 % 4), s.own⟩).2.length <= 15 := Nat.le_trans C.2.2.2.2 (Nat.add_le_add_right (aK3 (show s.cnt <= 12 from h.c2)) 3)
  have eon : (({ s with onw := s.onw + s.cnt } : Hs).hear ⟨fP, s.onw, row b (cell / 16 % 4), s.own⟩).1.onw = (({ s with onw := s.onw + s.cnt } : Hs).hear ⟨fP, s.onw, row b (cell / 16 % 4), s.own⟩).1.own + (({ s with onw := s.onw + s.cnt } : Hs).hear ⟨fP, s.onw, row b (cell / 16 % 4), s.own⟩).1.cnt * (c + 1) := by
   rw [C.2.2.1, C.1, C.2.1]
   show s.onw + s.cnt = s.own + s.cnt * (c + 1)
   rw [h.on, Int.mul_add, Int.mul_one, Int.add_assoc]
  have n3 : q3 ∉ O.foot := fun c => Seg.out O2 g3 (dM c)
  refine aK2 (M4.has k3 n3) k4 (bM (k := 16) (by rw [List.length_map]; exact Nat.add_le_add (show 1 <= 1 by decide) tl) (by decide)) fun q5 m5 L5 k5 g5 => aF ?_
  obtain ⟨D', O', p1, p2, p3, p4, p5, p6, p7, p8, p9, p10, p11⟩ := cD5 (t := ⟨fP, s.onw, row b (cell / 16 % 4), s.own⟩ :: (({ s with onw := s.onw + s.cnt } : Hs).hear ⟨fP, s.onw, row b (cell / 16 % 4), s.own⟩).2) (c' := c + 1) (q2 := q5) (s' := (({ s with onw := s.onw + s.cnt } : Hs).hear ⟨fP, s.onw, row b (cell / 16 % 4), s.own⟩).1) h L0 k1 g1 o1 h2 M2 yl L3 h4 M4 yl' L5 k5 (Nat.le_trans M4.1 g5) (Seg.out h4 g5) K.1 C.1 C.2.1 eon K.2.1 (C.2.2.2.1) K.2.2 (Nat.succ_le_succ tl)
  exact .mk D' O' _ _ q1 q5 rfl p3 p4 k5 p5 p6 p7 p8 p9 p10 p11 p1 p2 C.1 C.2.2.2.1 K.2.2 (Nat.succ_le_succ tl)
 | false =>
  show Wp (exs _ _ (_ :: _) _) m _ _
  have c2 : 2 <= s.cnt := by
   have := h.c1
   have : s.cnt ≠ 1 := fun e => by unfold calls at z; rw [e, Bool.or_eq_false_iff] at z; exact absurd z.2 (by decide)
   omega
  refine bC (dC (aC rfl (dX (cG0 (n + 5) (c := cell / 16) (b := b) h.ow c2 h.o) fun u m0 q => ?_)))
  obtain ⟨w, rfl, L0, hw, hm⟩ := q
  have h0 := h.ho.le L0
  refine bG (dL (aD (bL (aC rfl ⟨D.p, 6, _, _, 8, rfl, h0.inst, rfl, rfl, rfl, aC rfl (dI (bN9 hf (n + 1) w h0 h.c1 h.c2 h8) fun m2 q1 l k1 g1 o1 h2 M2 yl => ?_)⟩))))
  have K := aL9 (w := w) h.fit hw hm h.o h.nd
  have C := aO9 s w
  have O2 : Ow m2 O s := Seg.mod (Seg.le h.ow L0) M2 fun x hx c => h.ap x (aF0 c) hx
  refine aD (dC (aC rfl (aQ6 (aS7 (n + 6) w O2 h.fit hw hm h.o h.c2 h12) fun m4 q4 l' k4 g4 o4 h4 M4 yl' => aF ?_)))
  have tl : (s.hear w).2.length <= 16 := Nat.le_succ_of_le (Nat.le_trans C.2.2.2.2 (Nat.add_le_add_right (aK3 h.c2) 3))
  obtain ⟨D', O', p1, p2, p3, p4, p5, p6, p7, p8, p9, p10, p11⟩ := cD5 (t := (s.hear w).2) (c' := c + 0) (q2 := q4) (s' := (s.hear w).1) h L0 k1 g1 o1 h2 M2 yl (.refl _) h4 M4 yl' (.refl _) k4 g4 o4 K.1 C.1 C.2.1 (by rw [C.2.2.1, C.1, C.2.1, Int.add_zero]; exact h.on) K.2.1 C.2.2.2.1 K.2.2 tl
  exact .mk D' O' _ _ q1 q4 rfl p3 p4 k4 p5 p6 p7 p8 p9 p10 p11 p1 p2 C.1 C.2.2.2.1 K.2.2 tl
end
end P06
end Mini
namespace Mini
open PySem
section
variable {m m' : MH} {q : Nat}
theorem bM5 {kvs : List (Ky × V)} {e : Nat} {is : List Int} (hq : m[q]? = some (.dict kvs e)) (hk : bX kvs = some is) : biV .list [.ref q] m = alloc (.list (is.map .int)) m := by
 unfold biV; dsimp only; rw [hq]; dsimp only; rw [hk]
theorem list_list {xs : List V} (hq : m[q]? = some (.list xs)) : biV .list [.ref q] m = alloc (.list xs) m := by
 unfold biV; dsimp only; rw [hq]
theorem dict_dict {kvs : List (Ky × V)} {e : Nat} (hq : m[q]? = some (.dict kvs e)) (hk : aB3 kvs = true) : biV .dict [.ref q] m = alloc (.dict kvs 0) m := by
 unfold biV; dsimp only; rw [hq]; dsimp only; rw [if_pos hk]
theorem aV3 {xs : List V} {Q : V -> MH -> Prop} {E : Nat -> MH -> Prop} (h : m[q]? = some (.list xs)) (k : Q .none (m.set q (.list []))) : Wp (cW 0 (.ref q) .clear []) m Q E := by
 refine aH (m' := m.set q (.list [])) ?_ k
 show (match m[q]? with | some (.list xs) => bM6 q xs .clear [] m | _ => .bad) = _
 rw [h]; rfl
theorem Mod.new {T : List Nat} (h : Mod T m m') (hq : m.length <= q) (o : MObj) : Mod T m (m'.set q o) :=
 ⟨by rw [List.length_set]; exact h.1, fun p hp hn => by rw [List.getElem?_set_ne (fun e => Nat.not_lt.mpr hq (by rw [e]; exact hp))]; exact h.2 p hp hn⟩
theorem cI2 (l : List Int) : ∀ x ∈ l.map V.int, Rf x := fun x hx => by
 obtain ⟨i, y_, rfl⟩ := List.mem_map.mp hx
 exact cS9 i
end
namespace P06
open C06
noncomputable def pv (p : Nat × Nat) : V := .tup [.ref p.1, .ref p.2]
noncomputable def Twin (m : MH) (p : Nat × Nat) : Prop := p.1 ≠ p.2 /\ ((∃ xs, m[p.1]? = some (.list xs) /\ m[p.2]? = some (.list xs) /\ ∀ x ∈ xs, Rf x) \/ ∃ l e e', m[p.1]? = some (.dict (aV1 l) e) /\ m[p.2]? = some (.dict (aV1 l) e'))
theorem Twin.mod {T : List Nat} {m m' : MH} {p : Nat × Nat} (h : Twin m p) (M : Mod T m m') (h1 : p.1 ∉ T) (h2 : p.2 ∉ T) : Twin m' p :=
 ⟨h.1, h.2.imp (fun ⟨xs, a, b, c⟩ => ⟨xs, M.has a h1, M.has b h2, c⟩) fun ⟨l, e, e', a, b⟩ => ⟨l, e, e', M.has a h1, M.has b h2⟩⟩
theorem Twin.eq {m : MH} {p : Nat × Nat} (h : Twin m p) : eqV (.ref p.1) (.ref p.2) m = .ok true m := by
 rcases h.2 with ⟨xs, a, b, c⟩ | ⟨l, e, e', a, b⟩
 ·exact aJ8 c a b
 ·exact bC0 a b h.1 rfl (aC2 _ _ _) (aC2 _ _ _) bW0
structure New (m : MH) (hp : Nat) (xs : List V) (m' : MH) (ps : List (Nat × Nat)) : Prop where
 obj : m'[hp]? = some (.list (xs ++ ps.map pv))
 tw : ∀ p ∈ ps, Twin m' p /\ m.length <= p.1 /\ m.length <= p.2
 md : Mod [hp] m m'
section
variable {m m' m'' : MH} {hp : Nat} {xs : List V} {ps : List (Nat × Nat)}
theorem New.mod (h : New m hp xs m' ps) (hl : hp < m.length) (M : Mod [] m' m'') : New m hp xs m'' ps :=
 ⟨M.has h.obj List.not_mem_nil, fun p hq => ⟨(h.tw p hq).1.mod M List.not_mem_nil List.not_mem_nil, (h.tw p hq).2⟩, h.md.trans (M.mono fun y_ q => nomatch q)⟩
theorem New.add (h : New m hp xs m' ps) (hl : hp < m.length) {a b : Nat} (t : Twin m' (a, b)) (ha : m.length <= a) (hb : m.length <= b) : New m hp xs (m'.set hp (.list (xs ++ ps.map pv ++ [pv (a, b)]))) (ps ++ [(a, b)]) := by
 have M : Mod [hp] m' (m'.set hp (.list (xs ++ ps.map pv ++ [pv (a, b)]))) := Mod.set (.head _)
 have out : ∀ {x : Nat}, m.length <= x -> x ∉ [hp] := fun hx c => Nat.not_lt.mpr hx (List.mem_singleton.mp c ▸ hl)
 refine ⟨?_, fun p hq => ?_, h.md.trans M⟩
 ·rw [List.map_append, <- List.append_assoc]; exact bB h.obj
 ·rcases List.mem_append.mp hq with hq | hq
  ·obtain ⟨t, g1, g2⟩ := h.tw p hq
   exact ⟨t.mod M (out g1) (out g2), g1, g2⟩
  ·rw [List.mem_singleton.mp hq]
   exact ⟨t.mod M (out ha) (out hb), ha, hb⟩
variable {D : Hd} {O : Od} {s : Hs} {c : Int}
theorem Sd.new (h : Sd m D O s c) (N : New m hp xs m' ps) (ho : hp ∉ reg D O) : Sd m' D O s c := h.mod N.md fun x hx c => ho (List.mem_singleton.mp c ▸ hx)
inductive BInv (m : MH) (D : Hd) (O : Od) (s : Hs) (hp : Nat) (xs : List V) (a e b : Nat) (zs : List Int) (r : Lo) (m' : MH) : Prop
 | mk (x y : Option V) (ps : List (Nat × Nat)) (er : r = [some (.ref D.p), some (.ref O.p), some (.ref hp), some (.ref a), some (.ref b), x, y]) (N : New m hp xs m' ps) (ka : m'[a]? = some (.dict (aV1 s.rows) e)) (hl : ps.length + zs.length <= 66) (hw : ∀ z ∈ zs, s.wrote z = true)
theorem cT6 (n : Nat) {a b e : Nat} {ps : List (Nat × Nat)} {x5 x6 : Option V} (h : Sd m D O s c) (ho : hp ∉ reg D O) (hl : hp < m.length) (lx : xs.length + 100 < lid) (N : New m hp xs m' ps) (ka : m'[a]? = some (.dict (aV1 s.rows) e)) (ga : m.length <= a) (hr : s.rows.length < 64) (hps : ps.length <= 2) :
  Wp (exs S6 (run S6 (n + 4)) (f_law_state.drop 8) [some (.ref D.p), some (.ref O.p), some (.ref hp), some (.ref a), some (.ref b), x5, x6]) m' (bR4 fun u m' => u = .bool true /\ ∃ ps, ps.length <= 66 /\ New m hp xs m' ps) nox := by
 have kv : (aV1 s.rows).map (fun x => x.1.val) = (sortI (s.rows.map (·.1))).map V.int := by unfold aV1 tD; rw [List.map_map]; rfl
 refine aG5 (sortI (s.rows.map (·.1))) V.int (BInv m D O s hp xs a e b) (aD (aC rfl (aF (aH (aZ7 ka) ⟨kv, .mk x5 x6 ps rfl N ka (by rw [b8, List.length_map]; omega) fun z hz => wrote_iff.mpr (mem_sortI.mp hz), ?_, ?_, ?_⟩))))
 ·rintro _ _ m' ⟨_, _, _, _, _, ka, _, _⟩; exact bJ0 ka
 ·rintro i zs r m1 ⟨x, y, ps, rfl, N, ka, hlen, hw⟩
  have hi := hw i (.head _)
  have S1 := h.new N ho
  have g1 : m.length <= m1.length := N.md.1
  refine aC rfl (bC (bL (aC rfl ⟨D.p, 6, _, _, 13, rfl, S1.ho.inst, rfl, rfl, rfl, aC rfl (aH (e9 hf (n + 2) S1.ho hi) ?_)⟩)))
  have L2 : Le m1 (m1 ++ [.list ((fE s.rows i).map Wo.v)]) := .app _ _
  have k2 : (m1 ++ [MObj.list ((fE s.rows i).map Wo.v)])[m1.length]? = some (.list ((fE s.rows i).map Wo.v)) := bI
  generalize m1 ++ [MObj.list ((fE s.rows i).map Wo.v)] = m2 at L2 k2 ⊢
  have O2 := Seg.le S1.ow L2
  obtain ⟨ed, kd⟩ := Ow.dic O2
  obtain ⟨qb, ib, kb⟩ := bL6 O2 hi
  refine cJ (fC (b0 (x := false) (dA (aS (bT rfl (aZ1 (n + 2) k2)))) (b0 (x := false) (aS (aQ rfl (aT (aT rfl rfl (aG kd rfl rfl rfl)) rfl ib) (cK (aJ8 (eW _) k2 kb)))) aA9))) ?_
  show Wp (exs _ _ (_ :: _) _) m2 _ _
  have N2 := N.mod hl L2.mod
  refine eH (bH (aC rfl ⟨0, aD7 N2.obj, rfl, aD (dL (aD (aC rfl (aD (aD8 (aD (aC rfl (aF (cZ (list_list k2) (aK fun q3 m3 L3 k3 g3 => aF (aF ?_)))))))))))⟩))
  have N3 := N2.mod hl L3.mod
  refine cF N3.obj (by rw [List.length_append, List.length_map]; have : (i :: zs).length = zs.length + 1 := rfl; omega) ?_
  have k2' := L3.has k2
  have lt2 := aO k2
  have N4 := N3.add hl (a := m1.length) (b := q3) ⟨fun e => Nat.not_lt.mpr g3 ((show m1.length = q3 from e) ▸ lt2), .inl ⟨_, k2', k3, eW _⟩⟩ g1 (Nat.le_trans g1 (Nat.le_trans L2.1 g3))
  have na : hp ≠ a := Nat.ne_of_lt (Nat.lt_of_lt_of_le hl ga)
  have ka4 := aJ (o' := .list (xs ++ ps.map pv ++ [pv (m1.length, q3)])) na (L3.has (L2.has ka))
  have k24 := aJ (o' := .list (xs ++ ps.map pv ++ [pv (m1.length, q3)])) (Nat.ne_of_lt (Nat.lt_of_lt_of_le hl g1) : hp ≠ m1.length) k2'
  have g4 : m1.length <= (m3.set hp (.list (xs ++ ps.map pv ++ [pv (m1.length, q3)]))).length := by rw [List.length_set]; exact (L2.trans L3).1
  show Wp (exs _ _ _ _) (m3.set hp (.list (xs ++ ps.map pv ++ [pv (m1.length, q3)]))) _ _
  generalize m3.set hp (.list (xs ++ ps.map pv ++ [pv (m1.length, q3)])) = m4 at N4 ka4 k24 g4 ⊢
  have S4 := h.new N4 ho
  refine eH (bH (bL (aC rfl ⟨D.p, 6, _, _, 13, rfl, S4.ho.inst, rfl, rfl, rfl, aC rfl (aH (e9 hf (n + 2) S4.ho hi) ⟨0, aD7 bI, rfl, aF (aV3 bI ?_)⟩)⟩)))
  have M5 : Mod [] m4 ((m4 ++ [MObj.list ((fE s.rows i).map Wo.v)]).set m4.length (.list [])) := (Le.app m4 _).mod.new (Nat.le_refl _) _
  generalize (m4 ++ [MObj.list ((fE s.rows i).map Wo.v)]).set m4.length (.list []) = m5 at M5 ⊢
  have N5 := N4.mod hl M5
  have S5 := h.new N5 ho
  refine aG4 (fJ (fK (bL (aC rfl ⟨D.p, 6, _, _, 13, rfl, S5.ho.inst, rfl, rfl, rfl, aC rfl (aH (e9 hf (n + 2) S5.ho hi) ?_)⟩))))
  have L6 : Le m5 (m5 ++ [.list ((fE s.rows i).map Wo.v)]) := .app _ _
  refine aC rfl (aH (cK (aJ8 (eW _) bI (L6.has (M5.has k24 List.not_mem_nil)))) (aC rfl ?_))
  refine aJ1 (.mk _ _ (ps ++ [(m1.length, q3)]) rfl (N5.mod hl L6.mod) (L6.has (M5.has ka4 List.not_mem_nil)) ?_ fun z hz => hw z (.tail _ hz))
  rw [List.length_append]
  have : (i :: zs).length = zs.length + 1 := rfl
  have : ([(m1.length, q3)] : List (Nat × Nat)).length = 1 := rfl
  omega
 ·rintro r m1 ⟨x, y, ps, rfl, N, ka, hlen, hw⟩
  exact bG (aC rfl ⟨rfl, ps, Nat.le_trans (Nat.le_add_right _ _) hlen, N⟩)
end
end P06
end Mini
namespace Mini
open PySem
namespace P06
open C06
section
variable {m m' m'' : MH} {hp : Nat} {xs : List V} {ps : List (Nat × Nat)} {D : Hd} {O : Od} {s : Hs} {c : Int}
theorem cT7 (n : Nat) {a b e : Nat} {x5 x6 : Option V} (h : Sd m D O s c) (ho : hp ∉ reg D O) (hl : hp < m.length) (lx : xs.length + 100 < lid) (N : New m hp xs m' ps) (ka : m'[a]? = some (.dict (aV1 s.rows) e)) (ga : m.length <= a) (hr : s.rows.length < 64) (hps : ps.length <= 2) :
  Wp (exs S6 (run S6 (n + 4)) (f_law_state.drop 7) [some (.ref D.p), some (.ref O.p), some (.ref hp), some (.ref a), some (.ref b), x5, x6]) m' (bR4 fun u m' => u = .bool true /\ ∃ ps, ps.length <= 66 /\ New m hp xs m' ps) nox := by
 have S1 := h.new N ho
 obtain ⟨ed, kd⟩ := Ow.dic S1.ow
 obtain ⟨er, kr⟩ := Ow.ro S1.ow
 refine aG5 [0, 1, 2, 3] V.int (fun y_ r m2 => m2 = m' /\ ∃ x, r = [some (.ref D.p), some (.ref O.p), some (.ref hp), some (.ref a), some (.ref b), x, x6]) (aD (aC rfl (aF (aC rfl ⟨rfl, ⟨rfl, x5, rfl⟩, fun y_ y_ y_ y_ => rfl, ?_, ?_⟩))))
 ·rintro i zs r m2 ⟨rfl, x, rfl⟩
  have e1 : aA2 .NotIn (.int i) (.ref O.b) m2 = .ok (!(s.wrote i)) m2 := by
   show (inV (.int i) (.ref O.b) m2).bind _ = _
   rw [bK kr rfl (aZ _ _ _ _), dK, cS]; rfl
  refine aC rfl (aG4 (aL0 (bP (aH (aS (aQ rfl (aT rfl rfl (aG kd rfl rfl rfl)) e1)) ?_))))
  cases z : s.wrote i with
  | true =>
   refine aP6 ?_
   exact aJ1 ⟨rfl, _, rfl⟩
  | false =>
   refine aB4 (bP (aH (dA (aS (aO0 rfl (aQ5 (n + 1) S1.ho z)))) ?_))
   refine aP6 ?_
   exact aJ1 ⟨rfl, _, rfl⟩
 ·rintro r m2 ⟨rfl, x, rfl⟩
  exact cT6 n h ho hl lx N ka ga hr hps
theorem bT7 (n : Nat) (h : Sd m D O s c) (ho : hp ∉ reg D O) (hk : m[hp]? = some (.list xs)) (lx : xs.length + 100 < lid) (hr : s.rows.length < 64) (hz : s.sz + 20 < lid) : Wp (run S6 (n + 5) 24 [.ref D.p, .ref O.p, .ref hp]) m (fun u m' => u = .bool true /\ ∃ ps, ps.length <= 66 /\ New m hp xs m' ps) nox := by
 have hl := aO hk
 refine cE cM9 rfl (bC (bL (aC rfl ⟨D.p, 6, _, _, 12, rfl, h.ho.inst, rfl, rfl, rfl, aC rfl (bM8 (aS4 hf (n + 3) h.ho hr) fun m1 a e k1 g1 L1 => ?_)⟩)))
 rw [cC6 h.nd] at k1
 have h1 := h.ho.le L1
 refine bC (bL (aC rfl ⟨D.p, 6, _, _, 14, rfl, h1.inst, rfl, rfl, rfl, aC rfl (aH (aI4 hf (n + 3) h1) ?_)⟩))
 have L2 : Le m1 (m1 ++ [.list (aA0 s.named)]) := .app _ _
 have k2 : (m1 ++ [MObj.list (aA0 s.named)])[m1.length]? = some (.list (aA0 s.named)) := bI
 have g2 : m.length <= m1.length := L1.1
 generalize m1 ++ [MObj.list (aA0 s.named)] = m2 at L2 k2 ⊢
 have Lm2 := L1.trans L2
 have O2 := Seg.le h.ow Lm2
 obtain ⟨ed, kd⟩ := Ow.dic O2
 obtain ⟨er, kr⟩ := Ow.ro O2
 have ka2 := L2.has k1
 have kk : bX (aV1 s.rows) = some (sortI (s.rows.map (·.1))) := by unfold aV1; rw [aO6, List.map_id]
 have kl : (sortI (s.rows.map (·.1))).length < 64 := by rw [b8, List.length_map]; exact hr
 have ob : O.b ≠ a := fun e => Nat.not_lt.mpr g1 (e ▸ Seg.lt h.ow _ (.tail _ (.tail _ (.head _))))
 have hd : eN S6 (.ref a) .dict m2 = .ok true m2 := by unfold eN; dsimp only; rw [ka2]; rfl
 have er2 : aA2 .NotEq (.ref a) (.ref O.b) m2 = .ok false m2 := cK (bC0 ka2 kr (Ne.symm ob) (by rw [cK8]; unfold dK tD; rw [List.length_map]) (aC2 _ _ _) (aC2 _ _ _) cK7)
 refine aG4 (aL0 (bP (aH (dA (aS (aN9 rfl hd))) (aB4 ?_))))
 refine bP (aH (aS (aQ rfl (aT rfl rfl (aG kd rfl rfl rfl)) er2)) (aB4 ?_))
 refine bP (fJ (fK ?_))
 refine aD8 (aD (aC rfl (aF (cZ (bM5 ka2 kk) (aK fun q3 m3 L3 k3 g3 => ?_)))))
 refine aD8 (aD (aC rfl (aF (cZ (aG0 (L3.has ka2) kk kl) (aK fun q4 m4 L4 k4 g4 => ?_)))))
 rw [aR0 (sort_ss h.nd)] at k4
 refine aH (cK (aJ8 (cI2 _) (L4.has k3) k4)) (aC rfl (aB4 (aC rfl ?_)))
 have L24 := L3.trans L4
 have O4 := Seg.le O2 L24
 obtain ⟨ed4, kd4⟩ := Ow.dic O4
 have k24 := L24.has k2
 have hli : eN S6 (.ref m1.length) .list m4 = .ok true m4 := by unfold eN; dsimp only; rw [k24]; rfl
 refine cJ (fC (b0 (x := false) (dA (aS (aN9 rfl hli))) (b0 (x := false) (aS (aQ rfl (aT rfl rfl (aG kd4 rfl rfl rfl)) (cK (aJ8 (aN8 _) k24 (Ow.na O4))))) aA9))) ?_
 show Wp (exs _ _ (_ :: _) _) m4 _ _
 refine aG4 (fJ (fK (aC0 s.named (fun x => .tup [.int x.1, x.2.1.v, x.2.2.v]) (fun x => .tup [.int x.1, x.2.1.v, x.2.2.v]) (fun y_ => false) (fun m' => m' = m4) (aD (aC rfl (aF (d9 k24 ⟨rfl, rfl, ?_, ?_, ?_, ?_⟩)))))))
 ·rintro m' rfl; exact bZ k24
 ·rintro z y_ m' rfl
  exact aC rfl (aH4 (aH (dA (aS (aN9 (b := true) rfl rfl))) ⟨rfl, rfl⟩))
 ·exact Nat.le_of_lt (Nat.lt_of_le_of_lt s.nl (Nat.lt_of_le_of_lt (Nat.le_add_right _ _) hz))
 ·rintro q5 m5' m5 rfl L5 k5 g5
  have k5 : m5[q5]? = some (.list []) := by rw [k5, List.filter_eq_nil_iff.mpr (fun y_ y_ => Bool.false_ne_true)]; rfl
  refine aW (aF (aK fun q6 m6 L6 k6 g6 => ?_))
  refine aH (cK (aJ8 (xs := []) (fun y_ q => nomatch q) (L6.has k5) k6)) (aC rfl ?_)
  show Wp (exs _ _ (_ :: _) _) m6 _ _
  have L46 := L5.trans L6
  have Lm6 := Lm2.trans (L24.trans L46)
  have N6' : New m hp xs m6 [] := ⟨by rw [List.map_nil, List.append_nil]; exact Lm6.has hk, (fun y_ q => nomatch q), Lm6.mod⟩
  have ka6 := L46.has (L24.has ka2)
  have kb6 := L46.has k24
  refine eH (bH (aC rfl ⟨0, aD7 N6'.obj, rfl, aD (dL (aD (aC rfl (aD (aD8 (aD (aC rfl (aF (cZ (dict_dict ka6 (aC2 _ _ _)) (aK fun q7 m7 L7 k7 g7 => aF (aF ?_)))))))))))⟩))
  have N7 := N6'.mod hl L7.mod
  refine cF N7.obj (by rw [List.map_nil, List.append_nil]; omega) ?_
  have lt6 := aO ka6
  have N8 := N7.add hl (a := a) (b := q7) ⟨fun e => Nat.not_lt.mpr g7 ((show a = q7 from e) ▸ lt6), .inr ⟨_, _, _, L7.has ka6, k7⟩⟩ g1 (Nat.le_trans Lm6.1 g7)
  have ha : hp ≠ a := Nat.ne_of_lt (Nat.lt_of_lt_of_le hl g1)
  have hb : hp ≠ m1.length := Nat.ne_of_lt (Nat.lt_of_lt_of_le hl g2)
  have ka8 := aJ (o' := .list (xs ++ [].map pv ++ [pv (a, q7)])) ha (L7.has ka6)
  have kb8 := aJ (o' := .list (xs ++ [].map pv ++ [pv (a, q7)])) hb (L7.has kb6)
  have l8 : m.length <= (m7.set hp (.list (xs ++ [].map pv ++ [pv (a, q7)]))).length := by rw [List.length_set]; exact (Lm6.trans L7).1
  show Wp (exs _ _ _ _) (m7.set hp (.list (xs ++ [].map pv ++ [pv (a, q7)]))) _ _
  generalize m7.set hp (.list (xs ++ [].map pv ++ [pv (a, q7)])) = m8 at N8 ka8 kb8 l8 ⊢
  refine eH (bH (aC rfl ⟨0, aD7 N8.obj, rfl, aD (dL (aD (aC rfl (aD (aD8 (aD (aC rfl (aF (cZ (list_list kb8) (aK fun q9 m9 L9 k9 g9 => aF (aF ?_)))))))))))⟩))
  have N9 := N8.mod hl L9.mod
  refine cF N9.obj (by rw [List.length_append, List.length_map]; show xs.length + 1 < lid; omega) ?_
  have lt8 := aO kb8
  have N10 := N9.add hl (a := m1.length) (b := q9) ⟨fun e => Nat.not_lt.mpr g9 ((show m1.length = q9 from e) ▸ lt8), .inl ⟨_, L9.has kb8, k9, aN8 _⟩⟩ g2 (Nat.le_trans l8 g9)
  have ka10 := aJ (o' := .list (xs ++ [(a, q7)].map pv ++ [pv (m1.length, q9)])) ha (L9.has ka8)
  exact cT7 n h ho hl lx N10 ka10 g1 hr (Nat.le_refl _)
end
end P06
end Mini
namespace Mini
open PySem
namespace P06
open C06
structure Ad where
 s : Nat
 c : Nat
 o : Nat
 g : Nat
 k : Nat
 h : Nat
noncomputable def Ad.all (A : Ad) : List Nat := [A.s, A.c, A.o, A.g, A.k, A.h]
structure LI (A : Ad) (za : List Int) (m : MH) (D : Nat -> Hd) (O : Nat -> Od) (s : Nat -> Hs) (c : Nat -> Int) (l : List (Nat × Nat)) : Prop where
 sd : ∀ j, j < 2 -> Sd m (D j) (O j) (s j) (c j)
 ap : ∀ i j, i < 2 -> j < 2 -> i ≠ j -> ∀ x ∈ reg (D i) (O i), x ∉ reg (D j) (O j)
 out : ∀ j, j < 2 -> ∀ x ∈ reg (D j) (O j), x ∉ A.all
 nd : A.all.Nodup
 os : m[A.s]? = some (.list (za.map V.int))
 oc : m[A.c]? = some (.list [.int (s 0).cnt, .int (s 1).cnt])
 oo : m[A.o]? = some (.list [.ref (O 0).p, .ref (O 1).p])
 og : m[A.g]? = some (.list [.ref (D 0).p, .ref (D 1).p])
 ok : m[A.k]? = some (.list [.int (c 0), .int (c 1)])
 oh : m[A.h]? = some (.list (l.map pv))
 tw : ∀ p ∈ l, Twin m p /\ (∀ j, j < 2 -> p.1 ∉ reg (D j) (O j) /\ p.2 ∉ reg (D j) (O j)) /\ p.1 ∉ A.all /\ p.2 ∉ A.all
section
variable {A : Ad} {za : List Int} {m m' : MH} {D : Nat -> Hd} {O : Nat -> Od} {s : Nat -> Hs} {c : Nat -> Int} {l ps : List (Nat × Nat)}
theorem LI.lt (I : LI A za m D O s c l) : ∀ x ∈ A.all, x < m.length := fun x hx => by
 have hx : x ∈ [A.s, A.c, A.o, A.g, A.k, A.h] := hx
 simp only [List.mem_cons, List.not_mem_nil, or_false] at hx
 rcases hx with rfl | rfl | rfl | rfl | rfl | rfl
 ·exact aO I.os
 ·exact aO I.oc
 ·exact aO I.oo
 ·exact aO I.og
 ·exact aO I.ok
 ·exact aO I.oh
theorem LI.hout (I : LI A za m D O s c l) {j : Nat} (hj : j < 2) : A.h ∉ reg (D j) (O j) := fun h => I.out j hj _ h (.tail _ (.tail _ (.tail _ (.tail _ (.tail _ (.head _))))))
theorem LI.grow (I : LI A za m D O s c l) (N : New m A.h (l.map pv) m' ps) : LI A za m' D O s c (l ++ ps) := by
 have nh : ∀ {i x : Nat}, A.all[i]? = some x -> i ≠ 5 -> x ∉ [A.h] := fun hi hn q => aX2 I.nd hi (j := 5) rfl hn (List.mem_singleton.mp q)
 have fr : ∀ {x : Nat}, m.length <= x -> ∀ y, y < m.length -> x ≠ y := fun hx y hy e => Nat.not_lt.mpr hx (e ▸ hy)
 refine ⟨fun j hj => (I.sd j hj).new N (I.hout hj), I.ap, I.out, I.nd, N.md.has I.os (nh (i := 0) rfl (by decide)), N.md.has I.oc (nh (i := 1) rfl (by decide)), N.md.has I.oo (nh (i := 2) rfl (by decide)), N.md.has I.og (nh (i := 3) rfl (by decide)), N.md.has I.ok (nh (i := 4) rfl (by decide)), by rw [List.map_append]; exact N.obj, fun p hp => ?_⟩
 rcases List.mem_append.mp hp with hp | hp
 ·obtain ⟨t, h1, h2, h3⟩ := I.tw p hp
  have mh : A.h ∈ A.all := .tail _ (.tail _ (.tail _ (.tail _ (.tail _ (.head _)))))
  exact ⟨t.mod N.md (fun q => h2 (List.mem_singleton.mp q ▸ mh)) (fun q => h3 (List.mem_singleton.mp q ▸ mh)), h1, h2, h3⟩
 ·obtain ⟨t, g1, g2⟩ := N.tw p hp
  refine ⟨t, fun j hj => ⟨fun q => fr g1 _ ((I.sd j hj).lt _ q) rfl, fun q => fr g2 _ ((I.sd j hj).lt _ q) rfl⟩, fun q => fr g1 _ (I.lt _ q) rfl, fun q => fr g2 _ (I.lt _ q) rfl⟩
theorem LI.le (I : LI A za m D O s c l) (L : Le m m') : LI A za m' D O s c l := by
 have := I.grow (ps := []) ⟨by rw [List.map_nil, List.append_nil]; exact L.has I.oh, (fun y_ q => nomatch q), L.mod⟩
 rw [List.append_nil] at this; exact this
theorem idx2 {q j : Nat} {f : Nat -> V} (h : m[q]? = some (.list [f 0, f 1])) (hj : j < 2) : aI8 (.ref q) (.int j) m = .ok (f j) m := by
 have : j = 0 \/ j = 1 := by omega
 unfold aI8; dsimp only; rw [h]
 rcases this with rfl | rfl <;> rfl
noncomputable def upd {α : Type} (f : Nat -> α) (j : Nat) (x : α) : Nat -> α := fun i => if i = j then x else f i
theorem cB {α : Type} (f : Nat -> α) (j : Nat) (x : α) : upd f j x j = x := if_pos rfl
theorem bU {α : Type} (f : Nat -> α) {i j : Nat} (x : α) (h : i ≠ j) : upd f j x i = f i := if_neg h
theorem aV8 {α β : Type} (f : Nat -> α) (g : α -> β) (j : Nat) (x : α) (hx : g x = g (f j)) : [g (upd f j x 0), g (upd f j x 1)] = [g (f 0), g (f 1)] := by
 have h : ∀ i, g (upd f j x i) = g (f i) := fun i => by
  by_cases z : i = j
  ·rw [z, cB, hx]
  ·rw [bU _ _ z]
 rw [h, h]
theorem LI.deed (I : LI A za m D O s c l) {j : Nat} (hj : j < 2) {D' : Hd} {O' : Od} {s' : Hs} {c' : Int} (sd : Sd m' D' O' s' c') (md : Mod ((D j).foot ++ (O j).foot) m m') (rg : ∀ x ∈ reg D' O', x ∈ reg (D j) (O j) \/ m.length <= x) (pD : D'.p = (D j).p) (pO : O'.p = (O j).p) (hc : s'.cnt = (s j).cnt) :
  LI A za (m'.set A.k (.list [.int (upd c j c' 0), .int (upd c j c' 1)])) (upd D j D') (upd O j O') (upd s j s') (upd c j c') l := by
 have ak : A.k ∈ A.all := .tail _ (.tail _ (.tail _ (.tail _ (.head _))))
 have M2 : Mod [A.k] m' (m'.set A.k (.list [.int (upd c j c' 0), .int (upd c j c' 1)])) := Mod.set (.head _)
 have foot : ∀ {x : Nat}, x ∈ (D j).foot ++ (O j).foot -> x ∈ reg (D j) (O j) := fun hx => (List.mem_append.mp hx).elim (fun q => List.mem_append_left _ (aF0 q)) fun q => List.mem_append_right _ (dM q)
 have al : ∀ {x : Nat}, x ∈ A.all -> x ∉ (D j).foot ++ (O j).foot := fun hx q => I.out j hj _ (foot q) hx
 have nk : ∀ {i x : Nat}, A.all[i]? = some x -> i ≠ 4 -> x ∉ [A.k] := fun hi hn q => aX2 I.nd hi (j := 4) rfl hn (List.mem_singleton.mp q)
 have has : ∀ {i x : Nat} {o : MObj}, A.all[i]? = some x -> i ≠ 4 -> m[x]? = some o -> (m'.set A.k (.list [.int (upd c j c' 0), .int (upd c j c' 1)]))[x]? = some o := fun hi hn ho => M2.has (md.has ho (al (List.mem_of_getElem? hi))) (nk hi hn)
 have rA : ∀ x ∈ reg D' O', x ∉ A.all := fun x hx q => (rg x hx).elim (fun h => I.out j hj x h q) fun h => Nat.not_lt.mpr h (I.lt x q)
 have rO : ∀ i, i < 2 -> i ≠ j -> ∀ x ∈ reg D' O', x ∉ reg (D i) (O i) := fun i hi hn x hx q => (rg x hx).elim (fun h => I.ap j i hj hi (Ne.symm hn) x h q) fun h => Nat.not_lt.mpr h ((I.sd i hi).lt x q)
 refine ⟨fun i hi => ?_, fun i i' hi hi' hn x hx => ?_, fun i hi x hx => ?_, I.nd, has (i := 0) rfl (by decide) I.os, ?_, ?_, ?_, bB (md.has I.ok (al ak)), has (i := 5) rfl (by decide) I.oh, fun p hp => ?_⟩
 ·by_cases z : i = j
  ·subst z
   rw [cB, cB, cB, cB]
   exact sd.mod M2 fun x hx q => rA x hx (List.mem_singleton.mp q ▸ ak)
  ·rw [bU _ _ z, bU _ _ z, bU _ _ z, bU _ _ z]
   exact ((I.sd i hi).mod md fun x hx q => I.ap i j hi hj z x hx (foot q)).mod M2 fun x hx q => I.out i hi x hx (List.mem_singleton.mp q ▸ ak)
 ·by_cases z : i = j
  ·subst z
   rw [cB, cB] at hx
   rw [bU _ _ (Ne.symm hn), bU _ _ (Ne.symm hn)]
   exact rO i' hi' (Ne.symm hn) x hx
  ·rw [bU _ _ z, bU _ _ z] at hx
   by_cases z' : i' = j
   ·subst z'
    rw [cB, cB]
    exact fun q => rO i hi z x q hx
   ·rw [bU _ _ z', bU _ _ z']; exact I.ap i i' hi hi' hn x hx
 ·by_cases z : i = j
  ·subst z
   rw [cB, cB] at hx
   exact rA x hx
  ·rw [bU _ _ z, bU _ _ z] at hx; exact I.out i hi x hx
 ·rw [aV8 s (fun x => V.int x.cnt) j s' (congrArg V.int hc)]; exact has (i := 1) rfl (by decide) I.oc
 ·rw [aV8 O (fun x => V.ref x.p) j O' (congrArg V.ref pO)]; exact has (i := 2) rfl (by decide) I.oo
 ·rw [aV8 D (fun x => V.ref x.p) j D' (congrArg V.ref pD)]; exact has (i := 3) rfl (by decide) I.og
 ·obtain ⟨t, h1, h2, h3⟩ := I.tw p hp
  have lt : ∀ {x : Nat}, (∃ o, m[x]? = some o) -> x < m.length := fun ⟨_, h⟩ => aO h
  have e1 : ∃ o, m[p.1]? = some o := t.2.elim (fun ⟨_, a, _⟩ => ⟨_, a⟩) fun ⟨_, _, _, a, _⟩ => ⟨_, a⟩
  have e2 : ∃ o, m[p.2]? = some o := t.2.elim (fun ⟨_, _, a, _⟩ => ⟨_, a⟩) fun ⟨_, _, _, _, a⟩ => ⟨_, a⟩
  have key : ∀ {x : Nat}, x < m.length -> (∀ i, i < 2 -> x ∉ reg (D i) (O i)) -> ∀ i, i < 2 -> x ∉ reg (upd D j D' i) (upd O j O' i) := fun hl hx i hi => by
   by_cases z : i = j
   ·subst z
    rw [cB, cB]
    exact fun q => (rg _ q).elim (hx i hi) fun h => Nat.not_lt.mpr h hl
   ·rw [bU _ _ z, bU _ _ z]; exact hx i hi
  exact ⟨(t.mod md (fun q => (h1 j hj).1 (foot q)) fun q => (h1 j hj).2 (foot q)).mod M2 (fun q => h2 (List.mem_singleton.mp q ▸ ak)) fun q => h3 (List.mem_singleton.mp q ▸ ak), fun i hi => ⟨key (lt e1) (fun i hi => (h1 i hi).1) i hi, key (lt e2) (fun i hi => (h1 i hi).2) i hi⟩, h2, h3⟩
end
end P06
end Mini
namespace Mini
open PySem
theorem bR6 {m : MH} {q e : Nat} {kvs : List (Ky × V)} {Q : V -> MH -> Prop} {E : Nat -> MH -> Prop} (h : m[q]? = some (.dict kvs e)) (hk : aB3 kvs = true) (k : Q .none (m.set q (.dict [] (e + 1)))) : Wp (cW 1 (.ref q) .clear []) m Q E := by
 refine aH (m' := m.set q (.dict [] (e + 1))) ?_ k
 show (match m[q]? with | some (.dict kvs e) => bE7 q kvs e .clear [] m | _ => .bad) = _
 rw [h]
 exact if_pos hk
namespace P06
open C06
noncomputable def forB : CS -> List CS
 | .for_ _ _ _ b => b
 | _ => []
noncomputable def lbody : List CS := forB ((C06.f_law.drop 7).headD .pass)
noncomputable abbrev Lr (A : Ad) (v0 v1 : V) (b : Int) (x8 x9 x10 x11 x12 : Option V) : Lo := [some v0, some v1, some (.int b), some (.ref A.c), some (.ref A.o), some (.ref A.g), some (.ref A.k), some (.ref A.h), x8, x9, x10, x11, x12]
noncomputable def cA4 (Q : Option V -> Option V -> Option V -> Option V -> Option V -> MH -> Prop) (A : Ad) (v0 v1 : V) (b : Int) : Fl × Lo -> MH -> Prop := fun p m' => match p.1 with
 | .ret _ => False
 | _ => ∃ x8 x9 x10 x11 x12, p.2 = Lr A v0 v1 b x8 x9 x10 x11 x12 /\ Q x8 x9 x10 x11 x12 m'
section
variable {A : Ad} {za : List Int} {m m' : MH} {D : Nat -> Hd} {O : Nat -> Od} {s : Nat -> Hs} {c : Nat -> Int} {l : List (Nat × Nat)} {v0 v1 : V} {b : Int}
inductive KInv (A : Ad) (za : List Int) (D : Nat -> Hd) (O : Nat -> Od) (s : Nat -> Hs) (c : Nat -> Int) (l : List (Nat × Nat)) (v0 v1 : V) (b z : Int) (x9 x10 x11 : Option V) (zs : List Nat) (r : Lo) (m' : MH) : Prop
 | mk (x12 : Option V) (ps : List (Nat × Nat)) (er : r = Lr A v0 v1 b (some (.int z)) x9 x10 x11 x12) (I : LI A za m' D O s c (l ++ ps)) (hl : ps.length + 66 * zs.length <= 132) (hz : ∀ j ∈ zs, j < 2)
theorem looks (n : Nat) (z : Int) {x9 x10 x11 x12 : Option V} (I : LI A za m D O s c l) (hr : ∀ j, j < 2 -> (s j).rows.length < 64 /\ (s j).sz + 20 < lid) (hl : l.length + 300 < lid) :
  Wp (exs S6 (run S6 (n + 8)) (lbody.drop 6) (Lr A v0 v1 b (some (.int z)) x9 x10 x11 x12)) m (cA4 (fun y_ y_ y_ y_ y_ m' => ∃ ps, LI A za m' D O s c (l ++ ps) /\ ps.length <= 132) A v0 v1 b) nox := by
 refine aG5 [0, 1] (fun j : Nat => V.int j) (KInv A za D O s c l v0 v1 b z x9 x10 x11) (aD (aC rfl (aF (aC rfl ⟨rfl, .mk x12 [] rfl (by rw [List.append_nil]; exact I) (Nat.le_refl _) (by decide), fun y_ y_ y_ y_ => rfl, ?_, ?_⟩))))
 ·rintro j zs r m1 ⟨x, ps, rfl, I, hps, hz⟩
  have hj := hz j (.head _)
  have lz : (j :: zs).length = zs.length + 1 := rfl
  have args : ∀ {m2 : MH}, LI A za m2 D O s c (l ++ ps) -> ∀ {Q : List V -> MH -> Prop}, Q [.ref (D j).p, .ref (O j).p] m2 -> Wp (evs S6 (run S6 (n + 8)) [(.idx (.var 5) (.var 12)), (.idx (.var 4) (.var 12))] (Lr A v0 v1 b (some (.int z)) x9 x10 x11 (some (.int j)))) m2 Q nox := fun {m2} I2 {Q} hQ =>
   aD (aH (aT rfl rfl (idx2 (f := fun i => .ref (D i).p) I2.og hj)) (aD (aH (aT rfl rfl (idx2 (f := fun i => .ref (O i).p) I2.oo hj)) (aF hQ))))
  have fin : ∀ m2 : MH, LI A za m2 D O s c (l ++ ps) -> Wp (exs S6 (run S6 (n + 8)) [(.ite (.not (.val (.call 24 [(.idx (.var 5) (.var 12)), (.idx (.var 4) (.var 12)), (.var 7)]))) [(.ret (.cnst (Lt.bool false)))] [])] (Lr A v0 v1 b (some (.int z)) x9 x10 x11 (some (.int j)))) m2 (fun p m' => match p.1 with | .ret v => cA4 (fun y_ y_ y_ y_ y_ m' => ∃ ps, LI A za m' D O s c (l ++ ps) /\ ps.length <= 132) A v0 v1 b (.ret v, p.2) m' | _ => KInv A za D O s c l v0 v1 b z x9 x10 x11 zs p.2 m') nox := fun m2 I2 => by
   refine aG4 (cC0 (fJ (dC (aD (aH (aT rfl rfl (idx2 (f := fun i => .ref (D i).p) I2.og hj)) (aD (aH (aT rfl rfl (idx2 (f := fun i => .ref (O i).p) I2.oo hj)) (aD (aC rfl (aF ?_))))))))))
   refine dX (bT7 (n + 3) (I2.sd j hj) (I2.hout hj) I2.oh (by rw [List.length_map, List.length_append]; omega) (hr j hj).1 (hr j hj).2) ?_
   rintro y_ m3 ⟨rfl, ps', hp, N⟩
   refine aC rfl ?_
   refine aJ1 (.mk _ (ps ++ ps') rfl (by rw [<- List.append_assoc]; exact I2.grow N) ?_ fun i hi => hz i (.tail _ hi))
   rw [List.length_append]; omega
  refine aC rfl (aG4 (aL0 (bP (aH (aS (aQ (t := z / 5 % 2 == 1) rfl rfl rfl)) ?_))))
  cases z / 5 % 2 == 1 with
  | false => exact aP6 (fin m1 I)
  | true =>
   refine aB4 (bP (cC0 (fJ (dC (args I ?_)))))
   refine dX (bI3 (n + 5) (I.sd j hj).ho (I.sd j hj).ow (hr j hj).1) ?_
   rintro y_ m2 ⟨rfl, L⟩
   exact aC rfl (aP6 (fin m2 (I.le L)))
 ·rintro r m1 ⟨x, ps, rfl, I, hps, hz⟩
  exact aJ1 ⟨_, _, _, _, _, rfl, ps, I, Nat.le_trans (Nat.le_add_right _ _) hps⟩
end
end P06
end Mini
namespace Mini
open PySem
section
variable {S : Sig} {F : Fns} {r : Lo} {m : MH} {E : Nat -> MH -> Prop}
theorem cT4 {a : CE} {b : Bi} {x v : V} (ha : ev S F a r m = .ok x m) (h : biV b [x] m = .ok v m) : ev S F (.bi b [a]) r m = .ok v m := by
 obtain ⟨v', m', e, rfl, rfl⟩ := fF (show Wp (ev S F (.bi b [a]) r) m (fun w m' => w = v /\ m' = m) nox from aD8 (aD (aH ha (aF (aH h ⟨rfl, rfl⟩)))))
 exact e
theorem cS7 {t : CT} {e : CE} {ss : List CS} {Q : Fl × Lo -> MH -> Prop} (h : Wp (ev S F e r) m (fun v m1 => Wp (aI9 t v r) m1 (fun r' m2 => Wp (exs S F ss r') m2 Q E) E) E) : Wp (exs S F (.asg (.one t) e :: ss) r) m Q E :=
 eI (aL (x := ev S F e r) (wp_mono h (fun v m1 q => aL (x := asgT S F (.one t) v r) q) fun y_ y_ q => q))
end
namespace P06
open C06
section
variable {A : Ad} {za : List Int} {m m' : MH} {D : Nat -> Hd} {O : Nat -> Od} {s : Nat -> Hs} {c : Nat -> Int} {l : List (Nat × Nat)} {v0 v1 : V} {b : Int}
theorem LI.mod0 (I : LI A za m D O s c l) (M : Mod [] m m') : LI A za m' D O s c l := by
 have := I.grow (ps := []) ⟨by rw [List.map_nil, List.append_nil]; exact M.has I.oh List.not_mem_nil, (fun y_ q => nomatch q), M.mono fun y_ q => nomatch q⟩
 rw [List.append_nil] at this; exact this
theorem LI.put (I : LI A za m D O s c l) {q : Nat} (hr : ∀ j, j < 2 -> q ∉ reg (D j) (O j)) (hA : q ∉ A.all) (hl : ∀ p ∈ l, p.1 ≠ q /\ p.2 ≠ q) (o : MObj) : LI A za (m.set q o) D O s c l := by
 have M : Mod [q] m (m.set q o) := Mod.set (.head _)
 have na : ∀ {i x : Nat}, A.all[i]? = some x -> x ∉ [q] := fun hi e => hA (List.mem_singleton.mp e ▸ List.mem_of_getElem? hi)
 exact ⟨fun j hj => (I.sd j hj).mod M fun x hx e => hr j hj (List.mem_singleton.mp e ▸ hx), I.ap, I.out, I.nd, M.has I.os (na (i := 0) rfl), M.has I.oc (na (i := 1) rfl), M.has I.oo (na (i := 2) rfl), M.has I.og (na (i := 3) rfl), M.has I.ok (na (i := 4) rfl), M.has I.oh (na (i := 5) rfl), fun p hp => ⟨(I.tw p hp).1.mod M (fun e => (hl p hp).1 (List.mem_singleton.mp e)) (fun e => (hl p hp).2 (List.mem_singleton.mp e)), (I.tw p hp).2⟩⟩
theorem LI.hold (I : LI A za m D O s c l) {x y : Nat} (t : Twin m (x, y)) (h : ∀ j, j < 2 -> x ∉ reg (D j) (O j) /\ y ∉ reg (D j) (O j)) (hx : x ∉ A.all) (hy : y ∉ A.all) : LI A za (m.set A.h (.list (l.map pv ++ [pv (x, y)]))) D O s c (l ++ [(x, y)]) := by
 have M : Mod [A.h] m (m.set A.h (.list (l.map pv ++ [pv (x, y)]))) := Mod.set (.head _)
 have mh : A.h ∈ A.all := .tail _ (.tail _ (.tail _ (.tail _ (.tail _ (.head _)))))
 have nh : ∀ {i x : Nat}, A.all[i]? = some x -> i ≠ 5 -> x ∉ [A.h] := fun hi hn q => aX2 I.nd hi (j := 5) rfl hn (List.mem_singleton.mp q)
 refine ⟨fun j hj => (I.sd j hj).mod M fun x hx e => I.out j hj x hx (List.mem_singleton.mp e ▸ mh), I.ap, I.out, I.nd, M.has I.os (nh (i := 0) rfl (by decide)), M.has I.oc (nh (i := 1) rfl (by decide)), M.has I.oo (nh (i := 2) rfl (by decide)), M.has I.og (nh (i := 3) rfl (by decide)), M.has I.ok (nh (i := 4) rfl (by decide)), by rw [List.map_append]; exact bB I.oh, fun p hp => ?_⟩
 have key : ∀ p : Nat × Nat, Twin m p /\ (∀ j, j < 2 -> p.1 ∉ reg (D j) (O j) /\ p.2 ∉ reg (D j) (O j)) /\ p.1 ∉ A.all /\ p.2 ∉ A.all -> Twin (m.set A.h (.list (l.map pv ++ [pv (x, y)]))) p /\ (∀ j, j < 2 -> p.1 ∉ reg (D j) (O j) /\ p.2 ∉ reg (D j) (O j)) /\ p.1 ∉ A.all /\ p.2 ∉ A.all := fun p q =>
  ⟨q.1.mod M (fun e => q.2.2.1 (List.mem_singleton.mp e ▸ mh)) (fun e => q.2.2.2 (List.mem_singleton.mp e ▸ mh)), q.2⟩
 rcases List.mem_append.mp hp with hp | hp
 ·exact key p (I.tw p hp)
 ·rw [List.mem_singleton.mp hp]; exact key _ ⟨t, h, hx, hy⟩
theorem Twin.lt {m : MH} {p : Nat × Nat} (t : Twin m p) : p.1 < m.length /\ p.2 < m.length := by
 rcases t.2 with ⟨_, a, b, _⟩ | ⟨_, _, _, a, b⟩ <;> exact ⟨aO a, aO b⟩
noncomputable def absI (z : Int) : Int := if z < 0 then -z else z
theorem turn (n : Nat) (z : Int) {x9 x10 x11 x12 : Option V} (I : LI A za m D O s c l) (hr : ∀ j, j < 2 -> (s j).rows.length < 63 /\ (s j).sz + 30 < lid) (hl : l.length + 400 < lid) :
  Wp (exs S6 (run S6 (n + 8)) lbody (Lr A v0 v1 b (some (.int z)) x9 x10 x11 x12)) m (cA4 (fun y_ y_ y_ y_ y_ m' => ∃ D' O' s' c' ps, LI A za m' D' O' s' c' (l ++ ps) /\ ps.length <= 133 /\ ∀ j, j < 2 -> (s' j).sz <= (s j).sz + 5 /\ (s' j).rows.length <= (s j).rows.length + 1) A v0 v1 b) nox := by
 refine bC (aH (cT4 (aQ (t := z / 7 % 9 == 4) rfl rfl rfl) rfl) ?_)
 obtain ⟨j, hj, ej⟩ : ∃ j : Nat, j < 2 /\ (if (z / 7 % 9 == 4) = true then (1 : Int) else 0) = (j : Int) := by
  cases z / 7 % 9 == 4 with
  | true => exact ⟨1, by decide, rfl⟩
  | false => exact ⟨0, by decide, rfl⟩
 rw [ej]
 refine cS7 (dC (aD (aH (aT rfl rfl (idx2 (f := fun i => .ref (D i).p) I.og hj)) ?_)))
 refine aD (aH (aT rfl rfl (idx2 (f := fun i => .ref (O i).p) I.oo hj)) ?_)
 refine aD (aC rfl (aD (aC rfl ?_)))
 refine aD (aH (aT rfl rfl (idx2 (f := fun i => .int (c i)) I.ok hj)) (aF ?_))
 refine dX (cO1 n (absI z) b (I.sd j hj) (Nat.lt_of_le_of_lt (Nat.add_le_add_left (show 20 <= 30 by decide) _) (hr j hj).2)) ?_
 rintro y_ m1 ⟨D', O', s', t, q1, q2, rfl, sd, k1, k2, ne, g1, g2, o1, o2, md, rg, pD, pO, hc, sz, rl, tl⟩
 refine aC rfl ?_
 generalize hc' : c j + (if calls (s j) (absI z) = true then 1 else 0) = c' at sd
 have foot : ∀ {x : Nat}, x ∈ (D j).foot ++ (O j).foot -> x ∈ reg (D j) (O j) := fun hx => (List.mem_append.mp hx).elim (fun q => List.mem_append_left _ (aF0 q)) fun q => List.mem_append_right _ (dM q)
 have al : ∀ {i x : Nat}, A.all[i]? = some x -> x ∉ (D j).foot ++ (O j).foot := fun hi q => I.out j hj _ (foot q) (List.mem_of_getElem? hi)
 have ok1 := md.has I.ok (al (i := 4) rfl)
 have oc1 := md.has I.oc (al (i := 1) rfl)
 refine dY (aH (bN (aT rfl rfl (idx2 (f := fun i => .int (c i)) ok1 hj)) (cT4 (q_or (x := absI z % 16 == 5) (aQ rfl rfl rfl) (cI5 (v := .bool ((s j).cnt == 1)) (aQ (aT rfl rfl (idx2 (f := fun i => .int (s i).cnt) oc1 hj)) rfl rfl))) rfl) rfl) ?_)
 refine aC rfl (aC rfl (cQ7 ok1 (Int.natCast_nonneg j) (by show (j : Int) < 2; omega) ?_))
 have es : [V.int (c 0), V.int (c 1)].set (Int.toNat (j : Int)) (V.int (c j + if (absI z % 16 == 5 || (s j).cnt == 1) = true then 1 else 0)) = [V.int (upd c j c' 0), V.int (upd c j c' 1)] := by
  rw [<- hc']
  have : j = 0 \/ j = 1 := by omega
  rcases this with rfl | rfl <;> rfl
 rw [es]
 have I2 := I.deed hj sd md rg pD pO hc
 have fr : ∀ {x : Nat}, x ∈ A.all -> ∀ {q : Nat}, m.length <= q -> q ≠ x := fun hx q hq e => Nat.not_lt.mpr hq (e ▸ I.lt _ hx)
 have rO : ∀ {q : Nat}, m.length <= q -> q ∉ reg D' O' -> ∀ i, i < 2 -> q ∉ reg (upd D j D' i) (upd O j O' i) := fun {q} hq ho i hi => by
  by_cases y : i = j
  ·subst y; rw [cB, cB]; exact ho
  ·rw [bU _ _ y, bU _ _ y]; exact fun e => Nat.not_lt.mpr hq ((I.sd i hi).lt _ e)
 have ak : A.k ∈ A.all := .tail _ (.tail _ (.tail _ (.tail _ (.head _))))
 have a1 : q1 ∉ A.all := fun e => fr e g1 rfl
 have k12 := aJ (o' := .list [V.int (upd c j c' 0), V.int (upd c j c' 1)]) (fun e => a1 (e ▸ ak) : A.k ≠ q1) k1
 have k22 := aJ (o' := .list [V.int (upd c j c' 0), V.int (upd c j c' 1)]) (fun e => fr ak g2 e.symm : A.k ≠ q2) k2
 generalize m1.set A.k (.list [V.int (upd c j c' 0), V.int (upd c j c' 1)]) = m2 at I2 k12 k22 ⊢
 have hs : ∀ i, i < 2 -> (upd s j s' i).sz <= (s i).sz + 5 /\ (upd s j s' i).rows.length <= (s i).rows.length + 1 := fun i hi => by
  by_cases y : i = j
  ·subst y; rw [cB]; exact ⟨sz, rl⟩
  ·rw [bU _ _ y]; exact ⟨Nat.le_add_right _ _, Nat.le_succ _⟩
 have tw0 : ∀ p ∈ l, p.1 ≠ q1 /\ p.2 ≠ q1 := fun p hp => ⟨fun e => Nat.not_lt.mpr g1 (e ▸ (I.tw p hp).1.lt.1), fun e => Nat.not_lt.mpr g1 (e ▸ (I.tw p hp).1.lt.2)⟩
 refine cJ (fC (b0 (x := false) (dA (aS (bT rfl (aZ1 (n + 6) k12)))) (b0 (x := false) (aS (aQ rfl rfl (cK (aJ8 (eW _) k12 k22)))) aA9))) ?_
 show Wp (exs _ _ (_ :: _) _) m2 _ _
 have fin : ∀ (m4 : MH) (t' : List Wo), LI A za m4 (upd D j D') (upd O j O') (upd s j s') (upd c j c') l -> m4[q1]? = some (.list (t'.map Wo.v)) -> m.length <= m4.length -> Wp (exs S6 (run S6 (n + 8)) (lbody.drop 5) (Lr A v0 v1 b (some (.int z)) (some (.int j)) (some (.ref q1)) (some (.ref q2)) x12)) m4 (cA4 (fun y_ y_ y_ y_ y_ m' => ∃ D' O' s' c' ps, LI A za m' D' O' s' c' (l ++ ps) /\ ps.length <= 133 /\ ∀ j, j < 2 -> (s' j).sz <= (s j).sz + 5 /\ (s' j).rows.length <= (s j).rows.length + 1) A v0 v1 b) nox := fun m4 t' I4 k4 g4 => by
  refine eH (bH (aC rfl ⟨0, aD7 I4.oh, rfl, aD (dL (aD (aC rfl (aD (aD8 (aD (aC rfl (aF (cZ (list_list k4) (aK fun q5 m5 L5 k5 g5 => aF (aF ?_)))))))))))⟩))
  have I5 := I4.le L5
  refine cF I5.oh (by rw [List.length_map]; omega) ?_
  have h5 : m.length <= q5 := Nat.le_trans g4 g5
  have I6 := I5.hold (x := q1) (y := q5) ⟨fun e => Nat.not_lt.mpr g5 ((show q1 = q5 from e) ▸ aO k4), .inl ⟨_, L5.has k4, k5, eW _⟩⟩ (fun i hi => ⟨rO g1 o1 i hi, fun e => Nat.not_lt.mpr g5 ((I4.sd i hi).lt _ e)⟩) a1 (fun e => fr e h5 rfl)
  refine wp_mono (looks n z I6 (fun i hi => ⟨?_, ?_⟩) (by rw [List.length_append]; show l.length + 1 + 300 < lid; omega)) (fun p m' q => ?_) fun y_ y_ q => q
  ·have := (hs i hi).2; have := (hr i hi).1; omega
  ·have := (hs i hi).1; have := (hr i hi).2; omega
  ·obtain ⟨f, r'⟩ := p
   cases f with
   | ret v => exact q
   | next =>
    obtain ⟨y8, y9, y10, y11, y12, e, ps, Iq, hps⟩ := q
    exact ⟨y8, y9, y10, y11, y12, e, _, _, _, _, (q1, q5) :: ps, by rw [List.append_assoc] at Iq; exact Iq, Nat.succ_le_succ hps, hs⟩
   | cont =>
    obtain ⟨y8, y9, y10, y11, y12, e, ps, Iq, hps⟩ := q
    exact ⟨y8, y9, y10, y11, y12, e, _, _, _, _, (q1, q5) :: ps, by rw [List.append_assoc] at Iq; exact Iq, Nat.succ_le_succ hps, hs⟩
 have gm2 : m.length <= m2.length := Nat.le_of_lt (Nat.lt_of_le_of_lt g1 (aO k12))
 refine cJ (aS (aQ (t := z % 5 == 1) rfl rfl rfl)) ?_
 cases z % 5 == 1 with
 | false => exact fin m2 t I2 k12 gm2
 | true =>
  show Wp (exs _ _ (_ :: _ :: _ :: _) _) m2 _ _
  refine eH (bH (aC rfl ⟨0, aD7 k12, rfl, aF (aV3 k12 ?_)⟩))
  have I3 := I2.put (rO g1 o1) a1 tw0 (.list [])
  have k13 : (m2.set q1 (.list []))[q1]? = some (.list (([] : List Wo).map Wo.v)) := bB k12
  have gm3 : m.length <= (m2.set q1 (.list [])).length := by rw [List.length_set]; exact gm2
  generalize m2.set q1 (.list []) = m3 at I3 k13 gm3 ⊢
  have hD3 : (upd D j D' j).p = (upd D j D' j).p := rfl
  have S3 := I3.sd j hj
  refine eH (bH (bL (aH (aT rfl rfl (idx2 (f := fun i => .ref (upd D j D' i).p) I3.og hj)) ⟨(upd D j D' j).p, 6, _, _, 14, rfl, S3.ho.inst, rfl, rfl, rfl, aC rfl (aH (aI4 hf (n + 7) S3.ho) ⟨0, aD7 bI, rfl, aF (aV3 bI ?_)⟩)⟩)))
  have M4 : Mod [] m3 ((m3 ++ [MObj.list (aA0 (upd s j s' j).named)]).set m3.length (.list [])) := (Le.app m3 _).mod.new (Nat.le_refl _) _
  generalize (m3 ++ [MObj.list (aA0 (upd s j s' j).named)]).set m3.length (.list []) = m4 at M4 ⊢
  have I4 := I3.mod0 M4
  have S4 := I4.sd j hj
  refine eH (bH (bL (aH (aT rfl rfl (idx2 (f := fun i => .ref (upd D j D' i).p) I4.og hj)) ⟨(upd D j D' j).p, 6, _, _, 12, rfl, S4.ho.inst, rfl, rfl, rfl, aC rfl (bM8 (aS4 hf (n + 7) S4.ho (by have := (hs j hj).2; have := (hr j hj).1; omega)) fun m5 q6 e6 k6 g6 L6 => ⟨1, smK_d k6, rfl, aF (bR6 k6 ?_ ?_)⟩)⟩)))
  ·rw [cC6 S4.nd]; exact aC2 _ _ _
  ·have M5 : Mod [] m4 (m5.set q6 (.dict [] (e6 + 1))) := L6.mod.new g6 _
   exact fin _ [] (I4.mod0 M5) (M5.has (M4.has k13 List.not_mem_nil) List.not_mem_nil) (Nat.le_trans gm3 (Nat.le_trans M4.1 M5.1))
end
end P06
end Mini
namespace Mini
open PySem
theorem aU2 {g : Gd} {step : V -> Mn (Option V)} {x : V} {xs : List V} {m : MH} {Q : List V -> MH -> Prop} {E : Nat -> MH -> Prop} (hg : g.stays m = true) (h : Wp (step x) m (fun o m' => Wp (aY g step xs) m' (fun l m'' => Q (dF o l) m'') E) nox) : Wp (aY g step (x :: xs)) m Q E := by
 obtain ⟨o, m1, e, k⟩ := fF h
 have e2 : aY g step (x :: xs) m = (aY g step xs m1).bind fun r => ret (dF o r) := by
  show (if g.stays m = true then _ else _) = _
  rw [if_pos hg, e]; rfl
 unfold Wp at k ⊢
 rw [e2]
 cases q : aY g step xs m1 with
 | bad => rw [q] at k; exact k
 | exc c m2 => rw [q] at k; exact k
 | ok l m2 => rw [q] at k; exact k
theorem bU7 {S : Sig} {F : Fns} {elt : CE} {k : IK} {t : CT} {nl : Nat} {src : List CE} {r : Lo} {m : MH} {Q : V -> MH -> Prop} {E : Nat -> MH -> Prop} {x y : V}
  (h : Wp (evs S F src r) m (fun vs m' => Wp (aB8 k vs) m' (fun p m1 => p.1 = [x, y] /\ p.2.stays m1 = true /\ Wp (aI9 t x (r ++ List.replicate nl Option.none)) m1 (fun r1 m2 => Wp (ev S F elt r1) m2 (fun a m3 => p.2.stays m3 = true /\ Wp (aI9 t y (r ++ List.replicate nl Option.none)) m3 (fun r2 m4 => Wp (ev S F elt r2) m4 (fun b m5 => p.2.stays m5 = true /\ ∀ q m6, Le m5 m6 -> m6[q]? = some (.list [a, b]) -> m5.length <= q -> Q (.ref q) m6) nox) nox) nox) nox) E) E) : Wp (ev S F (.comp elt t nl k src []) r) m Q E := by
 refine aL (x := evs S F src r) (wp_mono h (fun vs m' h => aL (x := aB8 k vs) (wp_mono h (fun p m1 h => ?_) fun y_ y_ q => q)) fun y_ y_ q => q)
 obtain ⟨e, hs, h1⟩ := h
 rw [e]
 refine aL (aU2 hs (aL (x := aI9 t x _) (wp_mono h1 (fun r1 m2 h2 => aL (x := ev S F elt r1) (wp_mono h2 (fun a m3 h3 => ?_) fun y_ y_ q => q)) fun y_ y_ q => q)))
 refine aU2 h3.1 (aL (x := aI9 t y _) (wp_mono h3.2 (fun r2 m4 h4 => aL (x := ev S F elt r2) (wp_mono h4 (fun b m5 h5 => ?_) fun y_ y_ q => q)) fun y_ y_ q => q))
 refine aH (a := some b) (m' := m5) rfl (aH (a := []) (m' := m5) (if_pos h5.1) ?_)
 show Wp (if 2 <= lid then alloc (.list [a, b]) else bad) m5 Q E
 rw [if_pos (by decide)]
 exact aK h5.2
namespace P06
open C06
theorem new6 (n : Nat) {m : MH} {r : Lo} {e1 e2 : CE} {c o : Int} {Q : V -> MH -> Prop} (h1 : ev S6 (run S6 (n + 3)) e1 r m = .ok (.int c) m) (h2 : ev S6 (run S6 (n + 3)) e2 r m = .ok (.int o) m) (c1 : 1 <= c) (c2 : c <= 12) (o1 : 0 <= o) (o2 : o < c)
  (k : ∀ D m', Ho m' N6.C D (Hs.new c o) -> Le m m' -> (∀ y ∈ D.all, m.length <= y) -> Q (.ref D.p) m') : Wp (ev S6 (run S6 (n + 3)) (.new 6 [e1, e2]) r) m Q nox := by
 have hp : (m ++ [MObj.inst 6 []])[m.length]? = some (.inst N6.C []) := bI
 refine cT5 (aD (aH h1 (aD (aH h2 (aF ⟨_, 6, rfl, rfl, rfl, wp_mono (cM0 hf n c1 c2 o1 o2 hp) ?_ fun y_ y_ q => q⟩)))))
 rintro y_ m' ⟨rfl, D, e, h, M, y⟩
 have ml : (m ++ [MObj.inst 6 []]).length = m.length + 1 := by simp
 refine ⟨rfl, ?_⟩
 rw [<- e]
 refine k D m' h ⟨Nat.le_trans (by rw [ml]; exact Nat.le_succ _) M.1, fun p hp' => ?_⟩ fun z hz => ?_
 ·rw [M.2 p (by rw [ml]; exact Nat.lt_succ_of_lt hp') (fun q => Nat.ne_of_lt hp' (List.mem_singleton.mp q)), List.getElem?_append_left hp']
 ·rcases y z hz with q | q
  ·rw [q]; exact Nat.le_refl _
  ·rw [ml] at q; exact Nat.le_of_succ_le q
theorem bY7 (ns : List Int) : ∃ zs : List Int, cut (ns.map V.int) (some 2) (some 62) = zs.map V.int /\ zs.length <= 60 := by
 refine ⟨(ns.take (cY (ns.map V.int).length 62)).drop (cY (ns.map V.int).length 2), ?_, ?_⟩
 ·show ((ns.map V.int).take _).drop _ = _
  rw [<- List.map_take, <- List.map_drop]
 ·rw [List.length_drop, List.length_take]
  unfold cY
  rw [if_pos (by decide), if_pos (by decide), List.length_map]
  have e1 : (62 : Int).toNat = 62 := rfl
  have e2 : (2 : Int).toNat = 2 := rfl
  rw [e1, e2]
  rcases Nat.le_total 2 ns.length with h | h
  ·rw [Nat.min_eq_left h]; exact Nat.sub_le_sub_right (Nat.le_trans (Nat.min_le_left _ _) (Nat.min_le_left _ _)) 2
  ·exact Nat.le_trans (Nat.sub_le _ _) (Nat.le_trans (Nat.min_le_right _ _) (Nat.le_trans h (by decide)))
inductive FInv (A : Ad) (za : List Int) (v0 v1 : V) (b : Int) (zs : List Int) (r : Lo) (m : MH) : Prop
 | mk (D : Nat -> Hd) (O : Nat -> Od) (s : Nat -> Hs) (c : Nat -> Int) (l : List (Nat × Nat)) (k : Nat) (x8 x9 x10 x11 x12 : Option V) (er : r = Lr A v0 v1 b x8 x9 x10 x11 x12) (I : LI A za m D O s c l) (hk : k + zs.length <= 60) (hs : ∀ j, j < 2 -> (s j).sz <= 5 * k /\ (s j).rows.length <= k) (hl : l.length <= 133 * k)
theorem cK5 (n : Nat) {A : Ad} {za : List Int} {v0 v1 : V} {b : Int} {m : MH} {zs : List Int} {z : Int} {r : Lo} (h : FInv A za v0 v1 b (z :: zs) r m) {Q : Fl × Lo -> MH -> Prop} : Wp (aI9 (.one 8) (.int z) r) m (fun r' m' => Wp (exs S6 (run S6 (n + 8)) lbody r') m' (fun p m' => match p.1 with | .ret v => Q (.ret v, p.2) m' | _ => FInv A za v0 v1 b zs p.2 m') nox) nox := by
 obtain ⟨D, O, s, c, l, k, x8, x9, x10, x11, x12, rfl, I, hk, hs, hl⟩ := h
 have lz : (z :: zs).length = zs.length + 1 := rfl
 have el : lid = 4194304 := rfl
 refine aC rfl (wp_mono (turn n z I (fun j hj => ⟨?_, ?_⟩) (by omega)) (fun p m' q => ?_) fun y_ y_ q => q)
 ·have := (hs j hj).2; omega
 ·have := (hs j hj).1; omega
 ·obtain ⟨f, r'⟩ := p
  cases f with
  | ret v => exact q.elim
  | next =>
   obtain ⟨y8, y9, y10, y11, y12, e, D', O', s', c', ps, I', hp, hs'⟩ := q
   exact .mk D' O' s' c' (l ++ ps) (k + 1) y8 y9 y10 y11 y12 e I' (by omega) (fun j hj => ⟨by have := (hs' j hj).1; have := (hs j hj).1; omega, by have := (hs' j hj).2; have := (hs j hj).2; omega⟩) (by rw [List.length_append]; omega)
  | cont =>
   obtain ⟨y8, y9, y10, y11, y12, e, D', O', s', c', ps, I', hp, hs'⟩ := q
   exact .mk D' O' s' c' (l ++ ps) (k + 1) y8 y9 y10 y11 y12 e I' (by omega) (fun j hj => ⟨by have := (hs' j hj).1; have := (hs j hj).1; omega, by have := (hs' j hj).2; have := (hs j hj).2; omega⟩) (by rw [List.length_append]; omega)
theorem cX6 (n : Nat) {A : Ad} {za : List Int} {v0 v1 : V} {b : Int} {m : MH} {r : Lo} (h : FInv A za v0 v1 b [] r m) : Wp (exs S6 (run S6 (n + 8)) (f_law.drop 8) r) m (bR4 fun v y_ => v = .bool true) nox := by
 obtain ⟨D, O, s, c, l, k, x8, x9, x10, x11, x12, rfl, I, hk, hs, hl⟩ := h
 have el : lid = 4194304 := rfl
 have k0 : k + 0 <= 60 := hk
 refine bG (fK (aC0 l pv pv (fun y_ => false) (fun m' => m' = m) (aD (aC rfl (aF (d9 I.oh ⟨rfl, rfl, ?_, ?_, by omega, ?_⟩))))))
 ·rintro m' rfl; exact bZ I.oh
 ·rintro p hp m' rfl
  exact aC rfl (aH4 (aH (aS (aQ rfl rfl (cK (I.tw p hp).1.eq))) ⟨rfl, rfl⟩))
 ·rintro q5 m5' m5 rfl L5 k5 g5
  have k5 : m5[q5]? = some (.list []) := by rw [k5, List.filter_eq_nil_iff.mpr (fun y_ y_ => Bool.false_ne_true)]; rfl
  refine aW (aF (aK fun q6 m6 L6 k6 g6 => ?_))
  exact aH (show aA2 .Eq _ _ _ = _ from aJ8 (xs := []) (fun y_ q => nomatch q) (L6.has k5) k6) rfl
end P06
end Mini
namespace Mini
open PySem
namespace P06
open C06
theorem cY4 {f : Int} {v : V} (h : v ∈ [V.int 4, V.int 5, V.int 7, V.int (1 + f / 4 % 12)]) : ∃ c : Int, v = .int c /\ 1 <= c /\ c <= 12 := by
 simp only [List.mem_cons, List.not_mem_nil, or_false] at h
 rcases h with rfl | rfl | rfl | rfl
 ·exact ⟨4, rfl, by decide, by decide⟩
 ·exact ⟨5, rfl, by decide, by decide⟩
 ·exact ⟨7, rfl, by decide, by decide⟩
 ·exact ⟨_, rfl, cU0⟩
theorem cB3 {m : MH} {D : Hd} {O : Od} {c o : Int} (h : Ho m N6.C D (Hs.new c o)) (g : Ow m O (Hs.new c o)) (c1 : 1 <= c) (c2 : c <= 12) (o1 : 0 <= o) (o2 : o < c) (ap : ∀ x ∈ D.all, x ∉ O.all) : Sd m D O (Hs.new c o) 0 :=
 ⟨h, g, cM7 c o, c1, c2, ⟨o1, o2⟩, by show o = o + c * 0; omega, List.nodup_nil, ap⟩
theorem nd6 {s c o g k h : Nat} (h1 : c < o) (h2 : o < g) (h3 : g < k) (h4 : k < h) (h5 : h < s) : [s, c, o, g, k, h].Nodup :=
 (List.Perm.nodup_iff (List.perm_append_comm (l₁ := [c, o, g, k, h]) (l₂ := [s]))).mp ((dR h1 (dR h2 (dR h3 (dR h4 (dR h5 (List.pairwise_singleton _ _)))))).imp fun h => Nat.ne_of_lt h)
theorem law_holds (n : Nat) (ns : List Int) (hn : ns.length <= 63) : Wp (run S6 (n + 9) 27 [.scr ns]) [] (fun v y_ => v = .bool true) nox := by
 refine cE cW9 rfl (bC (aH (aO0 rfl (cZ7 f_at (n + 7) ns 0 (by decide) [])) ?_))
 refine bC (aH (bN (aO0 rfl (cZ7 f_at (n + 7) ns 1 (by decide) [])) rfl rfl) ?_)
 generalize at0 ns 0 = f
 generalize at0 ns 1 % 100003 = b
 refine bC (aW (aD (bL2 (aW ?_))))
 refine aD (aC rfl (aD (aC rfl (aD (aC rfl (aD (aC rfl (aF (aK fun q0 m0 L0 k0 g0 => ?_)))))))))
 obtain ⟨v, ev, mv⟩ := cZ8 (xs := [V.int 4, V.int 5, V.int 7, V.int (1 + f / 4 % 12)]) (x := f) (n := 4) (by decide) rfl
 obtain ⟨c, rfl, c1, c2⟩ := cY4 mv
 refine aC rfl (cA6 k0 ev (md60 (by decide) (by decide)) (aD (aC rfl (aF (aK fun qc mc Lc kc gc => ?_)))))
 have c0 : 0 < c := Int.lt_of_lt_of_le (by decide) c1
 have ic : ∀ {m : MH}, m[qc]? = some (.list [.int c, .int 4]) -> aI8 (.ref qc) (.int 0) m = .ok (.int c) m := fun k => by unfold aI8; dsimp only; rw [k]; rfl
 refine bC (aW (aD (dC (aD (aH (aT rfl rfl (ic kc)) (aD (aH (bN rfl (aT rfl rfl (ic kc)) (aL7 c0)) (aF ?_))))))))
 refine dX (cC1 (n + 6) (f / 48 % c) c1 c2 mc) ?_
 rintro y_ m1 ⟨O0, rfl, w0, L1, y0⟩
 refine aD (dC (aC rfl (dX (cC1 (n + 6) (c := 4) 1 (by decide) (by decide) m1) ?_)))
 rintro y_ m2 ⟨O1, rfl, w1, L2, y1⟩
 refine aF (aK fun qo m3 L3 k3 g3 => ?_)
 have W0 := Seg.le w0 (L2.trans L3)
 have W1 := Seg.le w1 L3
 obtain ⟨e0, d0⟩ := Ow.dic W0
 refine bC (bU7 (aD (aC rfl (aF (d9 k3 ⟨rfl, bZ k3, aC rfl (new6 (n + 5) (aT rfl rfl (aG d0 rfl rfl rfl)) (aT rfl rfl (aG d0 rfl rfl rfl)) c1 c2 (md0 c0) (md1 c0) fun D0 m4 h0 L4 z0 => ⟨bZ (L4.has k3), ?_⟩)⟩)))))
 obtain ⟨e1, d1⟩ := Ow.dic (Seg.le W1 L4)
 refine aC rfl (new6 (n + 5) (aT rfl rfl (aG d1 rfl rfl rfl)) (aT rfl rfl (aG d1 rfl rfl rfl)) (by decide) (by decide) (by decide) (by decide) fun D1 m5 h1 L5 z1 => ⟨bZ (L5.has (L4.has k3)), fun qg m6 L6 k6 g6 => ?_⟩)
 refine bC (aW (aD (aC rfl (aD (aC rfl (aF (aK fun qk m7 L7 k7 g7 => ?_)))))))
 refine bC (aW (aF (aK fun qh m8 L8 k8 g8 => ?_)))
 obtain ⟨zs, ez, hz⟩ := bY7 ns
 refine aG5 zs V.int (FInv ⟨m8.length, qc, qo, qg, qk, qh⟩ zs (.scr ns) (.int f) b) (aD (cZ (y := alloc (.list (cut (ns.map V.int) (some 2) (some 62)))) rfl ?_))
 rw [ez]
 refine aH (a := .ref m8.length) (m' := m8 ++ [.list (zs.map V.int)]) rfl (aF (d9 bI ⟨rfl, ?_, ?_, ?_, ?_⟩))
 ·have L9 : Le m8 (m8 ++ [.list (zs.map V.int)]) := .app _ _
  have a1 := aO kc
  have a2 := aO k3
  have a3 := aO k6
  have a4 := aO k7
  have a5 := aO k8
  have b1 := L1.1
  have b2 := L2.1
  have b3 := L3.1
  have b4 := L4.1
  have b5 := L5.1
  have b6 := L6.1
  have t0 := Seg.lt w0
  have t1 := Seg.lt w1
  have t2 := h0.lt
  have t3 := h1.lt
  have L89 := (L7.trans L8).trans L9
  have no : ∀ {a b x : Nat}, a <= b -> x < a -> b <= x -> False := fun h1 h2 h3 => Nat.not_lt.mpr (Nat.le_trans h1 h3) h2
  have l23 : m1.length <= m3.length := Nat.le_trans b2 b3
  have l34 : m2.length <= m4.length := Nat.le_trans b3 b4
  have S0 : Sd (m8 ++ [.list (zs.map V.int)]) D0 O0 (Hs.new c (f / 48 % c)) 0 := cB3 (h0.le (L5.trans (L6.trans L89))) (Seg.le W0 (L4.trans (L5.trans (L6.trans L89)))) c1 c2 (md0 c0) (md1 c0) fun x hx q => no l23 (t0 x q) (z0 x hx)
  have S1 : Sd (m8 ++ [.list (zs.map V.int)]) D1 O1 (Hs.new 4 1) 0 := cB3 (h1.le (L6.trans L89)) (Seg.le W1 (L4.trans (L5.trans (L6.trans L89)))) (by decide) (by decide) (by decide) (by decide) fun x hx q => no l34 (t1 x q) (z1 x hx)
  have ap : ∀ x ∈ reg D0 O0, x ∉ reg D1 O1 := fun x hx q => by
   rcases List.mem_append.mp hx with hx | hx <;> rcases List.mem_append.mp q with q | q
   ·exact no (Nat.le_refl _) (t2 x hx) (z1 x q)
   ·exact no b3 (t1 x q) (z0 x hx)
   ·exact no (Nat.le_trans l23 b4) (t0 x hx) (z1 x q)
   ·exact no (Nat.le_refl _) (t0 x hx) (y1 x q)
  refine .mk (fun j => if j = 0 then D0 else D1) (fun j => if j = 0 then O0 else O1) (fun j => if j = 0 then Hs.new c (f / 48 % c) else Hs.new 4 1) (fun y_ => 0) [] 0 none none none none none rfl ⟨fun j hj => ?_, fun i j hi hj hij x hx => ?_, fun j hj x hx => ?_, ?_, bI, ?_, ?_, ?_, ?_, ?_, (fun y_ q => nomatch q)⟩ (by omega) (fun j hj => ?_) (Nat.zero_le _)
  ·by_cases z : j = 0
   ·rw [if_pos z, if_pos z, if_pos z]; exact S0
   ·rw [if_neg z, if_neg z, if_neg z]; exact S1
  ·by_cases z : i = 0
   ·have zj : j ≠ 0 := fun e => hij (z.trans e.symm)
    rw [if_pos z, if_pos z] at hx
    rw [if_neg zj, if_neg zj]
    exact ap x hx
   ·have zj : j = 0 := by omega
    rw [if_neg z, if_neg z] at hx
    rw [if_pos zj, if_pos zj]
    exact fun q => ap x q hx
  ·have key : x ≠ m8.length /\ x ≠ qc /\ x ≠ qo /\ x ≠ qg /\ x ≠ qk /\ x ≠ qh := by
    have x1 : mc.length <= x /\ x < m5.length /\ (x < m2.length \/ m3.length <= x) := by
     by_cases z : j = 0
     ·rw [if_pos z, if_pos z] at hx
      rcases List.mem_append.mp hx with hx | hx
      ·exact ⟨Nat.le_trans b1 (Nat.le_trans l23 (z0 x hx)), Nat.lt_of_lt_of_le (t2 x hx) b5, .inr (z0 x hx)⟩
      ·exact ⟨y0 x hx, Nat.lt_of_lt_of_le (t0 x hx) (Nat.le_trans l23 (Nat.le_trans b4 b5)), .inl (Nat.lt_of_lt_of_le (t0 x hx) b2)⟩
     ·rw [if_neg z, if_neg z] at hx
      rcases List.mem_append.mp hx with hx | hx
      ·exact ⟨Nat.le_trans b1 (Nat.le_trans l23 (Nat.le_trans b4 (z1 x hx))), t3 x hx, .inr (Nat.le_trans b4 (z1 x hx))⟩
      ·exact ⟨Nat.le_trans b1 (y1 x hx), Nat.lt_of_lt_of_le (t1 x hx) (Nat.le_trans l34 b5), .inl (t1 x hx)⟩
    have up : ∀ {a : Nat}, m5.length <= a -> x ≠ a := fun h => Nat.ne_of_lt (Nat.lt_of_lt_of_le x1.2.1 h)
    have l6 : m5.length <= m6.length := b6
    have l7 : m5.length <= m7.length := Nat.le_trans l6 L7.1
    exact ⟨up (Nat.le_trans l7 L8.1), Nat.ne_of_gt (Nat.lt_of_lt_of_le a1 x1.1), x1.2.2.elim (fun h => Nat.ne_of_lt (Nat.lt_of_lt_of_le h g3)) (fun h => Nat.ne_of_gt (Nat.lt_of_lt_of_le a2 h)), up g6, up (Nat.le_trans l6 g7), up (Nat.le_trans l7 g8)⟩
   intro q
   have q : x ∈ [m8.length, qc, qo, qg, qk, qh] := q
   simp only [List.mem_cons, List.not_mem_nil, or_false] at q
   rcases q with q | q | q | q | q | q
   ·exact key.1 q
   ·exact key.2.1 q
   ·exact key.2.2.1 q
   ·exact key.2.2.2.1 q
   ·exact key.2.2.2.2.1 q
   ·exact key.2.2.2.2.2 q
  ·exact nd6 (Nat.lt_of_lt_of_le a1 (Nat.le_trans b1 (Nat.le_trans b2 g3))) (Nat.lt_of_lt_of_le a2 (Nat.le_trans b4 (Nat.le_trans b5 g6))) (Nat.lt_of_lt_of_le a3 g7) (Nat.lt_of_lt_of_le a4 g8) a5
  ·exact L89.has (L6.has (L5.has (L4.has (L3.has (L2.has (L1.has kc))))))
  ·exact L89.has (L6.has (L5.has (L4.has k3)))
  ·exact L89.has k6
  ·exact (L8.trans L9).has k7
  ·exact L9.has k8
  ·by_cases z : j = 0
   ·rw [if_pos z]; exact ⟨Nat.le_refl _, Nat.le_refl _⟩
   ·rw [if_neg z]; exact ⟨Nat.le_refl _, Nat.le_refl _⟩
 ·rintro zs' r m ⟨D, O, s, c, l, k, x8, x9, x10, x11, x12, rfl, I, _⟩; exact bZ I.os
 ·exact fun z zs' r m h => cK5 n (Q := bR4 fun v y_ => v = .bool true) h
 ·exact fun r m h => cX6 n h
end P06
end Mini
open PySem PySem.W PyProof.Rows
namespace Mini
noncomputable def keep06 : List Nat := [1, 2, 3, 4, 5, 7, 8, 9, 10, 11, 13, 14, 15, 16, 18, 20, 21, 22, 23, 24, 25, 26, 27, 28, 29, 30, 31, 32]
noncomputable def chk06 (K : Frag) : Bool := cY7 C06.sig [] 27 K
theorem said06 : PySem.Challenge.rw_uf030037_06.wellSaid = true := by kernel_rfl
theorem run06 : ∀ w os, (runT PySem.Challenge.rw_uf030037_06.prog 3600 w os).map (fun s => bB1 PySem.Challenge.rw_uf030037_06.prog (view PySem.Challenge.rw_uf030037_06.prog keep06) PySem.Challenge.rw_uf030037_06.row.records (fun h => chk06 (aS9 (List.range 274) h)) w s.abs) = some (true, openGood (view PySem.Challenge.rw_uf030037_06.prog keep06) [], true) := by intro w os; kernel_rfl
end Mini
open PySem PySem.W PyProof.Rows Mini
namespace Mini
set_option tactic.hygienic true in
theorem t06 : PySem.Challenge.rw_uf030037_06.Holds := by
 refine bU9 (keep := keep06) (as := List.range 274) (chk := chk06) (N := 3600) (d := ((defOf (view PySem.Challenge.rw_uf030037_06.prog keep06) PySem.Challenge.rw_uf030037_06.row.name).get (by kernel_rfl)).1) (kwd := []) said06 (by kernel_rfl) (by decide +kernel) (fun s => rfl) run06 (by kernel_rfl) (by kernel_rfl) (by kernel_rfl) (by kernel_rfl) (by kernel_rfl) ⟨rfl, rfl, rfl, rfl, rfl, by kernel_rfl⟩ ⟨[.list []], by decide +kernel, by decide +kernel⟩ ?_
 intro w s₀ s₁ mg mb G Y fa o pm cd doc dV kV ho hd hcd hD hmg hg args vals as hpre hlay hrd hwl hlo
 obtain ⟨K, KX, hck⟩ := Y
 refine Ground.open G ?_
 intro T B D TE TW
 have hmg' : mg (Str.ofString "law") = some (.ref fa) := hmg
 clear hd hcd hD hmg ho
 wrow_args hpre hlay hrd hwl hlo
 rename_i ns _ _ _ _ _ _ _ l vs _ hL _ _ _ hI _ hlen _
 refine glue (S := C06.sig) (qok := []) (k := 27) (n := 9) (d := _) T (by kernel_rfl) KX hg hck rfl hmg' hL hI (by omega) (by decide) (P06.law_holds 0 ns (by omega)) ?_ ?_
 ·intro cls; rfl
 ·wrow_post
end Mini
theorem PySem.Challenge.cw_uf030037_06_holds : PySem.Challenge.rw_uf030037_06.Holds :=
 Mini.t06
