import PyProof.Rows.All
import PyProof.Meets
import PyProof.Ns1
import PyProof.ListIndex
import PyProof.ForAny
import PyProof.CallRoads
import PyProof.CallType
import PyProof.Cells
import PyProof.PlainList
import PyProof.StrWalks
import PyProof.CompFree
import PyProof.PureInt
import PyProof.MeetsSeq
import PyProof.DictKinds
import PyProof.MeetsDictList
import PyProof.DictStraight
import PyProof.TupleKey
import PyProof.DictWalks
import PyProof.EnumFor
import PyProof.EnumStmt
import PyProof.EnumMake
import PyProof.EqAt
import PyProof.EqKinds
import PyProof.P3Statements
import PyProof.ExcClass
import PyProof.RaisesMany
import PyProof.StationsW
import PyProof.StrBlockL
import PyProof.RangeIter
import PyProof.WalksMore
import PyProof.RangeFor
import PyProof.InstLoad
import PyProof.InstStoreFacts
import PyProof.IsiHeapPairs
import PyProof.IsiPairs
import PyProof.IsiSeqPairs
import PyProof.ListIndexNeg
import PyProof.ObjNew
import PyProof.Rows.AttrNodeAny
import PyProof.RulesAssignMore
import PyProof.Rows.SortShell
import PyProof.Rows.SortWalk
import PyProof.Rows.Range3
import PyProof.Rows.SetFrom
import OpenK.KCall
import OpenK.KMake
import OpenK.TopRead
import OpenK.KWalk
import OpenK.KLine
import KE.KPop
import KE.KDictList
import KE.KDictSum
import KE.KEqDict
import Wide.Txt2
import Wide.All
import OpenK.AllK
import Wide.FinOn
import PySem.Challenge.RW_uf030037_11
set_option Elab.async false
set_option maxRecDepth 100000
set_option maxHeartbeats 8000000
set_option autoImplicit false
set_option linter.all false
set_option genSizeOf false
set_option genInjectivity false
set_option bootstrap.genMatcherCode false
local macro_rules
 | `(tactic| omega) => `(tactic| first | lia | omega (splitDisjunctions := true))
set_option tactic.hygienic false
namespace Mini
open PySem
inductive V where
 | none | bool (b : Bool) | int (i : Int) | str (s : Str) | tup (xs : List V) | ref (n : Nat) | fn (k : Nat) | exc (c : Nat) | scr (ns : List Int)
inductive Ky where
 | int (i : Int) | str (s : Str) | tup (ks : List (Sum Int Str))
 deriving DecidableEq
inductive MObj where
 | list (xs : List V)
 | dict (kvs : List (Ky × V)) (e : Nat)
 | inst (c : Nat) (fs : List (Nat × V))
noncomputable abbrev MH := List MObj
inductive Res (α : Type) where
 | ok (a : α) (m : MH)
 | exc (c : Nat) (m : MH)
 | bad
noncomputable abbrev Mn (α : Type) := MH -> Res α
noncomputable def Res.bind {α β : Type} (r : Res α) (f : α -> Mn β) : Res β := match r with
 | .ok a m => f a m
 | .exc c m => .exc c m
 | .bad => .bad
noncomputable def Res.nox {α : Type} (r : Res α) : Res α := match r with
 | .exc _ _ => .bad
 | r => r
noncomputable def ret {α : Type} (a : α) : Mn α := fun m => .ok a m
noncomputable def bad {α : Type} : Mn α := fun y_ => .bad
noncomputable def bnd {α β : Type} (x : Mn α) (f : α -> Mn β) : Mn β := fun m => (x m).bind f
noncomputable def ofO {α : Type} : Option α -> Mn α
 | some a => ret a
 | Option.none => bad
noncomputable def Ky.val : Ky -> V
 | .int i => .int i
 | .str s => .str s
 | .tup ks => .tup (ks.map fun x => match x with | .inl i => .int i | .inr s => .str s)
noncomputable def Ky.sort : Ky -> Nat
 | .int _ => 0
 | .str _ => 1
 | .tup _ => 2
noncomputable def aA0 {α β : Type} (g : α -> Option β) : List α -> Option (List β)
 | [] => some []
 | x :: xs => match g x, aA0 g xs with
  | some d, some ds => some (d :: ds)
  | _, _ => Option.none
noncomputable def rd : Nat -> MH -> V -> Option PyData
 | 0, _, _ => Option.none
 | f + 1, m, v => match v with
  | .none => some .none
  | .bool b => some (.bool b)
  | .int i => some (.int i)
  | .str s => some (.str s)
  | .tup xs => (aA0 (rd f m) xs).map .tuple
  | .ref n => match m[n]? with
   | some (.list xs) => (aA0 (rd f m) xs).map .list
   | _ => Option.none
  | _ => Option.none
noncomputable def atom : V -> Option (Sum Int Str)
 | .int i => some (.inl i)
 | .str s => some (.inr s)
 | _ => Option.none
noncomputable def dM : V -> Option Ky
 | .int i => some (.int i)
 | .tup xs => (aA0 atom xs).map .tup
 | _ => Option.none
noncomputable def aI9 : Nat := 12
noncomputable def bM (k : Ky) : List (Ky × V) -> Option V
 | [] => Option.none
 | (k', v) :: r => if k' = k then some v else bM k r
noncomputable def intK (kvs : List (Ky × V)) : Bool := kvs.all fun p => p.1.sort == 0
noncomputable def eqV (a b : V) : Mn Bool := fun m => match rd aI9 m a with
 | some x => match rd aI9 m b with
  | some y => .ok (PyData.eqv x y) m
  | Option.none => .bad
 | Option.none => .bad
noncomputable def at_ {α : Type} (xs : List α) (i : Int) : Option α :=
 if 0 <= i then xs[i.toNat]? else if 0 <= i + xs.length then xs[(i + xs.length).toNat]? else Option.none
noncomputable def eB (n : Nat) (i : Int) : Nat := if 0 <= i then min i.toNat n else (i + n).toNat
noncomputable def cut {α : Type} (xs : List α) (lo hi : Option Int) : List α :=
 let a := match lo with | some i => eB xs.length i | Option.none => 0
 let b := match hi with | some i => eB xs.length i | Option.none => xs.length
 (xs.take b).drop a
noncomputable def put (k : Ky) (v : V) : List (Ky × V) -> List (Ky × V)
 | [] => [(k, v)]
 | (k', v') :: r => if k' = k then (k', v) :: r else (k', v') :: put k v r
noncomputable def eX (k : Ky) : List (Ky × V) -> List (Ky × V)
 | [] => []
 | (k', v') :: r => if k' = k then r else (k', v') :: eX k r
noncomputable def aJ (k : Ky) (kvs : List (Ky × V)) : Bool := kvs.all fun p => p.1.sort == k.sort
noncomputable def aK1 (i : Nat) : List (Nat × V) -> Option V
 | [] => Option.none
 | (j, v) :: r => if j = i then some v else aK1 i r
noncomputable def eG (i : Nat) (v : V) : List (Nat × V) -> List (Nat × V)
 | [] => [(i, v)]
 | (j, v') :: r => if j = i then (j, v) :: r else (j, v') :: eG i v r
inductive Bi where
 | len | abs | int | str | list | tuple | dict | sorted | max2 | min2 | max1 | lenset
 deriving DecidableEq
inductive Sm where
 | append | pop | clear | get | join | split | count | index
 deriving DecidableEq
inductive Ty where
 | int | bool | str | list | tuple | dict | cls (c : Nat)
 deriving DecidableEq
inductive IK where
 | expr | range | enum
inductive CT where
 | one (i : Nat) | many (is : List Nat)
 deriving DecidableEq
inductive Lt where
 | none | bool (b : Bool) | int (i : Int) | str (s : Str)
noncomputable def Lt.val : Lt -> V
 | .none => .none
 | .bool b => .bool b
 | .int i => .int i
 | .str s => .str s
set_option genCtorIdx false in
mutual
inductive CE where
 | cnst (v : Lt)
 | var (i : Nat)
 | glob (i : Nat)
 | fnv (k : Nat)
 | bin (op : Operator) (a b : CE)
 | neg (a : CE)
 | not (a : CE)
 | boolop (isAnd : Bool) (as : List CE)
 | cmp (a : CE) (ops : List CmpOp) (bs : List CE)
 | ite (c : CB) (a b : CE)
 | tup (as : List CE)
 | list (as : List CE)
 | dict (ks : List Str) (vs : List CE)
 | idx (a i : CE)
 | slice (a lo hi st : CE)
 | attr (a : CE) (n : Nat)
 | call (k : Nat) (as : List CE)
 | callv (f : CE) (as : List CE)
 | new (c : Nat) (as : List CE)
 | meth (o : CE) (n : Nat) (as : List CE)
 | smeth (o : CE) (n : Sm) (as : List CE)
 | bi (b : Bi) (as : List CE)
 | listrange (as : List CE)
 | isi (a : CE) (t : Ty)
 | comp (elt : CE) (t : CT) (nl : Nat) (k : IK) (src : List CE) (ifs : List CB)
inductive CB where
 | not (b : CB)
 | all (isAnd : Bool) (bs : List CB)
 | val (e : CE)
end
set_option genCtorIdx false in
inductive CTgt where
 | one (t : CT) | attr (o : CE) (n : Nat) | idx (o i : CE) | idx2 (o i o' i' : CE)
set_option genCtorIdx false in
inductive CS where
 | asg (t : CTgt) (e : CE)
 | exp (e : CE)
 | ite (c : CB) (a b : List CS)
 | for_ (k : IK) (t : CT) (src : List CE) (body : List CS)
 | wh (c : CB) (body : List CS)
 | ret (e : CE)
 | rse (c : Nat) (msg : Str)
 | try_ (body : List CS) (c : Nat) (nm : Option Nat) (h : CE)
 | cont
 | pass
structure FnD where
 name : Str
 np : Nat
 names : List Str
 body : List CS
structure ClsD where
 name : Str
 init : Option Nat
 meths : List (Nat × Nat)
 exc : Bool
 supers : List Nat
structure Sig where
 fns : List FnD
 cls : List ClsD
 attrs : List Str
 globs : List (Str × Lt)
noncomputable abbrev Lo := List (Option V)
noncomputable def lid : Nat := 4194304
noncomputable def eC (v : V) : Mn Bool := fun m => match v with
 | .none => .ok false m
 | .bool b => .ok b m
 | .int i => .ok (i != 0) m
 | .str s => if s.length <= lid then .ok (s.length != 0) m else .bad
 | .tup xs => if xs.length <= lid then .ok (!xs.isEmpty) m else .bad
 | .ref n => match m[n]? with
  | some (.list xs) => .ok (!xs.isEmpty) m
  | _ => .bad
 | _ => .bad
noncomputable def alloc (o : MObj) : Mn V := fun m => .ok (.ref m.length) (m ++ [o])
noncomputable def bL0 (op : Operator) (a b : V) : Mn V := fun m => match op, a, b with
 | .Add, .int i, .int j => .ok (.int (i + j)) m
 | .Sub, .int i, .int j => .ok (.int (i - j)) m
 | .Mult, .int i, .int j => if i.natAbs < 1073741824 \/ j.natAbs < 1073741824 then .ok (.int (i * j)) m else .bad
 | .FloorDiv, .int i, .int j => if 0 < j /\ j.natAbs < 1073741824 then .ok (.int (i / j)) m else .bad
 | .Mod, .int i, .int j => if 0 < j then .ok (.int (i % j)) m else .bad
 | .Add, .str x, .str y => if x.length + y.length <= lid then .ok (.str (x ++ y)) m else .bad
 | .Add, .ref p, .ref q => match m[p]?, m[q]? with
  | some (.list x), some (.list y) => if x.length + y.length <= lid then alloc (.list (x ++ y)) m else .bad
  | _, _ => .bad
 | _, _, _ => .bad
noncomputable def inV (x c : V) : Mn Bool := fun m => match c with
 | .tup ys => match aA0 (rd aI9 m) ys, rd aI9 m x with
  | some ds, some d => .ok (ds.any fun e => PyData.eqv e d) m
  | _, _ => .bad
 | .str y => match x with
  | .str s => match s.cps.toList with
   | [c] => .ok (decide (c ∈ y.cps.toList)) m
   | _ => .bad
  | _ => .bad
 | .ref n => match m[n]? with
  | some (.list ys) => match aA0 (rd aI9 m) ys, rd aI9 m x with
   | some ds, some d => .ok (ds.any fun e => PyData.eqv e d) m
   | _, _ => .bad
  | some (.dict kvs _) => match dM x with
   | some k => if aJ k kvs then .ok (bM k kvs).isSome m else .bad
   | Option.none => .bad
  | _ => .bad
 | _ => .bad
noncomputable def aJ1 (op : CmpOp) (a b : V) : Mn Bool := match op with
 | .Eq => eqV a b
 | .NotEq => bnd (eqV a b) fun c => ret (!c)
 | .In => inV a b
 | .NotIn => bnd (inV a b) fun c => ret (!c)
 | .Is => bad
 | .IsNot => bad
 | .Lt => match a, b with | .int i, .int j => ret (decide (i < j)) | _, _ => bad
 | .LtE => match a, b with | .int i, .int j => ret (decide (i <= j)) | _, _ => bad
 | .Gt => match a, b with | .int i, .int j => ret (decide (i > j)) | _, _ => bad
 | .GtE => match a, b with | .int i, .int j => ret (decide (i ≥ j)) | _, _ => bad
noncomputable def aQ0 (a i : V) : Mn V := fun m => match a with
 | .tup xs => match i with
  | .int k => if k.natAbs < 2 ^ 60 then ofO (at_ xs k) m else .bad
  | _ => .bad
 | .str s => match i with
  | .int k => if k.natAbs < 2 ^ 60 then ofO ((at_ s.cps.toList k).map fun c => .str ⟨#[c]⟩) m else .bad
  | _ => .bad
 | .ref n => match m[n]? with
  | some (.list xs) => match i with
   | .int k => if k.natAbs < 2 ^ 60 then ofO (at_ xs k) m else .bad
   | _ => .bad
  | some (.dict kvs _) => match dM i with
   | some k => if aJ k kvs then ofO (bM k kvs) m else .bad
   | Option.none => .bad
  | _ => .bad
 | .scr ns => match i with
  | .int k => if 0 <= k then ofO ((ns[k.toNat]?).map .int) m else .bad
  | _ => .bad
 | _ => .bad
noncomputable def aD6 (v : V) : Option (Option Int) := match v with
 | .none => some Option.none
 | .int i => if i.natAbs < 2 ^ 60 then some (some i) else Option.none
 | _ => Option.none
noncomputable def cG {α : Type} (xs : List α) (lo hi st : V) : Option (List α) :=
 match st with
 | .none => match aD6 lo, aD6 hi with
  | some a, some b => some (cut xs a b)
  | _, _ => Option.none
 | .int k => match lo, hi with
  | .none, .none => if k = 1 then some xs else if k = -1 then some xs.reverse else Option.none
  | _, _ => Option.none
 | _ => Option.none
noncomputable def dI (a lo hi st : V) : Mn V := fun m => match a with
 | .tup xs => match st with
  | .none => if xs.length <= lid then ofO ((cG xs lo hi .none).map .tup) m else .bad
  | _ => .bad
 | .str s => match st with
  | .none => if s.length <= lid then ofO ((cG s.cps.toList lo hi .none).map fun l => .str ⟨l.toArray⟩) m else .bad
  | _ => .bad
 | .ref n => match m[n]? with
  | some (.list xs) => match cG xs lo hi st with
   | some l => alloc (.list l) m
   | Option.none => .bad
  | _ => .bad
 | .scr ns => match st with
  | .none => match cG (ns.map V.int) lo hi .none with
   | some l => alloc (.list l) m
   | Option.none => .bad
  | _ => .bad
 | _ => .bad
noncomputable def aC0 (a : V) (n : Nat) : Mn V := fun m => match a with
 | .ref p => match m[p]? with
  | some (.inst _ fs) => ofO (aK1 n fs) m
  | _ => .bad
 | _ => .bad
noncomputable def eU : List V -> Option (List Int)
 | [] => some []
 | .int i :: r => (eU r).map (i :: ·)
 | _ :: _ => Option.none
noncomputable def fK : List (Ky × V) -> Option (List Int)
 | [] => some []
 | (.int i, _) :: r => (fK r).map (i :: ·)
 | _ :: _ => Option.none
noncomputable def insI (i : Int) : List Int -> List Int
 | [] => [i]
 | j :: r => if i <= j then i :: j :: r else j :: insI i r
noncomputable def sortI : List Int -> List Int
 | [] => []
 | i :: r => insI i (sortI r)
noncomputable def bZ6 (acc : List Int) (x : Int) : List Int := if acc.any (· == x) then acc else acc ++ [x]
noncomputable def aJ0 (l : List Int) : List Int := l.foldl bZ6 []
noncomputable def fH (lo hi : Int) : List V := (List.range (hi - lo).toNat).map fun (k : Nat) => V.int (lo + k)
noncomputable def dR : List V -> Option (List V)
 | [.int n] => if n.natAbs < 2 ^ 30 then some (fH 0 n) else Option.none
 | [.int a, .int b] => if a.natAbs < 2 ^ 30 && b.natAbs < 2 ^ 30 then some (fH a b) else Option.none
 | _ => Option.none
noncomputable def cQ0 (i : Int) : Str := Str.ofString (toString i)
noncomputable def bO7 (c : Nat) : List Nat -> List (List Nat)
 | [] => [[]]
 | x :: l => if x = c then [] :: bO7 c l else match bO7 c l with
  | [] => [[x]]
  | p :: ps => (x :: p) :: ps
noncomputable def biV (b : Bi) (as : List V) : Mn V := fun m => match b, as with
 | .len, [.str s] => if s.length <= lid then .ok (.int s.length) m else .bad
 | .len, [.tup xs] => if xs.length <= lid then .ok (.int xs.length) m else .bad
 | .len, [.scr ns] => .ok (.int ns.length) m
 | .len, [.ref n] => match m[n]? with
  | some (.list xs) => .ok (.int xs.length) m
  | _ => .bad
 | .abs, [.int i] => .ok (.int (if i < 0 then -i else i)) m
 | .int, [.bool c] => .ok (.int (if c then 1 else 0)) m
 | .str, [.int i] => if i.natAbs < 1000000 then .ok (.str (cQ0 i)) m else .bad
 | .list, [.ref n] => match m[n]? with
  | some (.list xs) => alloc (.list xs) m
  | some (.dict kvs _) => alloc (.list (kvs.map fun p => p.1.val)) m
  | _ => .bad
 | .tuple, [.ref n] => match m[n]? with
  | some (.list xs) => .ok (.tup xs) m
  | _ => .bad
 | .dict, [.ref n] => match m[n]? with
  | some (.dict kvs _) => if intK kvs then alloc (.dict kvs 0) m else .bad
  | _ => .bad
 | .sorted, [.ref n] => match m[n]? with
  | some (.dict kvs _) => match fK kvs with
   | some is => if is.length < 64 \/ is.Pairwise (· < ·) then alloc (.list ((sortI is).map .int)) m else .bad
   | Option.none => .bad
  | _ => .bad
 | .max2, [.int i, .int j] => .ok (.int (if j > i then j else i)) m
 | .min2, [.int i, .int j] => .ok (.int (if j < i then j else i)) m
 | .lenset, [.ref n] => match m[n]? with
  | some (.list xs) => match eU xs with
   | some is => if is.length < 4000 then .ok (.int (aJ0 is).length) m else .bad
   | Option.none => .bad
  | _ => .bad
 | _, _ => .bad
noncomputable def aM4 (S : Sig) (a : V) (t : Ty) : Mn Bool := fun m => match t, a with
 | .cls c, .exc d => match S.cls[d]? with
  | some x => if x.exc then .ok (x.supers.contains c) m else .bad
  | Option.none => .bad
 | .cls _, _ => .bad
 | .int, .int _ => .ok true m
 | .int, .bool _ => .ok true m
 | .bool, .bool _ => .ok true m
 | .str, .str _ => .ok true m
 | .tuple, .tup _ => .ok true m
 | t, .ref n => match m[n]? with
  | some (.list _) => .ok (t == .list) m
  | some (.dict _ _) => .ok (t == .dict) m
  | _ => .bad
 | _, .fn _ => .bad
 | _, .exc _ => .bad
 | _, .scr _ => .bad
 | _, _ => .ok false m
noncomputable def dT : List V -> Option (List Str)
 | [] => some []
 | .str x :: r => (dT r).map (x :: ·)
 | _ :: _ => Option.none
noncomputable def bA3 : List V -> Option (List Bool)
 | [] => some []
 | .bool x :: r => (bA3 r).map (x :: ·)
 | _ :: _ => Option.none
noncomputable def aK0 (sep : Str) : List Str -> Str
 | [] => Str.empty
 | x :: r => r.foldl (fun acc p => acc ++ sep ++ p) x
noncomputable def fG (sep : Str) (l : List Str) : Nat := l.foldl (fun k x => k + x.length + sep.length) 0
noncomputable def smK (o : V) (m : MH) : Option Nat := match o with
 | .ref p => match m[p]? with
  | some (.list _) => some 0
  | some (.dict _ _) => some 1
  | _ => Option.none
 | .str _ => some 2
 | _ => Option.none
noncomputable def smH (k : Nat) (n : Sm) : Bool := match k, n with
 | 0, .append => true
 | 0, .pop => true
 | 1, .pop => true
 | 1, .get => true
 | 2, .join => true
 | _, _ => false
noncomputable def bS0 (p : Nat) (xs : List V) (n : Sm) (as : List V) : Mn V := fun m => match n with
 | .append => (match as with | [v] => (if xs.length < lid then .ok .none (m.set p (.list (xs ++ [v]))) else .bad) | _ => .bad)
 | .pop => (match as with
  | [i] => (match i with
   | .int k => if 0 <= k then (match xs[k.toNat]? with
     | some v => if k.natAbs < 2 ^ 60 then .ok v (m.set p (.list (xs.eraseIdx k.toNat))) else .bad
     | Option.none => .bad)
    else .bad
   | _ => .bad)
  | _ => .bad)
 | .clear => (match as with | [] => .ok .none (m.set p (.list [])) | _ => .bad)
 | .count => (match as with
  | [i] => (match i with
   | .bool b => (match bA3 xs with | some bs => .ok (.int (bs.count b)) m | Option.none => .bad)
   | _ => .bad)
  | _ => .bad)
 | .index => (match as with
  | [i] => (match i with
   | .bool b => (match bA3 xs with | some bs => if bs.contains b then .ok (.int (bs.idxOf b)) m else .bad | Option.none => .bad)
   | _ => .bad)
  | _ => .bad)
 | _ => .bad
noncomputable def aI8 (p : Nat) (kvs : List (Ky × V)) (e : Nat) (n : Sm) (as : List V) : Mn V := fun m => match n with
 | .get => (match as with
  | [k, d] => (match k with
   | .int i => if aJ (.int i) kvs then .ok ((bM (.int i) kvs).getD d) m else .bad
   | _ => .bad)
  | _ => .bad)
 | .pop => (match as with
  | [k] => (match k with
   | .int i => if aJ (.int i) kvs then (match bM (.int i) kvs with
     | some v => .ok v (m.set p (.dict (eX (.int i) kvs) (e + 1)))
     | Option.none => .bad)
    else .bad
   | _ => .bad)
  | _ => .bad)
 | .clear => (match as with | [] => (if intK kvs then .ok .none (m.set p (.dict [] (e + 1))) else .bad) | _ => .bad)
 | _ => .bad
noncomputable def strM (s : Str) (n : Sm) (as : List V) : Mn V := fun m => match n with
 | .join => (match as with
  | [v] => (match v with
   | .ref p => (match m[p]? with
    | some (.list xs) => (match dT xs with
     | some l => if fG s l <= lid then .ok (.str (aK0 s l)) m else .bad
     | Option.none => .bad)
    | _ => .bad)
   | _ => .bad)
  | _ => .bad)
 | .split => (match as with
  | [v] => (match v with
   | .str sep => (match sep.cps.toList with
    | [c] => if s.length <= 4000 then alloc (.list ((bO7 c s.cps.toList).map fun l => .str ⟨l.toArray⟩)) m else .bad
    | _ => .bad)
   | _ => .bad)
  | _ => .bad)
 | _ => .bad
noncomputable def dH (k : Nat) (o : V) (n : Sm) (as : List V) : Mn V := fun m => match k with
 | 0 => (match o with
  | .ref p => (match m[p]? with | some (.list xs) => bS0 p xs n as m | _ => .bad)
  | _ => .bad)
 | 1 => (match o with
  | .ref p => (match m[p]? with | some (.dict kvs e) => aI8 p kvs e n as m | _ => .bad)
  | _ => .bad)
 | 2 => (match o with
  | .str s => strM s n as m
  | _ => .bad)
 | _ => .bad
mutual
noncomputable def V.same : V -> V -> Bool
 | .none, y => match y with | .none => true | _ => false
 | .bool a, y => match y with | .bool b => a == b | _ => false
 | .int a, y => match y with | .int b => a == b | _ => false
 | .str a, y => match y with | .str b => a == b | _ => false
 | .tup xs, y => match y with | .tup ys => V.sames xs ys | _ => false
 | .ref a, y => match y with | .ref b => a == b | _ => false
 | .fn a, y => match y with | .fn b => a == b | _ => false
 | .exc a, y => match y with | .exc b => a == b | _ => false
 | .scr a, y => match y with | .scr b => a == b | _ => false
noncomputable def V.sames : List V -> List V -> Bool
 | [], ys => ys.isEmpty
 | x :: xs, ys => match ys with
  | [] => false
  | y :: ys => V.same x y && V.sames xs ys
end
mutual
theorem bP7 : ∀ v : V, V.same v v = true
 | .none => rfl
 | .bool b => beq_self_eq_true b
 | .int i => beq_self_eq_true i
 | .str s => beq_self_eq_true s
 | .tup xs => fA xs
 | .ref n => beq_self_eq_true n
 | .fn n => beq_self_eq_true n
 | .exc n => beq_self_eq_true n
 | .scr n => beq_self_eq_true n
theorem fA : ∀ xs : List V, V.sames xs xs = true
 | [] => rfl
 | x :: xs => by show (V.same x x && V.sames xs xs) = true; rw [bP7 x, fA xs]; rfl
end
set_option genCtorIdx false in
inductive Gd where
 | none | list (n : Nat) (xs : List V) | dict (n : Nat) (e : Nat)
noncomputable def Gd.stays (g : Gd) (m : MH) : Bool := match g with
 | .none => true
 | .list n xs => match m[n]? with
  | some (.list ys) => V.sames xs ys
  | _ => false
 | .dict n e => match m[n]? with
  | some (.dict _ e') => e == e'
  | _ => false
noncomputable def eA (v : V) : Mn (List V × Gd) := fun m => match v with
 | .str s => .ok (s.cps.toList.map fun c => .str ⟨#[c]⟩, .none) m
 | .ref n => match m[n]? with
  | some (.list xs) => .ok (xs, .list n xs) m
  | some (.dict kvs e) => .ok (kvs.map fun p => p.1.val, .dict n e) m
  | _ => .bad
 | _ => .bad
noncomputable def aW8 : Nat -> List V -> List V
 | _, [] => []
 | k, x :: xs => .tup [.int k, x] :: aW8 (k + 1) xs
noncomputable def cR8 (v : V) : Mn (List V × Gd) := fun m => match v with
 | .ref n => match m[n]? with
  | some (.list xs) => .ok (aW8 0 xs, .list n xs) m
  | _ => .bad
 | _ => .bad
noncomputable def fC (k : IK) (vs : List V) : Mn (List V × Gd) := match k, vs with
 | .expr, [v] => eA v
 | .range, vs => match dR vs with
  | some l => ret (l, .none)
  | Option.none => bad
 | .enum, [v] => cR8 v
 | _, _ => bad
noncomputable def eN : List Nat -> List V -> Lo -> Option Lo
 | [], [], r => some r
 | i :: is, v :: vs, r => eN is vs (r.set i (some v))
 | _, _, _ => Option.none
noncomputable def aJ6 (t : CT) (v : V) (r : Lo) : Mn Lo := fun m => match t with
 | .one i => .ok (r.set i (some v)) m
 | .many is => match v with
  | .tup vs => ofO (eN is vs r) m
  | _ => .bad
noncomputable def dN (o : V) (n : Nat) (v : V) : Mn Unit := fun m => match o with
 | .ref p => match m[p]? with
  | some (.inst c fs) => .ok () (m.set p (.inst c (eG n v fs)))
  | _ => .bad
 | _ => .bad
noncomputable def dK (o i v : V) : Mn Unit := fun m => match o with
 | .ref p => match m[p]? with
  | some (.dict kvs e) => match dM i with
   | some k => if aJ k kvs && kvs.length < lid then .ok () (m.set p (.dict (put k v kvs) (e + 1))) else .bad
   | Option.none => .bad
  | _ => .bad
 | _ => .bad
inductive Fl where
 | next | cont | ret (v : V)
noncomputable def aM6 (g : Gd) (step : V -> Lo -> Mn (Fl × Lo)) : List V -> Lo -> Mn (Fl × Lo)
 | [], r => fun m => if g.stays m then .ok (.next, r) m else .bad
 | v :: vs, r => fun m => if g.stays m then (step v r m).bind (fun p => match p.1 with
   | .ret x => ret (.ret x, p.2)
   | _ => aM6 g step vs p.2) else .bad
noncomputable def d8 (o : Option V) (r : List V) : List V := match o with
 | some x => x :: r
 | Option.none => r
noncomputable def bG (g : Gd) (step : V -> Mn (Option V)) : List V -> Mn (List V)
 | [] => fun m => if g.stays m then .ok [] m else .bad
 | v :: vs => fun m => if g.stays m then (step v m).nox.bind (fun o => bnd (bG g step vs) fun r => ret (d8 o r)) else .bad
noncomputable def aF9 (c : Lo -> Mn Bool) (body : Lo -> Mn (Fl × Lo)) : Nat -> Lo -> Mn (Fl × Lo)
 | 0, _ => bad
 | n + 1, r => bnd (fun m => (c r m).nox) fun b => if b then bnd (fun m => (body r m).nox) fun p => match p.1 with
   | .ret x => ret (.ret x, p.2)
   | _ => aF9 c body n p.2
  else ret (.next, r)
noncomputable def cQ8 : Nat := 1000000
noncomputable abbrev Fns := Nat -> List V -> Mn V
noncomputable def dC1 (F : Fns) (N : Nat) (as : Mn (List V)) (x : V) : Mn V := match x with
 | .fn k => if k < N then bnd as fun vs => F k vs else bad
 | _ => bad
noncomputable def cY2 (v u : V) : Mn V := match u with
 | .none => ret v
 | _ => bad
noncomputable def cO3 (S : Sig) (F : Fns) (c : Nat) (vs : List V) : Mn V := match S.cls[c]? with
 | some d => if d.exc then bad else match d.init with
  | some k => bnd (alloc (.inst c [])) fun x => bnd (F k (x :: vs)) (cY2 x)
  | Option.none => bad
 | Option.none => bad
noncomputable def fE (S : Sig) (n : Nat) (x : V) : Mn Nat := fun m => match x with
 | .ref p => match m[p]? with
  | some (.inst c fs) => match S.cls[c]? with
   | some d => match aK1 n fs with
    | Option.none => ofO (d.meths.lookup n) m
    | some y_ => .bad
   | Option.none => .bad
  | _ => .bad
 | _ => .bad
mutual
noncomputable def ev (S : Sig) (F : Fns) : CE -> Lo -> Mn V
 | .cnst v, _ => ret v.val
 | .var i, r => match r[i]? with
  | some (some v) => ret v
  | _ => bad
 | .glob i, _ => match S.globs[i]? with
  | some p => ret p.2.val
  | Option.none => bad
 | .fnv k, _ => ret (.fn k)
 | .bin op a b, r => bnd (ev S F a r) fun x => bnd (ev S F b r) fun y => bL0 op x y
 | .neg a, r => bnd (ev S F a r) fun x => match x with
  | .int i => ret (.int (-i))
  | _ => bad
 | .not a, r => bnd (ev S F a r) fun x => bnd (eC x) fun b => ret (.bool (!b))
 | .boolop c as, r => evB S F c as r
 | .cmp a ops bs, r => bnd (ev S F a r) fun x => evC S F x ops bs r
 | .ite c a b, r => bnd (evT S F c r) fun t => if t then ev S F a r else ev S F b r
 | .tup as, r => bnd (evs S F as r) fun vs => ret (.tup vs)
 | .list as, r => bnd (evs S F as r) fun vs => alloc (.list vs)
 | .dict ks vs, r => bnd (evs S F vs r) fun us => alloc (.dict ((ks.map Ky.str).zip us) 0)
 | .idx a i, r => bnd (ev S F a r) fun x => bnd (ev S F i r) fun y => aQ0 x y
 | .slice a lo hi st, r => bnd (ev S F a r) fun x => bnd (ev S F lo r) fun l => bnd (ev S F hi r) fun h => bnd (ev S F st r) fun t => dI x l h t
 | .attr a n, r => bnd (ev S F a r) fun x => aC0 x n
 | .call k as, r => bnd (evs S F as r) fun vs => F k vs
 | .callv f as, r => bnd (ev S F f r) fun x => dC1 F S.fns.length (evs S F as r) x
 | .new c as, r => bnd (evs S F as r) fun vs => cO3 S F c vs
 | .meth o n as, r => bnd (ev S F o r) fun x => bnd (fE S n x) fun k => bnd (evs S F as r) fun vs => F k (x :: vs)
 | .smeth o n as, r => bnd (ev S F o r) fun x => fun m => match smK x m with
  | some k => if smH k n then bnd (evs S F as r) (fun vs => dH k x n vs) m else .bad
  | Option.none => .bad
 | .bi b as, r => bnd (evs S F as r) fun vs => biV b vs
 | .listrange as, r => bnd (evs S F as r) fun vs => match dR vs with
  | some l => if l.length <= lid then alloc (.list l) else bad
  | Option.none => bad
 | .isi a t, r => bnd (ev S F a r) fun x => bnd (aM4 S x t) fun b => ret (.bool b)
 | .comp elt t nl k src ifs, r => bnd (evs S F src r) fun vs => bnd (fC k vs) fun p =>
   bnd (bG p.2 (fun v => bnd (aJ6 t v (r ++ List.replicate nl Option.none)) fun r' => bnd (bK9 S F ifs r') fun b =>
    if b then bnd (ev S F elt r') fun x => ret (some x) else ret Option.none) p.1) fun l => if l.length <= lid then alloc (.list l) else bad
noncomputable def evT (S : Sig) (F : Fns) : CB -> Lo -> Mn Bool
 | .not a, r => bnd (evT S F a r) fun b => ret (!b)
 | .all c as, r => bK8 S F c as r
 | .val e, r => bnd (ev S F e r) eC
noncomputable def bK8 (S : Sig) (F : Fns) (c : Bool) : List CB -> Lo -> Mn Bool
 | [], _ => ret c
 | a :: as, r => bnd (evT S F a r) fun b => if b == c then bK8 S F c as r else ret b
noncomputable def bK9 (S : Sig) (F : Fns) : List CB -> Lo -> Mn Bool
 | [], _ => ret true
 | a :: as, r => bnd (evT S F a r) fun b => if b then bK9 S F as r else ret false
noncomputable def evs (S : Sig) (F : Fns) : List CE -> Lo -> Mn (List V)
 | [], _ => ret []
 | a :: as, r => bnd (ev S F a r) fun x => bnd (evs S F as r) fun xs => ret (x :: xs)
noncomputable def evB (S : Sig) (F : Fns) (c : Bool) : List CE -> Lo -> Mn V
 | [], _ => bad
 | a :: as, r => match as with
  | [] => ev S F a r
  | _ :: _ => bnd (ev S F a r) fun x => bnd (eC x) fun b => if b == c then evB S F c as r else ret x
noncomputable def evC (S : Sig) (F : Fns) (x : V) (ops : List CmpOp) : List CE -> Lo -> Mn V
 | [], _ => bad
 | a :: as, r => match ops with
  | [] => bad
  | op :: ops' => bnd (ev S F a r) fun y => bnd (aJ1 op x y) fun b => match as with
   | [] => (match ops' with | [] => ret (.bool b) | _ => bad)
   | _ :: _ => if b then evC S F y ops' as r else ret (.bool false)
end
noncomputable def asgT (S : Sig) (F : Fns) (t : CTgt) (v : V) (r : Lo) : Mn Lo := match t with
 | .one t => aJ6 t v r
 | .attr o n => bnd (ev S F o r) fun x => bnd (dN x n v) fun y_ => ret r
 | .idx o i => bnd (ev S F o r) fun x => bnd (ev S F i r) fun y => bnd (dK x y v) fun y_ => ret r
 | .idx2 o i o' i' => match v with
  | .tup [a, b] => bnd (ev S F o r) fun x => bnd (ev S F i r) fun y => bnd (dK x y a) fun y_ =>
    bnd (ev S F o' r) fun x' => bnd (ev S F i' r) fun y' => bnd (dK x' y' b) fun y_ => ret r
  | _ => bad
noncomputable def exR (nm : Option Nat) (d : Nat) (r : Lo) : Lo := match nm with
 | some i => r.set i (some (.exc d))
 | Option.none => r
noncomputable def exN (nm : Option Nat) (r : Lo) : Lo := match nm with
 | some i => r.set i Option.none
 | Option.none => r
noncomputable def tryX (S : Sig) (c : Nat) (nm : Option Nat) (h : Lo -> Mn V) (r : Lo) (d : Nat) : Mn (Fl × Lo) := fun m =>
 if ((S.cls[d]?).any fun k => k.supers.contains c) = true then ((h (exR nm d r) m).nox).bind fun v => ret (.ret v, exN nm r) else .bad
noncomputable def tryD (S : Sig) (x : Mn (Fl × Lo)) (c : Nat) (nm : Option Nat) (h : Lo -> Mn V) (r : Lo) : Mn (Fl × Lo) := fun m => match x m with
 | .ok a m' => .ok a m'
 | .exc d m' => tryX S c nm h r d m'
 | .bad => .bad
mutual
noncomputable def ex (S : Sig) (F : Fns) : CS -> Lo -> Mn (Fl × Lo)
 | .asg t e, r => bnd (ev S F e r) fun v => bnd (asgT S F t v r) fun r' => ret (.next, r')
 | .exp e, r => bnd (ev S F e r) fun y_ => ret (.next, r)
 | .ite c a b, r => bnd (evT S F c r) fun t => if t then exs S F a r else exs S F b r
 | .for_ k t src body, r => bnd (evs S F src r) fun vs => bnd (fC k vs) fun p => aM6 p.2 (fun v r' => bnd (aJ6 t v r') fun r'' => exs S F body r'') p.1 r
 | .wh c body, r => aF9 (fun r' => evT S F c r') (fun r' => exs S F body r') cQ8 r
 | .ret e, r => bnd (ev S F e r) fun v => ret (.ret v, r)
 | .rse _ _, _ => bad
 | .try_ body c nm h, r => tryD S (exs S F body r) c nm (fun r' => ev S F h r') r
 | .cont, r => ret (.cont, r)
 | .pass, r => ret (.next, r)
noncomputable def exs (S : Sig) (F : Fns) : List CS -> Lo -> Mn (Fl × Lo)
 | [], r => ret (.next, r)
 | s :: ss, r => bnd (ex S F s r) fun p => match p.1 with
  | .next => exs S F ss p.2
  | f => ret (f, p.2)
end
noncomputable def dA4 (p : Fl × Lo) : Mn V := match p.1 with
 | .ret v => ret v
 | .next => ret .none
 | .cont => bad
noncomputable def bC0 (S : Sig) (F : Fns) (k : Nat) (vs : List V) : Mn V := match S.fns[k]? with
 | some d => if vs.length = d.np then bnd (exs S F d.body (vs.map some ++ List.replicate (d.names.length - d.np) Option.none)) dA4 else bad
 | Option.none => bad
noncomputable def run (S : Sig) : Nat -> Fns
 | 0 => fun y_ y_ => bad
 | n + 1 => bC0 S (run S n)
theorem ky_i {a b : Int} (h : Ky.int a = Ky.int b) : a = b := by injection h
theorem ky_t {a b : List (Sum Int Str)} (h : Ky.tup a = Ky.tup b) : a = b := by injection h
theorem some_e {α : Type} {a b : α} {C : Prop} (h : some a = some b) (k : a = b -> C) : C := k (Option.some.inj h)
theorem ok_e {α : Type} {a b : α} {m m' : MH} {C : Prop} (h : Res.ok a m = Res.ok b m') (k : a = b -> m = m' -> C) : C := by injection h with e1 e2; exact k e1 e2
end Mini
namespace Mini
open PySem
theorem hide {C : Prop} (h : ∀ G : Prop, (C -> G) -> G) : C := h C id
set_option hygiene false in
local macro_rules
 | `(tactic| obtain $p:rcasesPatMed := $e:term) => `(tactic| (refine hide fun G_ g_ => ?_; rcases $e:term with $p:rcasesPatMed; refine g_ ?_; clear g_ G_))
structure Wd where
 prog : Program
 w : World
 S : Sig
 fa : Nat -> Addr
 ca : Nat -> Addr
 base : Heap
noncomputable abbrev Io := List (Addr × Addr)
noncomputable def dE (io : Io) (b : Addr) : Prop := ∃ p ∈ io, b = p.1 \/ b = p.2
theorem d7 {io new : Io} {b : Addr} (x : dE (io ++ new) b) : dE io b \/ dE new b := by
 obtain ⟨p, hp, e⟩ := x
 rcases List.mem_append.mp hp with h | h
 ·exact .inl ⟨p, h, e⟩
 ·exact .inr ⟨p, h, e⟩
noncomputable def IntsR : List Int -> List Value -> Prop
 | [], us => us = []
 | i :: ns, us => ∃ t vs, us = .int i t :: vs /\ IntsR ns vs
theorem IntsR.nil : IntsR [] [] := rfl
theorem IntsR.cons (i : Int) (t : Tok) {ns : List Int} {vs : List Value} (h : IntsR ns vs) : IntsR (i :: ns) (.int i t :: vs) := ⟨t, vs, rfl, h⟩
noncomputable abbrev cG1 (vs : Array Value) (n : Nat) : Obj := { cls := .type "tuple", data := .seq vs n }
noncomputable abbrev fJ (vs : Array Value) (n : Nat) : Obj := { cls := .type "list", data := .seq vs n }
mutual
noncomputable def VR (W : Wd) (h : Heap) (io : Io) : V -> Value -> Prop
 | .none, u => u = .none
 | .bool b, u => u = .bool b
 | .int i, u => ∃ t, u = .int i t
 | .str s, u => ∃ t, u = .str s t /\ PyData.strOk s = true
 | .tup xs, u => ∃ a vs n, u = .ref a /\ h.get? a = some (cG1 vs n) /\ VRs W h io xs vs.toList
 | .ref n, u => ∃ a d, u = .ref a /\ io[n]? = some (a, d)
 | .fn k, u => u = .ref (W.fa k)
 | .exc c, u => ∃ a o vs, u = .ref a /\ h.get? a = some o /\ o.cls = .ref (W.ca c) /\ o.data = .fields vs
 | .scr ns, u => ∃ l o vs n, u = .ref l /\ W.base.get? l = some o /\ o.cls = .type "list" /\ o.data = .seq vs n /\ IntsR ns vs.toList /\ ns.length <= lid
noncomputable def VRs (W : Wd) (h : Heap) (io : Io) : List V -> List Value -> Prop
 | [], us => us = []
 | x :: xs, us => ∃ v vs, us = v :: vs /\ VR W h io x v /\ VRs W h io xs vs
end
section
variable {W : Wd} {h : Heap} {io : Io}
theorem VR.none : VR W h io .none .none := rfl
theorem VR.bool (b : Bool) : VR W h io (.bool b) (.bool b) := rfl
theorem VR.int (i : Int) (t : Tok) : VR W h io (.int i) (.int i t) := ⟨t, rfl⟩
theorem VR.str (s : Str) (t : Tok) (k : PyData.strOk s = true) : VR W h io (.str s) (.str s t) := ⟨t, rfl, k⟩
theorem VR.tup {a : Addr} {vs : Array Value} {n : Nat} {xs : List V} (h1 : h.get? a = some (cG1 vs n)) (h2 : VRs W h io xs vs.toList) : VR W h io (.tup xs) (.ref a) := ⟨a, vs, n, rfl, h1, h2⟩
theorem VR.ref {n : Nat} {a d : Addr} (h1 : io[n]? = some (a, d)) : VR W h io (.ref n) (.ref a) := ⟨a, d, rfl, h1⟩
theorem VR.fn (k : Nat) : VR W h io (.fn k) (.ref (W.fa k)) := rfl
theorem VR.exc {c : Nat} {a : Addr} {o : Obj} {vs : Array Value} (h1 : h.get? a = some o) (h2 : o.cls = .ref (W.ca c)) (h3 : o.data = .fields vs) : VR W h io (.exc c) (.ref a) := ⟨a, o, vs, rfl, h1, h2, h3⟩
theorem VR.scr {ns : List Int} {l : Addr} {o : Obj} {vs : Array Value} {n : Nat} (h1 : W.base.get? l = some o) (h2 : o.cls = .type "list") (h3 : o.data = .seq vs n) (h4 : IntsR ns vs.toList) (h5 : ns.length <= lid) : VR W h io (.scr ns) (.ref l) := ⟨l, o, vs, n, rfl, h1, h2, h3, h4, h5⟩
theorem VRs.nil : VRs W h io [] [] := rfl
theorem VRs.cons {x : V} {v : Value} {xs : List V} {vs : List Value} (h1 : VR W h io x v) (h2 : VRs W h io xs vs) : VRs W h io (x :: xs) (v :: vs) := ⟨v, vs, rfl, h1, h2⟩
end
section
variable {W : Wd} {h : Heap} {io : Io} {u : Value} {C : Value -> Prop}
@[elab_as_elim] theorem VR.dNone (k : VR W h io .none u) (c : C .none) : C u := Eq.symm (show u = _ from k) ▸ c
@[elab_as_elim] theorem VR.dBool {b : Bool} (k : VR W h io (.bool b) u) (c : C (.bool b)) : C u := Eq.symm (show u = _ from k) ▸ c
@[elab_as_elim] theorem VR.dInt {i : Int} (k : VR W h io (.int i) u) (c : ∀ t, C (.int i t)) : C u := by rcases k with ⟨t, rfl⟩; exact c t
@[elab_as_elim] theorem VR.dStr {s : Str} (k : VR W h io (.str s) u) (c : ∀ t, PyData.strOk s = true -> C (.str s t)) : C u := by rcases k with ⟨t, rfl, k⟩; exact c t k
@[elab_as_elim] theorem VR.dTup {xs : List V} (k : VR W h io (.tup xs) u) (c : ∀ a vs n, h.get? a = some (cG1 vs n) -> VRs W h io xs vs.toList -> C (.ref a)) : C u := by rcases k with ⟨a, vs, n, rfl, h1, h2⟩; exact c a vs n h1 h2
@[elab_as_elim] theorem VR.dRef {n : Nat} (k : VR W h io (.ref n) u) (c : ∀ a d, io[n]? = some (a, d) -> C (.ref a)) : C u := by rcases k with ⟨a, d, rfl, h1⟩; exact c a d h1
@[elab_as_elim] theorem VR.dFn {n : Nat} (k : VR W h io (.fn n) u) (c : C (.ref (W.fa n))) : C u := Eq.symm (show u = _ from k) ▸ c
@[elab_as_elim] theorem VR.dExc {n : Nat} (k : VR W h io (.exc n) u) (c : ∀ a o vs, h.get? a = some o -> o.cls = .ref (W.ca n) -> o.data = .fields vs -> C (.ref a)) : C u := by rcases k with ⟨a, o, vs, rfl, h1, h2, h3⟩; exact c a o vs h1 h2 h3
@[elab_as_elim] theorem VR.dScr {ns : List Int} (k : VR W h io (.scr ns) u) (c : ∀ l o vs n, W.base.get? l = some o -> o.cls = .type "list" -> o.data = .seq vs n -> IntsR ns vs.toList -> ns.length <= lid -> C (.ref l)) : C u := by rcases k with ⟨l, o, vs, n, rfl, h1, h2, h3, h4, h5⟩; exact c l o vs n h1 h2 h3 h4 h5
theorem VR.elim {C : (v : V) -> (u : Value) -> VR W h io v u -> Prop} (none : C .none .none .none) (bool : ∀ b, C (.bool b) (.bool b) (.bool b)) (int : ∀ i t, C (.int i) (.int i t) (.int i t)) (str : ∀ s t k, C (.str s) (.str s t) (.str s t k))
  (tup : ∀ {a : Addr} {vs : Array Value} {n : Nat} {xs : List V} (h1 : h.get? a = some (cG1 vs n)) (h2 : VRs W h io xs vs.toList), C (.tup xs) (.ref a) (.tup h1 h2)) (ref : ∀ {n : Nat} {a d : Addr} (h1 : io[n]? = some (a, d)), C (.ref n) (.ref a) (.ref h1)) (fn : ∀ k, C (.fn k) (.ref (W.fa k)) (.fn k))
  (exc : ∀ {c : Nat} {a : Addr} {o : Obj} {vs : Array Value} (h1 : h.get? a = some o) (h2 : o.cls = .ref (W.ca c)) (h3 : o.data = .fields vs), C (.exc c) (.ref a) (.exc h1 h2 h3))
  (scr : ∀ {ns : List Int} {l : Addr} {o : Obj} {vs : Array Value} {n : Nat} (h1 : W.base.get? l = some o) (h2 : o.cls = .type "list") (h3 : o.data = .seq vs n) (h4 : IntsR ns vs.toList) (h5 : ns.length <= lid), C (.scr ns) (.ref l) (.scr h1 h2 h3 h4 h5))
  {v : V} {u : Value} (k : VR W h io v u) : C v u k := by
 cases v with
 | none => obtain rfl : u = .none := k; exact none
 | bool b => obtain rfl : u = .bool b := k; exact bool b
 | int i => rcases k with ⟨t, rfl⟩; exact int i t
 | str s => rcases k with ⟨t, rfl, k⟩; exact str s t k
 | tup xs => rcases k with ⟨a, vs, n, rfl, h1, h2⟩; exact tup h1 h2
 | ref n => rcases k with ⟨a, d, rfl, h1⟩; exact ref h1
 | fn n => obtain rfl : u = .ref (W.fa n) := k; exact fn n
 | exc c => rcases k with ⟨a, o, vs, rfl, h1, h2, h3⟩; exact exc h1 h2 h3
 | scr ns => rcases k with ⟨l, o, vs, n, rfl, h1, h2, h3, h4, h5⟩; exact scr h1 h2 h3 h4 h5
theorem VRs.cc {x : V} {v : Value} {xs : List V} {vs : List Value} (k : VRs W h io (x :: xs) (v :: vs)) : VR W h io x v /\ VRs W h io xs vs := by rcases k with ⟨y_, y_, e, h1, h2⟩; injection e with e1 e2; subst e1; subst e2; exact ⟨h1, h2⟩
theorem VRs.elim {C : (xs : List V) -> (us : List Value) -> VRs W h io xs us -> Prop} (nil : C [] [] .nil) (cons : ∀ {x : V} {v : Value} {xs : List V} {vs : List Value} (h1 : VR W h io x v) (h2 : VRs W h io xs vs), C (x :: xs) (v :: vs) (.cons h1 h2)) {xs : List V} {us : List Value} (k : VRs W h io xs us) : C xs us k := by
 cases xs with
 | nil => obtain rfl : us = [] := k; exact nil
 | cons x xs => rcases k with ⟨v, vs, rfl, h1, h2⟩; exact cons h1 h2
variable {us : List Value} {D : List Value -> Prop}
@[elab_as_elim] theorem VRs.dNil (k : VRs W h io [] us) (c : D []) : D us := Eq.symm (show us = _ from k) ▸ c
@[elab_as_elim] theorem VRs.dCons {x : V} {xs : List V} (k : VRs W h io (x :: xs) us) (c : ∀ v vs, VR W h io x v -> VRs W h io xs vs -> D (v :: vs)) : D us := by rcases k with ⟨v, vs, rfl, h1, h2⟩; exact c v vs h1 h2
@[elab_as_elim] theorem VRs.d1 {x : V} (k : VRs W h io [x] us) (c : ∀ v, VR W h io x v -> D [v]) : D us := VRs.dCons k fun v y_ h1 h2 => VRs.dNil h2 (c v h1)
@[elab_as_elim] theorem VRs.d2 {x y : V} (k : VRs W h io [x, y] us) (c : ∀ v w, VR W h io x v -> VR W h io y w -> D [v, w]) : D us := VRs.dCons k fun v y_ h1 h2 => VRs.d1 h2 fun w => c v w h1
end
end Mini
local macro_rules
 | `(tactic| cases $h:ident) => `(tactic| first | (injection $h:ident; done) | (refine Mini.some_e $h fun z_1 => ?_; clear $h; cases z_1) | (refine Mini.ok_e $h fun z_1 z_2 => ?_; clear $h; cases z_1; cases z_2) | subst $h:ident | refine Mini.VR.dInt $h fun y_ => ?_ | cases ($h))
namespace Mini
open PySem
noncomputable def bW1 (w : World) : Sum Int Str -> Int
 | .inl i => hashInt i
 | .inr s => hashStr w s
noncomputable def aU7 (w : World) : Ky -> Int
 | .int i => hashInt i
 | .str s => hashStr w s
 | .tup ks => reduceHash (Builtin.Tuple.tupleHashOf (ks.map (bW1 w)))
noncomputable def ERs (W : Wd) (h : Heap) (io : Io) : List (Ky × V) -> List DictEntry -> Prop
 | [], es => es = []
 | p :: kvs, es => ∃ key u es', es = ⟨aU7 W.w p.1, key, u⟩ :: es' /\ VR W h io p.1.val key /\ VR W h io p.2 u /\ ERs W h io kvs es'
theorem ERs.nil {W : Wd} {h : Heap} {io : Io} : ERs W h io [] [] := rfl
theorem ERs.cons {W : Wd} {h : Heap} {io : Io} {k : Ky} {v : V} {key u : Value} {kvs : List (Ky × V)} {es : List DictEntry} (h1 : VR W h io k.val key) (h2 : VR W h io v u) (h3 : ERs W h io kvs es) : ERs W h io ((k, v) :: kvs) (⟨aU7 W.w k, key, u⟩ :: es) := ⟨key, u, es, rfl, h1, h2, h3⟩
theorem ERs.ind {W : Wd} {h : Heap} {io : Io} {C : (kvs : List (Ky × V)) -> (es : List DictEntry) -> ERs W h io kvs es -> Prop} (nil : C [] [] .nil)
  (cons : ∀ {k : Ky} {v : V} {key u : Value} {kvs : List (Ky × V)} {es : List DictEntry} (h1 : VR W h io k.val key) (h2 : VR W h io v u) (h3 : ERs W h io kvs es), C kvs es h3 -> C ((k, v) :: kvs) (⟨aU7 W.w k, key, u⟩ :: es) (.cons h1 h2 h3)) {kvs : List (Ky × V)} {es : List DictEntry} (x : ERs W h io kvs es) : C kvs es x := by
 induction kvs generalizing es with
 | nil => obtain rfl : es = [] := x; exact nil
 | cons p kvs ih => rcases x with ⟨key, u, es', rfl, h1, h2, h3⟩; exact cons h1 h2 h3 (ih h3)
@[elab_as_elim] theorem ERs.dCons {W : Wd} {h : Heap} {io : Io} {es : List DictEntry} {D : List DictEntry -> Prop} {p : Ky × V} {kvs : List (Ky × V)} (k : ERs W h io (p :: kvs) es) (c : ∀ key u es', VR W h io p.1.val key -> VR W h io p.2 u -> ERs W h io kvs es' -> D (⟨aU7 W.w p.1, key, u⟩ :: es')) : D es := by rcases k with ⟨key, u, es', rfl, h1, h2, h3⟩; exact c key u es' h1 h2 h3
noncomputable def FEs (W : Wd) (h : Heap) (io : Io) (fs : List (Nat × V)) (mA : Str -> Option Value) : Prop :=
 (∀ x u, mA x = some u -> ∃ i v, W.S.attrs[i]? = some x /\ aK1 i fs = some v /\ VR W h io v u) /\ (∀ i v, aK1 i fs = some v -> ∃ x u, W.S.attrs[i]? = some x /\ mA x = some u /\ VR W h io v u)
structure ClsOk (W : Wd) (c : Nat) (D : ClsD) (N : Addr) (mN : Str -> Option Value) : Prop where
 dat : W.S.cls[c]? = some D
 exc : D.exc = false
 obj : ∃ nm q bs sn sub col dd k0 k1 k2 k3 k5, W.base.get? (W.ca c) = some (excClassObj nm q (W.ca c) N bs [.type "object"] true sn sub false col dd k0 k1 k2 k3 k5 "object.__new__")
 ns : W.base.Ns N mN
 ga : mN "__getattribute__" = none
 gh : mN "__getattr__" = none
 sa : mN "__setattr__" = none
 has : ∀ (i : Nat) (x : Str), W.S.attrs[i]? = some x -> mN x = (D.meths.lookup i).map fun k => .ref (W.fa k)
 low : ∀ (i : Nat) (x : Str), W.S.attrs[i]? = some x -> typeLookup (.type "object") x = pure none
 uniq : ∀ (i j : Nat) (x : Str), W.S.attrs[i]? = some x -> W.S.attrs[j]? = some x -> i = j
 few : W.S.attrs.length <= 1000
 mlt : ∀ (i k : Nat), D.meths.lookup i = some k -> k < W.S.fns.length
noncomputable abbrev cQ1 (C dx : Addr) : Obj := { cls := .ref C, dict := some dx, data := .plain }
noncomputable abbrev dB7 (es : List DictEntry) (n : Nat) : Obj := { cls := .type "dict", data := .dict es.toArray n }
inductive ORl (W : Wd) (h : Heap) (io : Io) (a d : Addr) (xs : List V) : Prop
 | mk (e : a = d) (vs : Array Value) (n : Nat) (h1 : h.get? a = some (fJ vs n)) (h2 : VRs W h io xs vs.toList) (h3 : xs.length <= lid)
inductive ORd (W : Wd) (h : Heap) (io : Io) (a d : Addr) (kvs : List (Ky × V)) : Prop
 | mk (e : a = d) (o : Obj) (es : Array DictEntry) (n : Nat) (h1 : h.get? a = some o) (h2 : o.ExactDict) (h3 : o.data = .dict es n) (h4 : ERs W h io kvs es.toList) (h5 : (kvs.map (·.1)).Nodup /\ kvs.length <= lid)
inductive ORi (W : Wd) (h : Heap) (io : Io) (a d : Addr) (c : Nat) (fs : List (Nat × V)) : Prop
 | mk (e : a ≠ d) (mA : Str -> Option Value) (h1 : h.get? a = some (cQ1 (W.ca c) d)) (h2 : h.Ns1 d mA) (h3 : FEs W h io fs mA) (h4 : ∃ D N mN, ClsOk W c D N mN)
noncomputable def OR (W : Wd) (h : Heap) (io : Io) (a d : Addr) : MObj -> Prop
 | .list xs => ORl W h io a d xs
 | .dict kvs _ => ORd W h io a d kvs
 | .inst c fs => ORi W h io a d c fs
structure HR (W : Wd) (h : Heap) (io : Io) (m : MH) : Prop where
 keep : W.base.StaysIn h
 len : io.length = m.length
 obj : ∀ (n : Nat) (p : Addr × Addr) (o : MObj), io[n]? = some p -> m[n]? = some o -> OR W h io p.1 p.2 o
 fresh : ∀ b, dE io b -> W.base.get? b = none
 apart : ∀ (i j : Nat) (p q : Addr × Addr), i ≠ j -> io[i]? = some p -> io[j]? = some q -> p.1 ≠ q.1 /\ p.1 ≠ q.2 /\ p.2 ≠ q.2
noncomputable def c8 (o : Obj) : Prop := (o.cls = .type "tuple" /\ ∃ vs n, o.data = .seq vs n) \/ (∃ C vs, o.cls = .ref C /\ o.data = .fields vs)
structure Step (own fr : List Addr) (h : Heap) (io : Io) (m : MH) (h' : Heap) (io' : Io) (m' : MH) : Prop where
 alive : ∀ b o, h.get? b = some o -> ∃ o', h'.get? b = some o'
 solid : ∀ b o, h.get? b = some o -> c8 o -> h'.get? b = some o
 keep : ∀ b o, h.get? b = some o -> ¬ dE io b -> b ∉ own -> b ∉ fr -> h'.get? b = some o
 slots : ∀ b o, h.get? b = some o -> ¬ dE io b -> b ∉ own -> ∃ sl, h'.get? b = some { o with slots := sl }
 grow : ∃ new, io' = io ++ new /\ ∀ p ∈ new, h.get? p.1 = none /\ h.get? p.2 = none
 dicts : ∀ (n : Nat) (p : Addr × Addr) (kvs : List (Ky × V)) (e : Nat), io[n]? = some p -> m[n]? = some (.dict kvs e) -> ∃ (kvs' : List (Ky × V)) (e' : Nat), m'[n]? = some (.dict kvs' e') /\ e <= e' /\ (e' = e -> h'.get? p.1 = h.get? p.1 /\ kvs' = kvs)
section
variable {W : Wd} {h h' h'' : Heap} {io io' io'' : Io} {m m' m'' : MH} {own fr : List Addr}
theorem Step.refl : Step own fr h io m h io m where
 alive := fun y_ o e => ⟨o, e⟩
 solid := fun y_ y_ e y_ => e
 keep := fun y_ y_ e y_ y_ y_ => e
 slots := fun y_ o e y_ y_ => ⟨o.slots, e⟩
 grow := ⟨[], by simp, fun y_ hp => nomatch hp⟩
 dicts := fun y_ y_ kvs e y_ hm => ⟨kvs, e, hm, Nat.le_refl _, fun y_ => ⟨rfl, rfl⟩⟩
theorem Step.nofoot (x : Step own fr h io m h' io' m') {b : Addr} {o : Obj} (hb : h.get? b = some o) (hf : ¬ dE io b) : ¬ dE io' b := by
 obtain ⟨new, rfl, hn⟩ := x.grow
 intro q
 rcases d7 q with q | ⟨p, hp, e⟩
 ·exact hf q
 ·rcases e with e | e
  ·rw [e, (hn p hp).1] at hb; cases hb
  ·rw [e, (hn p hp).2] at hb; cases hb
theorem Step.trans (x : Step own fr h io m h' io' m') (y : Step own fr h' io' m' h'' io'' m'') : Step own fr h io m h'' io'' m'' where
 alive := fun b o e => let ⟨o', e'⟩ := x.alive b o e; y.alive b o' e'
 solid := fun b o e s => y.solid b o (x.solid b o e s) s
 keep := fun b o e f1 f2 f3 => y.keep b o (x.keep b o e f1 f2 f3) (x.nofoot e f1) f2 f3
 slots := fun b o e f1 f2 => by
  rcases x.slots b o e f1 f2 with ⟨sl, e'⟩
  rcases y.slots b _ e' (x.nofoot e f1) f2 with ⟨sl', e''⟩
  exact ⟨sl', e''⟩
 grow := by
  refine hide fun G_ g_ => ?_
  rcases x.grow with ⟨n1, rfl, h1⟩
  rcases y.grow with ⟨n2, rfl, h2⟩
  refine g_ ?_
  clear g_ G_
  refine ⟨n1 ++ n2, by simp, fun p hp => ?_⟩
  rcases List.mem_append.mp hp with hp | hp
  ·exact h1 p hp
  ·have back : ∀ b, h'.get? b = none -> h.get? b = none := fun b e => by
    cases q : h.get? b with
    | none => rfl
    | some o => rcases x.alive b o q with ⟨o', e'⟩; rw [e] at e'; cases e'
   exact ⟨back _ (h2 p hp).1, back _ (h2 p hp).2⟩
 dicts := fun n p kvs e hi hm => by
  refine hide fun G_ g_ => ?_
  rcases x.dicts n p kvs e hi hm with ⟨k1, e1, hm1, l1, s1⟩
  have hi' : io'[n]? = some p := by
   obtain ⟨new, rfl, y_⟩ := x.grow
   rw [List.getElem?_append_left (by exact (List.getElem?_eq_some_iff.mp hi).1)]; exact hi
  rcases y.dicts n p k1 e1 hi' hm1 with ⟨k2, e2, hm2, l2, s2⟩
  refine g_ ?_
  clear g_ G_
  refine ⟨k2, e2, hm2, Nat.le_trans l1 l2, fun q => ?_⟩
  have q1 : e1 = e := by omega
  have q2 : e2 = e1 := by omega
  exact ⟨(s2 q2).1.trans (s1 q1).1, (s2 q2).2.trans (s1 q1).2⟩
theorem Step.io_get (x : Step own fr h io m h' io' m') {n : Nat} {p : Addr × Addr} (hi : io[n]? = some p) : io'[n]? = some p := by
 obtain ⟨new, rfl, y_⟩ := x.grow
 rw [List.getElem?_append_left (List.getElem?_eq_some_iff.mp hi).1]; exact hi
theorem VR.both (x : ∀ b o, h.get? b = some o -> c8 o -> h'.get? b = some o) (y : ∀ (n : Nat) (p : Addr × Addr), io[n]? = some p -> io'[n]? = some p) : (∀ (v : V) (u : Value), VR W h io v u -> VR W h' io' v u) /\ (∀ (v : List V) (u : List Value), VRs W h io v u -> VRs W h' io' v u) := by
 have key : ∀ v : V, ∀ u : Value, VR W h io v u -> VR W h' io' v u := fun v => V.rec (motive_1 := fun v => ∀ u, VR W h io v u -> VR W h' io' v u) (motive_2 := fun v => ∀ u, VRs W h io v u -> VRs W h' io' v u) (fun y_ k => k) (fun y_ y_ k => k) (fun y_ y_ k => k) (fun y_ y_ k => k)
  (fun y_ ih y_ k => k.imp fun y_ k => k.imp fun y_ k => k.imp fun y_ k => ⟨k.1, x _ _ k.2.1 (.inl ⟨rfl, _, _, rfl⟩), ih _ k.2.2⟩) (fun y_ y_ k => k.imp fun y_ k => k.imp fun y_ k => ⟨k.1, y _ _ k.2⟩) (fun y_ y_ k => k)
  (fun y_ y_ k => k.imp fun y_ k => k.imp fun y_ k => k.imp fun y_ k => ⟨k.1, x _ _ k.2.1 (.inr ⟨_, _, k.2.2.1, k.2.2.2⟩), k.2.2⟩) (fun y_ y_ k => k) (fun y_ k => k) (fun y_ y_ i1 i2 y_ k => k.imp fun y_ k => k.imp fun y_ k => ⟨k.1, i1 _ k.2.1, i2 _ k.2.2⟩) v
 exact ⟨key, fun v => List.rec (motive := fun v => ∀ u, VRs W h io v u -> VRs W h' io' v u) (fun y_ k => k) (fun a y_ ih y_ k => k.imp fun y_ k => k.imp fun y_ k => ⟨k.1, key a _ k.2.1, ih _ k.2.2⟩) v⟩
theorem VR.mono (x : ∀ b o, h.get? b = some o -> c8 o -> h'.get? b = some o) (y : ∀ (n : Nat) (p : Addr × Addr), io[n]? = some p -> io'[n]? = some p) {v : V} {u : Value} (k : VR W h io v u) : VR W h' io' v u := (VR.both x y).1 v u k
theorem VRs.mono (x : ∀ b o, h.get? b = some o -> c8 o -> h'.get? b = some o) (y : ∀ (n : Nat) (p : Addr × Addr), io[n]? = some p -> io'[n]? = some p) {v : List V} {u : List Value} (k : VRs W h io v u) : VRs W h' io' v u := (VR.both x y).2 v u k
theorem ERs.mono (x : ∀ b o, h.get? b = some o -> c8 o -> h'.get? b = some o) (y : ∀ (n : Nat) (p : Addr × Addr), io[n]? = some p -> io'[n]? = some p) {kvs : List (Ky × V)} {es : List DictEntry} (e : ERs W h io kvs es) : ERs W h' io' kvs es :=
 List.rec (motive := fun kvs => ∀ es, ERs W h io kvs es -> ERs W h' io' kvs es) (fun y_ k => k) (fun y_ y_ ih y_ k => k.imp fun y_ k => k.imp fun y_ k => k.imp fun y_ k => ⟨k.1, k.2.1.mono x y, k.2.2.1.mono x y, ih _ k.2.2.2⟩) kvs es e
theorem FEs.mono (x : ∀ b o, h.get? b = some o -> c8 o -> h'.get? b = some o) (y : ∀ (n : Nat) (p : Addr × Addr), io[n]? = some p -> io'[n]? = some p) {fs : List (Nat × V)} {mA : Str -> Option Value} (e : FEs W h io fs mA) : FEs W h' io' fs mA :=
 ⟨fun z u q => (e.1 z u q).imp fun y_ q => q.imp fun y_ q => ⟨q.1, q.2.1, q.2.2.mono x y⟩, fun i v q => (e.2 i v q).imp fun y_ q => q.imp fun y_ q => ⟨q.1, q.2.1, q.2.2.mono x y⟩⟩
theorem VR.step (x : Step own fr h io m h' io' m') {v : V} {u : Value} (k : VR W h io v u) : VR W h' io' v u := k.mono x.solid fun y_ y_ => x.io_get
theorem VRs.step (x : Step own fr h io m h' io' m') {v : List V} {u : List Value} (k : VRs W h io v u) : VRs W h' io' v u := k.mono x.solid fun y_ y_ => x.io_get
theorem ERs.step (x : Step own fr h io m h' io' m') {kvs : List (Ky × V)} {es : List DictEntry} (e : ERs W h io kvs es) : ERs W h' io' kvs es := e.mono x.solid fun y_ y_ => x.io_get
theorem FEs.step (x : Step own fr h io m h' io' m') {fs : List (Nat × V)} {mA : Str -> Option Value} (e : FEs W h io fs mA) : FEs W h' io' fs mA := e.mono x.solid fun y_ y_ => x.io_get
theorem VRs.length {xs : List V} {vs : List Value} (x : VRs W h io xs vs) : vs.length = xs.length := by
 induction xs generalizing vs with
 | nil => rw [x]; rfl
 | cons y ys ih => rcases x with ⟨y_, y_, rfl, y_, r⟩; exact congrArg Nat.succ (ih r)
theorem VRs.get {xs : List V} {vs : List Value} (x : VRs W h io xs vs) {k : Nat} {v : V} (hk : xs[k]? = some v) : ∃ u, vs[k]? = some u /\ VR W h io v u := by
 induction xs generalizing vs k with
 | nil => cases hk
 | cons y ys ih =>
  rcases x with ⟨y_, y_, rfl, h1, r⟩
  cases k with
  | zero => cases hk; exact ⟨_, rfl, h1⟩
  | succ k => exact ih r hk
theorem VRs.append {xs ys : List V} {vs us : List Value} (x : VRs W h io xs vs) (y : VRs W h io ys us) : VRs W h io (xs ++ ys) (vs ++ us) := by
 induction xs generalizing vs with
 | nil => rw [x]; exact y
 | cons z zs ih => rcases x with ⟨y_, y_, rfl, h1, r⟩; exact .cons h1 (ih r)
theorem VRs.snoc {xs : List V} {vs : List Value} {v : V} {u : Value} (x : VRs W h io xs vs) (y : VR W h io v u) : VRs W h io (xs ++ [v]) (vs ++ [u]) := x.append (.cons y .nil)
theorem VRs.take {xs : List V} {vs : List Value} (x : VRs W h io xs vs) (k : Nat) : VRs W h io (xs.take k) (vs.take k) := by
 induction xs generalizing vs k with
 | nil => rw [x, List.take_nil, List.take_nil]; exact .nil
 | cons z zs ih => rcases x with ⟨y_, y_, rfl, h1, r⟩; cases k with
  | zero => exact .nil
  | succ k => exact .cons h1 (ih r k)
theorem VRs.drop {xs : List V} {vs : List Value} (x : VRs W h io xs vs) (k : Nat) : VRs W h io (xs.drop k) (vs.drop k) := by
 induction xs generalizing vs k with
 | nil => rw [x, List.drop_nil, List.drop_nil]; exact .nil
 | cons z zs ih => rcases x with ⟨y_, y_, rfl, h1, r⟩; cases k with
  | zero => exact .cons h1 r
  | succ k => exact ih r k
theorem VRs.eraseIdx {xs : List V} {vs : List Value} (x : VRs W h io xs vs) (k : Nat) : VRs W h io (xs.eraseIdx k) (vs.eraseIdx k) := by
 induction xs generalizing vs k with
 | nil => rw [x]; exact .nil
 | cons z zs ih => rcases x with ⟨y_, y_, rfl, h1, r⟩; cases k with
  | zero => exact r
  | succ k => exact .cons h1 (ih r k)
theorem VRs.reverse {xs : List V} {vs : List Value} (x : VRs W h io xs vs) : VRs W h io xs.reverse vs.reverse := by
 induction xs generalizing vs with
 | nil => rw [x]; exact .nil
 | cons z zs ih => rcases x with ⟨y_, y_, rfl, h1, r⟩; rw [List.reverse_cons, List.reverse_cons]; exact (ih r).snoc h1
theorem IntsR.length {ns : List Int} {vs : List Value} (x : IntsR ns vs) : vs.length = ns.length := by
 induction ns generalizing vs with
 | nil => rw [x]; rfl
 | cons i ns ih => rcases x with ⟨y_, y_, rfl, r⟩; exact congrArg Nat.succ (ih r)
theorem IntsR.vrs {ns : List Int} {vs : List Value} (x : IntsR ns vs) : VRs W h io (ns.map .int) vs := by
 induction ns generalizing vs with
 | nil => exact x
 | cons i ns ih => rcases x with ⟨t, y_, rfl, r⟩; exact .cons (.int i t) (ih r)
theorem OR.step_same (x : Step own fr h io m h' io' m') {a d : Addr} {o : MObj} (k : OR W h io a d o) (ha : ∀ o, h.get? a = some o -> h'.get? a = some o) (hd : ∀ o, h.get? d = some o -> h'.get? d = some o) : OR W h' io' a d o := by
 cases o with
 | list xs =>
  obtain ⟨e, vs, n, h1, h4, h5⟩ := k
  exact ⟨e, vs, n, ha _ h1, h4.step x, h5⟩
 | dict kvs ep =>
  obtain ⟨e, o, es, n, h1, h2, h3, h4, h5⟩ := k
  exact ⟨e, o, es, n, ha _ h1, h2, h3, h4.step x, h5⟩
 | inst c fs =>
  obtain ⟨e, mA, h1, h2, h3, h4⟩ := k
  exact ⟨e, mA, ha _ h1, h2.at hd, h3.step x, h4⟩
theorem HR.foot {b : Addr} (x : HR W h io m) (f : dE io b) : ∃ o, h.get? b = some o /\ ¬ c8 o /\ (∀ v, o.data ≠ .cell v) /\ (∀ vs, o.data ≠ .fields vs) /\ (∀ f, o.data ≠ .func f) := by
 obtain ⟨p, hp, e⟩ := f
 rcases List.getElem?_of_mem hp with ⟨n, hn⟩
 have hlt : n < m.length := by rw [<- x.len]; exact (List.getElem?_eq_some_iff.mp hn).1
 have hm : m[n]? = some m[n] := List.getElem?_eq_getElem hlt
 have k := x.obj n p _ hn hm
 have sd : ∀ o : Obj, o.ExactDict -> ∀ es ep, o.data = .dict es ep -> ¬ c8 o := by
  rintro o hx es ep hd (⟨hc, vs, n, hs⟩ | ⟨C, vs, hc, hs⟩)
  ·rw [hd] at hs; cases hs
  ·rw [hd] at hs; cases hs
 cases hq : m[n] with
 | list xs =>
  rw [hq] at k
  obtain ⟨e', vs, n', h1, y_⟩ := k
  refine ⟨fJ vs n', ?_, ?_, ?_, ?_, ?_⟩
  ·rcases e with e | e
   ·rw [e]; exact h1
   ·rw [e, <- e']; exact h1
  ·rintro (⟨hc, y_⟩ | ⟨C, ws, hc, hs⟩)
   ·simp at hc
   ·cases hs
  all_goals (intro v q; cases q)
 | dict kvs ep =>
  rw [hq] at k
  obtain ⟨e', o, es, n', h1, h2, h3, y_⟩ := k
  refine ⟨o, ?_, sd o h2 _ _ h3, ?_, ?_, ?_⟩
  ·rcases e with e | e
   ·rw [e]; exact h1
   ·rw [e, <- e']; exact h1
  ·intro v q; rw [h3] at q; cases q
  ·intro v q; rw [h3] at q; cases q
  ·intro v q; rw [h3] at q; cases q
 | inst c fs =>
  rw [hq] at k
  obtain ⟨e', mA, h1, ⟨od, es, n', h2, h3, y_⟩, y_⟩ := k
  rcases e with e | e
  ·refine ⟨_, by rw [e]; exact h1, ?_, ?_, ?_, ?_⟩
   ·rintro (⟨hc, y_⟩ | ⟨C, ws, hc, hs⟩)
    ·cases hc
    ·cases hs
   all_goals (intro v q; cases q)
  ·refine ⟨_, by rw [e]; exact h2, ?_, ?_, ?_, ?_⟩
   ·rintro (⟨y_, vs, n, hs⟩ | ⟨C, vs, hc, hs⟩)
    ·rw [h3] at hs; cases hs
    ·rw [h3] at hs; cases hs
   all_goals (intro v q; rw [h3] at q; cases q)
theorem HR.nofoot_of_solid {b : Addr} {o : Obj} (x : HR W h io m) (hb : h.get? b = some o) (hs : c8 o) : ¬ dE io b := fun f => by
 obtain ⟨o', h1, h2, y_⟩ := x.foot f
 rw [hb] at h1; cases h1; exact h2 hs
theorem HR.nofoot_of_cell {b : Addr} {o : Obj} {v : Option Value} (x : HR W h io m) (hb : h.get? b = some o) (hs : o.data = .cell v) : ¬ dE io b := fun f => by
 obtain ⟨o', h1, y_, h2, y_⟩ := x.foot f
 rw [hb] at h1; cases h1; exact h2 _ hs
theorem HR.there {n : Nat} {p : Addr × Addr} (x : HR W h io m) (hn : io[n]? = some p) : ∃ o, h.get? p.1 = some o := by
 obtain ⟨o, ho, y_⟩ := x.foot ⟨p, List.mem_of_getElem? hn, .inl rfl⟩
 exact ⟨o, ho⟩
theorem Step.of_keeps (x : HR W h io m) (hk : ∀ b o, h.get? b = some o -> h'.get? b = some o) : Step own fr h io m h' io m where
 alive := fun b o e => ⟨o, hk b o e⟩
 solid := fun b o e y_ => hk b o e
 keep := fun b o e y_ y_ y_ => hk b o e
 slots := fun b o e y_ y_ => ⟨o.slots, hk b o e⟩
 grow := ⟨[], by simp, fun y_ hp => nomatch hp⟩
 dicts := fun n p kvs e hi hm => ⟨kvs, e, hm, Nat.le_refl _, fun y_ => ⟨by
  rcases x.there hi with ⟨o, ho⟩
  rw [ho]; exact hk _ _ ho, rfl⟩⟩
theorem HR.of_keeps (x : HR W h io m) (hk : ∀ b o, h.get? b = some o -> h'.get? b = some o) : HR W h' io m where
 keep := fun b o e => hk b o (x.keep b o e)
 len := x.len
 obj := fun n p o hi hm => (x.obj n p o hi hm).step_same (Step.of_keeps (own := []) (fr := []) x hk) (hk _) (hk _)
 fresh := x.fresh
 apart := x.apart
theorem HR.of_foot (x : HR W h io m) (st : Step own fr h io m h' io m) (hf : ∀ b o, dE io b -> h.get? b = some o -> h'.get? b = some o) (hb : W.base.StaysIn h') : HR W h' io m where
 keep := hb
 len := x.len
 obj := fun n p o hi hm => (x.obj n p o hi hm).step_same st (fun o e => hf _ o ⟨p, List.mem_of_getElem? hi, .inl rfl⟩ e) (fun o e => hf _ o ⟨p, List.mem_of_getElem? hi, .inr rfl⟩ e)
 fresh := x.fresh
 apart := x.apart
theorem aA4 {L : Addr} (x : HR W h io m) (hL : L ∈ own) (hk : ∀ b o, b ≠ L -> h.get? b = some o -> h'.get? b = some o) (hs : ∀ o, h.get? L = some o -> ¬ c8 o /\ ∃ o', h'.get? L = some o') (hf : ¬ dE io L) :
  Step own fr h io m h' io m where
 alive := fun b o e => by
  by_cases q : b = L
  ·subst q; exact (hs o e).2
  ·exact ⟨o, hk b o q e⟩
 solid := fun b o e so => by
  by_cases q : b = L
  ·subst q; exact absurd so (hs o e).1
  ·exact hk b o q e
 keep := fun b o e y_ ho y_ => hk b o (fun q => ho (q ▸ hL)) e
 slots := fun b o e y_ ho => ⟨o.slots, hk b o (fun q => ho (q ▸ hL)) e⟩
 grow := ⟨[], by simp, fun y_ hp => nomatch hp⟩
 dicts := fun n p kvs e hi hm => ⟨kvs, e, hm, Nat.le_refl _, fun y_ => ⟨by
  rcases x.there hi with ⟨o, ho⟩
  rw [ho]; exact hk _ _ (fun q => hf ⟨p, List.mem_of_getElem? hi, .inl q.symm⟩) ho, rfl⟩⟩
theorem HR.ofOwn {L : Addr} (x : HR W h io m) (hL : L ∈ own) (hk : ∀ b o, b ≠ L -> h.get? b = some o -> h'.get? b = some o) (hs : ∀ o, h.get? L = some o -> ¬ c8 o /\ ∃ o', h'.get? L = some o') (hf : ¬ dE io L) (hb : W.base.get? L = none) :
  HR W h' io m := x.of_foot (fr := []) (aA4 x hL hk hs hf) (fun b o f e => hk b o (fun q => hf (q ▸ f)) e) fun b o e => hk b o (fun q => by rw [q, hb] at e; cases e) (x.keep b o e)
theorem e7 (x : HR W h io m) {a d : Addr} {o : MObj} (hk : ∀ b o, h.get? b = some o -> h'.get? b = some o) (ha : h.get? a = none) (hd : h.get? d = none) :
  Step own fr h io m h' (io ++ [(a, d)]) (m ++ [o]) where
 alive := fun b o e => ⟨o, hk b o e⟩
 solid := fun b o e y_ => hk b o e
 keep := fun b o e y_ y_ y_ => hk b o e
 slots := fun b o e y_ y_ => ⟨o.slots, hk b o e⟩
 grow := ⟨[(a, d)], rfl, fun p hp => by rw [List.mem_singleton.mp hp]; exact ⟨ha, hd⟩⟩
 dicts := fun n p kvs e hi hm => ⟨kvs, e, by rw [List.getElem?_append_left (List.getElem?_eq_some_iff.mp hm).1]; exact hm, Nat.le_refl _, fun y_ => ⟨by
  rcases x.there hi with ⟨o, ho⟩
  rw [ho]; exact hk _ _ ho, rfl⟩⟩
theorem HR.alloc (x : HR W h io m) {a d : Addr} {o : MObj} (hk : ∀ b o, h.get? b = some o -> h'.get? b = some o) (ha : h.get? a = none) (hd : h.get? d = none)
  (k : OR W h' (io ++ [(a, d)]) a d o) : HR W h' (io ++ [(a, d)]) (m ++ [o]) where
 keep := fun b o e => hk b o (x.keep b o e)
 len := by simp [x.len]
 obj := fun n p o' hi hm => by
  by_cases q : n < io.length
  ·rw [List.getElem?_append_left q] at hi
   rw [List.getElem?_append_left (x.len ▸ q)] at hm
   exact (x.obj n p o' hi hm).step_same (e7 (own := []) (fr := []) (o := o) x hk ha hd) (hk _) (hk _)
  ·have q1 : n = io.length := by
    have := (List.getElem?_eq_some_iff.mp hi).1
    simp at this; omega
   subst q1
   rw [List.getElem?_append_right (Nat.le_refl _)] at hi
   rw [x.len, List.getElem?_append_right (Nat.le_refl _)] at hm
   simp at hi hm
   subst hi hm
   exact k
 fresh := fun b f => by
  rcases d7 f with f | ⟨p, hp, e⟩
  ·exact x.fresh b f
  ·rw [List.mem_singleton.mp hp] at e
   cases q : W.base.get? b with
   | none => rfl
   | some o =>
    have := x.keep b o q
    rcases e with e | e <;> subst e
    ·rw [ha] at this; cases this
    ·rw [hd] at this; cases this
 apart := fun i j p q hij hi hj => by
  have lo : ∀ (n : Nat) (p : Addr × Addr), (io ++ [(a, d)])[n]? = some p -> (n < io.length /\ io[n]? = some p) \/ (n = io.length /\ p = (a, d)) := fun n p hn => by
   by_cases q : n < io.length
   ·rw [List.getElem?_append_left q] at hn; exact .inl ⟨q, hn⟩
   ·have q1 : n = io.length := by
     have := (List.getElem?_eq_some_iff.mp hn).1
     simp at this; omega
    subst q1
    rw [List.getElem?_append_right (Nat.le_refl _)] at hn
    simp at hn
    exact .inr ⟨rfl, hn.symm⟩
  have off : ∀ (n : Nat) (p : Addr × Addr), io[n]? = some p -> p.1 ≠ a /\ p.1 ≠ d /\ p.2 ≠ a /\ p.2 ≠ d := fun n p hn => by
   refine hide fun G_ g_ => ?_
   rcases x.foot ⟨p, List.mem_of_getElem? hn, .inl rfl⟩ with ⟨o1, h1, y_⟩
   rcases x.foot ⟨p, List.mem_of_getElem? hn, .inr rfl⟩ with ⟨o2, h2, y_⟩
   refine g_ ?_
   clear g_ G_
   refine ⟨fun e => ?_, fun e => ?_, fun e => ?_, fun e => ?_⟩
   ·rw [e, ha] at h1; cases h1
   ·rw [e, hd] at h1; cases h1
   ·rw [e, ha] at h2; cases h2
   ·rw [e, hd] at h2; cases h2
  rcases lo i p hi with ⟨_, hi⟩ | ⟨ei, rfl⟩ <;> rcases lo j q hj with ⟨_, hj⟩ | ⟨ej, rfl⟩
  ·exact x.apart i j p q hij hi hj
  ·obtain ⟨h1, h2, h3, h4⟩ := off i p hi
   exact ⟨h1, h2, h4⟩
  ·obtain ⟨h1, h2, h3, h4⟩ := off j q hj
   exact ⟨Ne.symm h1, Ne.symm h3, Ne.symm h4⟩
  ·exact absurd (ei.trans ej.symm) hij
theorem aE8 (x : HR W h io m) {n : Nat} {p : Addr × Addr} {o o1 : MObj} (hi : io[n]? = some p) (hm : m[n]? = some o) (hk : ∀ b o, b ≠ p.1 -> b ≠ p.2 -> h.get? b = some o -> h'.get? b = some o)
  (h1 : ∃ o', h'.get? p.1 = some o') (h2 : ∃ o', h'.get? p.2 = some o') (hd : ∀ kvs e, o = .dict kvs e -> ∃ kvs' e', o1 = .dict kvs' e' /\ e < e') : Step own fr h io m h' io (m.set n o1) where
 alive := fun b o e => by
  by_cases q : b = p.1
  ·subst q; exact h1
  ·by_cases q2 : b = p.2
   ·subst q2; exact h2
   ·exact ⟨o, hk b o q q2 e⟩
 solid := fun b o e s => hk b o (fun q => x.nofoot_of_solid e s ⟨p, List.mem_of_getElem? hi, .inl q⟩) (fun q => x.nofoot_of_solid e s ⟨p, List.mem_of_getElem? hi, .inr q⟩) e
 keep := fun b o e f y_ y_ => hk b o (fun q => f ⟨p, List.mem_of_getElem? hi, .inl q⟩) (fun q => f ⟨p, List.mem_of_getElem? hi, .inr q⟩) e
 slots := fun b o e f y_ => ⟨o.slots, hk b o (fun q => f ⟨p, List.mem_of_getElem? hi, .inl q⟩) (fun q => f ⟨p, List.mem_of_getElem? hi, .inr q⟩) e⟩
 grow := ⟨[], by simp, fun y_ hp => nomatch hp⟩
 dicts := fun k q kvs e hq hmk => by
  by_cases z : k = n
  ·subst z
   rw [hm] at hmk; cases hmk
   obtain ⟨kvs', e', rfl, hlt⟩ := hd kvs e rfl
   refine ⟨kvs', e', by simp [(List.getElem?_eq_some_iff.mp hm).1], by omega, fun w => by omega⟩
  ·refine ⟨kvs, e, by rw [List.getElem?_set_ne (Ne.symm z)]; exact hmk, Nat.le_refl _, fun y_ => ⟨?_, rfl⟩⟩
   rcases x.there hq with ⟨o, ho⟩
   obtain ⟨a1, a2, a3⟩ := x.apart k n q p z hq hi
   rw [ho]; exact hk _ _ a1 a2 ho
theorem HR.set (x : HR W h io m) {n : Nat} {p : Addr × Addr} {o o1 : MObj} (hi : io[n]? = some p) (hm : m[n]? = some o) (hk : ∀ b o, b ≠ p.1 -> b ≠ p.2 -> h.get? b = some o -> h'.get? b = some o)
  (hd : ∀ kvs e, o = .dict kvs e -> ∃ kvs' e', o1 = .dict kvs' e' /\ e < e') (h1 : ∃ o', h'.get? p.1 = some o') (h2 : ∃ o', h'.get? p.2 = some o') (k : OR W h' io p.1 p.2 o1) : HR W h' io (m.set n o1) where
 keep := fun b o e => hk b o (fun q => by rw [x.fresh b ⟨p, List.mem_of_getElem? hi, .inl q⟩] at e; cases e) (fun q => by rw [x.fresh b ⟨p, List.mem_of_getElem? hi, .inr q⟩] at e; cases e) (x.keep b o e)
 len := by simp [x.len]
 obj := fun j q o' hj hmj => by
  by_cases z : j = n
  ·subst z
   rw [hi] at hj; cases hj
   rw [List.getElem?_set_self (List.getElem?_eq_some_iff.mp hm).1] at hmj; cases hmj
   exact k
  ·rw [List.getElem?_set_ne (Ne.symm z)] at hmj
   refine hide fun G_ g_ => ?_
   rcases x.apart j n q p z hj hi with ⟨a1, a2, a3⟩
   rcases x.apart n j p q (Ne.symm z) hi hj with ⟨b1, b2, b3⟩
   refine g_ ?_
   clear g_ G_
   exact (x.obj j q o' hj hmj).step_same (aE8 (own := []) (fr := []) x hi hm hk h1 h2 hd) (fun o e => hk _ o a1 a2 e) (fun o e => hk _ o (Ne.symm b2) a3 e)
 fresh := x.fresh
 apart := x.apart
end
end Mini
namespace Mini
open PySem PySem.Calls
section
variable {prog : Program} {w : World} {A : Around} {E : Value -> Shared -> Prop} {s : Shared}
end
end Mini
namespace Mini
open PySem
noncomputable def frs (fs : List Env) : List Addr := fs.filterMap (·.frame)
structure FR (W : Wd) (h : Heap) (io : Io) (env : Env) (vis : List (Option Str)) (r : Lo) : Prop where
 kind : env.scope.kind = .function
 glob : env.globals = mainGlobals
 blt : env.builtins = builtinsNs
 nofoot : ¬ dE io env.locals
 fresh : W.base.get? env.locals = none
 loc : ∃ mp, h.Ns env.locals mp /\ ∀ (i : Nat) (x : Str) (v : V), vis[i]? = some (some x) -> r[i]? = some (some v) -> env.kindOf x = some .local -> ∃ u, mp x = some u /\ VR W h io v u
 cel : ∀ (i : Nat) (x : Str) (v : V), vis[i]? = some (some x) -> r[i]? = some (some v) -> (env.kindOf x = some .cell \/ env.kindOf x = some .free) -> ∃ c u, env.cells.lookup x = some c /\ h.IsCell c (some u) /\ VR W h io v u
 cells : ∀ (x : Str) (c : Addr), env.cells.lookup x = some c -> (∃ o, h.IsCell c o) /\ W.base.get? c = none /\ c ≠ env.locals
 celex : ∀ (i : Nat) (x : Str), vis[i]? = some (some x) -> (env.kindOf x = some .cell \/ env.kindOf x = some .free) -> ∃ c, env.cells.lookup x = some c
 apart : ∀ (x y : Str) (c : Addr), env.cells.lookup x = some c -> env.cells.lookup y = some c -> x = y
 inj : ∀ (i j : Nat) (x : Str), vis[i]? = some (some x) -> vis[j]? = some (some x) -> i = j
 len : r.length = vis.length
noncomputable def FF (W : Wd) (h : Heap) (io : Io) (fs : List Env) : Prop :=
 ∀ env ∈ fs, env.scope.kind ≠ .module /\ ∃ L o es n, env.frame = some L /\ W.base.get? L = none /\ ¬ dE io L /\ h.get? L = some o /\ o.data = .dict es n
structure AR (A : Around) (fs : List Env) (n : Nat) : Prop where
 frames : A.frames = some fs
 depth : A.depth + 4 * n <= 900
 units : A.units + 40 * n + 400 <= 9000
noncomputable def Same (s s' : Shared) : Prop := s'.gens = s.gens /\ s'.os = s.os
theorem Same.refl (s : Shared) : Same s s := ⟨rfl, rfl⟩
theorem Same.trans {a b c : Shared} (x : Same a b) (y : Same b c) : Same a c := ⟨y.1.trans x.1, y.2.trans x.2⟩
inductive NP (W : Wd) (own fr : List Addr) (s : Shared) (io : Io) (m : MH) {α β : Type} (P : Heap -> Io -> α -> β -> Prop) (R : Res α) (u : β) (s' : Shared) : Prop
 | mk (v : α) (m' : MH) (io' : Io) (e : R = .ok v m') (st : Step own fr s.heap io m s'.heap io' m') (hr : HR W s'.heap io' m') (p : P s'.heap io' v u) (sm : Same s s')
noncomputable def NX : Value -> Shared -> Prop := fun y_ y_ => False
noncomputable abbrev VP (W : Wd) : Heap -> Io -> V -> Value -> Prop := fun h io v u => VR W h io v u
noncomputable abbrev VsP (W : Wd) : Heap -> Io -> List V -> List Value -> Prop := fun h io v u => VRs W h io v u
noncomputable abbrev BP : Heap -> Io -> Bool -> Bool -> Prop := fun y_ y_ b c => b = c
section
variable {W : Wd} {h h' : Heap} {io io' : Io} {m m' : MH} {own fr : List Addr} {env : Env} {vis : List (Option Str)} {r : Lo} {fs : List Env} {s s' : Shared}
theorem cB3 {h h' : Heap} {L : Addr} {mp : Str -> Option Value} (x : h.Ns L mp) (k : ∀ o, h.get? L = some o -> ∃ sl, h'.get? L = some { o with slots := sl }) : h'.Ns L mp := by
 obtain ⟨o, es, ep, ho, hd, r⟩ := x
 rcases k o ho with ⟨sl, e⟩
 exact ⟨_, es, ep, e, hd, r⟩
theorem aN0 {h h' : Heap} {c : Addr} {v : Option Value} (x : h.IsCell c v) (k : ∀ o, h.get? c = some o -> ∃ sl, h'.get? c = some { o with slots := sl }) : h'.IsCell c v := by
 obtain ⟨o, ho, hd⟩ := x
 rcases k o ho with ⟨sl, e⟩
 exact ⟨_, e, hd⟩
theorem FR.step (F : FR W h io env vis r) (H : HR W h io m) (x : Step own fr h io m h' io' m') (hL : env.locals ∉ own) (hc : ∀ y c, env.cells.lookup y = some c -> c ∉ own) : FR W h' io' env vis r := by
 have sc : ∀ y c, env.cells.lookup y = some c -> ∀ o, h.get? c = some o -> ∃ sl, h'.get? c = some { o with slots := sl } := fun y c hy o ho => by
  obtain ⟨⟨v, oc, hoc, hd⟩, y_⟩ := F.cells y c hy
  refine x.slots c o ho ?_ (hc y c hy)
  exact H.nofoot_of_cell hoc hd
 refine hide fun G_ g_ => ?_
 rcases F.loc with ⟨mp, hn, hl⟩
 rcases id hn with ⟨oL, y_, y_, hoL, y_⟩
 refine g_ ?_
 clear g_ G_
 refine ⟨F.kind, F.glob, F.blt, x.nofoot hoL F.nofoot, F.fresh, ⟨mp, cB3 hn fun o ho => x.slots _ o ho F.nofoot hL, fun i y v h1 h2 h3 => ?_⟩, fun i y v h1 h2 h3 => ?_, fun y c hy => ?_, F.celex, F.apart, F.inj, F.len⟩
 ·obtain ⟨u, e, k⟩ := hl i y v h1 h2 h3
  exact ⟨u, e, k.step x⟩
 ·obtain ⟨c, u, e, k1, k2⟩ := F.cel i y v h1 h2 h3
  exact ⟨c, u, e, aN0 k1 (sc y c e), k2.step x⟩
 ·obtain ⟨⟨o, k1⟩, k2, k3⟩ := F.cells y c hy
  exact ⟨⟨o, aN0 k1 (sc y c hy)⟩, k2, k3⟩
theorem FR.step0 (F : FR W h io env vis r) (H : HR W h io m) (x : Step [] fr h io m h' io' m') : FR W h' io' env vis r := F.step H x (fun q => nomatch q) fun y_ y_ y_ q => nomatch q
theorem FF.step (F : FF W h io fs) (x : Step own fr h io m h' io' m') (ho : ∀ L ∈ frs fs, L ∉ own) : FF W h' io' fs := by
 intro env he
 obtain ⟨hk, L, o, es, n, h1, h2, h3, h4, h5⟩ := F env he
 rcases x.slots L o h4 h3 (ho L (List.mem_filterMap.mpr ⟨env, he, h1⟩)) with ⟨sl, e⟩
 exact ⟨hk, L, _, es, n, h1, h2, x.nofoot h4 h3, e, h5⟩
theorem FF.step0 (F : FF W h io fs) (x : Step [] fr h io m h' io' m') : FF W h' io' fs := F.step x fun y_ y_ q => nomatch q
theorem AR.cline {A : Around} {n : Nat} (x : AR A fs n) : A.units + 400 < cLine := by have := x.units; simp only [cLine]; omega
theorem NP.mono {α β : Type} {P : Heap -> Io -> α -> β -> Prop} {R : Res α} {u : β} {s₁ : Shared} {io₁ : Io} {m₁ : MH} (x : NP W own fr s₁ io₁ m₁ P R u s') (st : Step own fr s.heap io m s₁.heap io₁ m₁) (sm : Same s s₁) : NP W own fr s io m P R u s' := by
 obtain ⟨v, m', io', rfl, h2, h3, h4, h5⟩ := x
 exact ⟨v, m', io', rfl, st.trans h2, h3, h4, sm.trans h5⟩
noncomputable def Si (W : Wd) (own : List Addr) (A : Around) (fs : List Env) {α β : Type} (P : Heap -> Io -> α -> β -> Prop) (t : Sem β) (s : Shared) (io : Io) (m : MH) (R : Res α) : Prop :=
 R ≠ .bad -> wpAny (model W.prog W.w) A t (NP W own (frs fs) s io m P R) NX s
section
variable {α α' β β' γ : Type} {A : Around} {P : Heap -> Io -> α -> β -> Prop} {P' : Heap -> Io -> α' -> β' -> Prop}
theorem Res.bind_ne {R : Res α} {f : α -> Mn α'} (h : R.bind f ≠ .bad) : R ≠ .bad := fun q => h (by rw [q]; rfl)
theorem Si.bind {t : Sem β} {k : β -> Sem β'} {R : Res α} {f : α -> Mn α'} (x : Si W own A fs P t s io m R)
  (y : ∀ u s₁ io₁ m₁ v, R = .ok v m₁ -> Step own (frs fs) s.heap io m s₁.heap io₁ m₁ -> HR W s₁.heap io₁ m₁ -> P s₁.heap io₁ v u -> Same s s₁ -> Si W own A fs P' (k u) s₁ io₁ m₁ (f v m₁)) :
  Si W own A fs P' (t >>= k) s io m (R.bind f) := by
 intro hne
 refine wpAny_bind (wpAny_mono (x (Res.bind_ne hne)) (fun u s₁ hp => ?_) fun y_ y_ hp => hp)
 obtain ⟨v, m₁, io₁, rfl, st, hr, hp, sm⟩ := hp
 exact wpAny_mono (y u s₁ io₁ m₁ v rfl st hr hp sm hne) (fun y_ y_ z => z.mono st sm) fun y_ y_ z => z
theorem Si.pure {u : β} {v : α} (H : HR W s.heap io m) (p : P s.heap io v u) : Si W own A fs P (Pure.pure u) s io m (.ok v m) :=
 fun y_ => wpAny_pure ⟨v, m, io, rfl, .refl, H, p, .refl _⟩
theorem Si.bad {t : Sem β} : Si W own A fs P t s io m .bad := fun h => absurd rfl h
theorem Si.standAt {pos : Pos} {k : Unit -> Sem β} {R : Res α} (x : Si W own A fs P (k ()) s io m R) : Si W own A fs P (PySem.standAt pos >>= k) s io m R :=
 fun h => wpAny_bind (wpAny_standAt (x h))
theorem Si.holding {vs : List Value} {t : Sem β} {R : Res α} (x : Si W own A fs P t s io m R) : Si W own A fs P (holding vs t) s io m R := fun h => wpAny_holding (x h)
theorem aN5 {M : Model} {A : Around} {E : Value -> Shared -> Prop} {s : Shared} {vs : List Value} {t : Sem Value} {Q : Value -> Shared -> Prop} (h : wpAny M A t Q E s) : wpAny M A (operate vs t) Q E s :=
 fun Γ p hΓ => by rw [Sem.wp_operate]; exact h Γ p hΓ
theorem Si.operate {vs : List Value} {t : Sem Value} {P : Heap -> Io -> α -> Value -> Prop} {R : Res α} (x : Si W own A fs P t s io m R) : Si W own A fs P (operate vs t) s io m R := fun h => aN5 (x h)
end
end
end Mini
namespace Mini
open PySem
theorem aU4 : lid = 4194304 := rfl
section
variable {W : Wd} {own : List Addr} {A : Around} {fs : List Env} {s : Shared} {io : Io} {m : MH} {n : Nat}
theorem aY0 {α β : Type} {g : α -> Option β} {x : α} {xs : List α} {ds : List β} (h : aA0 g (x :: xs) = some ds) : ∃ d r, ds = d :: r /\ g x = some d /\ aA0 g xs = some r := by
 have h : (match g x, aA0 g xs with | some d, some ds => some (d :: ds) | _, _ => none) = some ds := h
 cases h1 : g x with
 | none => rw [h1] at h; cases h
 | some d =>
  cases h2 : aA0 g xs with
  | none => rw [h1, h2] at h; cases h
  | some r => rw [h1, h2] at h; cases h; exact ⟨d, r, rfl, rfl, rfl⟩
theorem dB {f : Nat} (one : ∀ (v : V) (u : Value) (d : PyData), rd f m v = some d -> VR W s.heap io v u -> (∃ as, Reads s.heap u d as) /\ d.canLay0 = true /\ d.depth <= f) : ∀ (xs : List V) (us : List Value) (ds : List PyData), aA0 (rd f m) xs = some ds -> VRs W s.heap io xs us -> (∃ as, ReadsAll s.heap us ds as) /\ PyData.canLayAll0 ds = true /\ PyData.depthAll ds <= f
 | [], us, ds, h, k => by
  cases k
  have h : some [] = some ds := h
  cases h
  exact ⟨⟨_, .nil⟩, rfl, by simp [PyData.depthAll]⟩
 | x :: xs, us, ds, h, k => by
  obtain ⟨d, r, rfl, h1, h2⟩ := aY0 h
  refine VRs.dCons k fun y_ y_ k1 k2 => ?_
  ·
   refine hide fun G_ g_ => ?_
   rcases one x _ d h1 k1 with ⟨⟨as, r1⟩, c1, d1⟩
   rcases dB one xs _ r h2 k2 with ⟨⟨bs, r2⟩, c2, d2⟩
   refine g_ ?_
   clear g_ G_
   exact ⟨⟨_, .cons r1 r2⟩, by simp [PyData.canLayAll0, c1, c2], by simp only [PyData.depthAll]; omega⟩
set_option tactic.hygienic true in
theorem cO (H : HR W s.heap io m) : ∀ (f : Nat) (v : V) (u : Value) (d : PyData), rd f m v = some d -> VR W s.heap io v u -> (∃ as, Reads s.heap u d as) /\ d.canLay0 = true /\ d.depth <= f
 | 0, _, _, _, h, _ => nomatch (show none = some _ from h)
 | f + 1, v, u, d, h, k => by
  induction k using VR.elim with
  | none => have h : some PyData.none = some d := h; cases h; exact ⟨⟨_, .none⟩, rfl, by simp [PyData.depth]⟩
  | bool b => have h : some (PyData.bool b) = some d := h; cases h; exact ⟨⟨_, .bool b⟩, rfl, by simp [PyData.depth]⟩
  | int i t => have h : some (PyData.int i) = some d := h; cases h; exact ⟨⟨_, .int i t⟩, rfl, by simp [PyData.depth]⟩
  | str x t ok => have h : some (PyData.str x) = some d := h; cases h; exact ⟨⟨_, .str x t⟩, by simpa [PyData.canLay0] using ok, by simp [PyData.depth]⟩
  | tup h1 h4 =>
   have h := Option.map_eq_some_iff.mp (show (aA0 (rd f m) _).map PyData.tuple = some d from h)
   refine hide fun G_ g_ => ?_
   rcases h with ⟨ds, hds, rfl⟩
   rcases dB (cO H f) _ _ ds hds h4 with ⟨⟨as, hr⟩, hc, hd⟩
   refine g_ ?_
   clear g_ G_
   exact ⟨⟨_, .tuple h1 rfl rfl hr⟩, by simpa [PyData.canLay0] using hc, by simp only [PyData.depth]; omega⟩
  | ref h1 =>
   rename_i k a d'
   have h : (match m[k]? with | some (.list xs) => (aA0 (rd f m) xs).map PyData.list | _ => none) = some d := h
   cases hx : m[k]? with
   | none => rw [hx] at h; cases h
   | some ob =>
    rw [hx] at h
    cases ob with
    | list xs =>
     have h := Option.map_eq_some_iff.mp (show (aA0 (rd f m) xs).map PyData.list = some d from h)
     refine hide fun G_ g_ => ?_
     rcases h with ⟨ds, hds, rfl⟩
     rcases H.obj _ _ _ h1 hx with ⟨y_, vs, n', g1, g4, y_⟩
     rcases dB (cO H f) _ _ ds hds g4 with ⟨⟨as, hr⟩, hc, hd⟩
     refine g_ ?_
     clear g_ G_
     exact ⟨⟨_, .list g1 rfl rfl hr⟩, by simpa [PyData.canLay0] using hc, by simp only [PyData.depth]; omega⟩
    | _ => cases h
  | fn k => exact nomatch (show none = some d from h)
  | exc y_ y_ y_ => exact nomatch (show none = some d from h)
  | scr y_ y_ y_ y_ y_ => exact nomatch (show none = some d from h)
noncomputable abbrev BV : Heap -> Io -> Bool -> Value -> Prop := fun y_ y_ b u => u = .bool b
theorem aZ7 (k : Nat) : ((k : Int) != 0) = (k != 0) := by
 rw [Bool.eq_iff_iff]; simp
theorem bF7 {xs : List V} {vs : Array Value} (e : vs.toList.length = xs.length) : (!vs.isEmpty) = !xs.isEmpty := by
 rw [Array.length_toList] at e
 cases xs with
 | nil => have : vs = #[] := Array.eq_empty_of_size_eq_zero e; subst this; rfl
 | cons x xs =>
  have : vs.isEmpty = false := by
   rw [Array.isEmpty_eq_false_iff]; intro q; subst q; simp at e
  rw [this]; rfl
set_option tactic.hygienic true in
theorem aG3 (H : HR W s.heap io m) {v : V} {u : Value} (k : VR W s.heap io v u) : Si W own A fs BP (truthy u) s io m (eC v m) := by
 induction k using VR.elim with
 | none => exact fun y_ => wpAny_pure (a := false) ⟨false, m, io, rfl, .refl, H, rfl, .refl _⟩
 | bool b => exact fun y_ => wpAny_truthy_bool ⟨b, m, io, rfl, .refl, H, rfl, .refl _⟩
 | int i t => exact fun y_ => P.truthy_int ⟨_, m, io, rfl, .refl, H, rfl, .refl _⟩
 | str x t ok =>
  simp only [eC]
  split
  ·rename_i hl
   exact fun y_ => P.truthy_str (by rw [aU4] at hl; omega) ⟨_, m, io, rfl, .refl, H, (aZ7 _).symm, rfl, rfl⟩
  ·exact Si.bad
 | tup h1 h4 =>
  simp only [eC]
  split
  ·rename_i hl
   have e := h4.length
   exact fun y_ => PyProof.Rows.truthy_tuple ⟨_, h1, rfl, _, rfl⟩ (by rw [aU4] at hl; rw [Array.length_toList] at e; omega) ⟨_, m, io, rfl, .refl, H, (bF7 e).symm, rfl, rfl⟩
  ·exact Si.bad
 | ref h1 =>
  simp only [eC]
  split
  ·rename_i xs hx
   obtain ⟨y_, vs, n', g1, g4, g5⟩ := H.obj _ _ _ h1 hx
   have e := g4.length
   exact fun y_ => wpAny_truthy_list ⟨_, g1, rfl, _, rfl⟩ (by rw [aU4] at g5; rw [Array.length_toList] at e; omega) ⟨_, m, io, rfl, .refl, H, (bF7 e).symm, rfl, rfl⟩
  ·exact Si.bad
 | fn k => exact Si.bad
 | exc y_ y_ y_ => exact Si.bad
 | scr y_ y_ y_ y_ y_ => exact Si.bad
theorem aL {h : Heap} (o : Obj) : ∀ b o', h.get? b = some o' -> (h.push o).get? b = some o' := fun y_ y_ e => Heap.get?_push_of_some o e
theorem aR (h : Heap) : h.get? h.objs.size = none := by
 cases q : h.get? h.objs.size with
 | none => rfl
 | some o => exact absurd (Heap.lt_size q) (Nat.lt_irrefl _)
theorem aC8 {fr : List Addr} (H : HR W s.heap io m) {vs : Array Value} {xs : List V} {k tk : Nat} (hv : VRs W s.heap io xs vs.toList) (hl : xs.length <= lid) :
  NP W own fr s io m (VP W) (alloc (.list xs) m) (.ref s.heap.objs.size) { s with heap := s.heap.push (fJ vs k), toks := tk } := by
 have st : Step own fr s.heap io m (s.heap.push (fJ vs k)) (io ++ [(s.heap.objs.size, s.heap.objs.size)]) (m ++ [.list xs]) := e7 H (aL _) (aR _) (aR _)
 refine ⟨_, _, _, rfl, st, H.alloc (aL _) (aR _) (aR _) ⟨rfl, vs, k, Heap.get?_push_size _ rfl, hv.step st, hl⟩, .ref (d := s.heap.objs.size) ?_, rfl, rfl⟩
 rw [<- H.len]; simp
theorem cH1 {fr : List Addr} (H : HR W s.heap io m) {vs : Array Value} {xs : List V} {k tk : Nat} (hv : VRs W s.heap io xs vs.toList) :
  NP W own fr s io m (VP W) (.ok (.tup xs) m) (.ref s.heap.objs.size) { s with heap := s.heap.push (cG1 vs k), toks := tk } := by
 have st : Step own fr s.heap io m (s.heap.push (cG1 vs k)) io m := .of_keeps H (aL _)
 exact ⟨_, _, _, rfl, st, H.of_keeps (aL _), .tup (Heap.get?_push_size _ rfl) (hv.step st), rfl, rfl⟩
theorem bC {fr : List Addr} (H : HR W s.heap io m) {v : V} {u : Value} {tk : Nat} (hv : VR W s.heap io v u) : NP W own fr s io m (VP W) (.ok v m) u { s with toks := tk } :=
 ⟨v, m, io, rfl, .refl, H, hv, rfl, rfl⟩
theorem cN8 {fr : List Addr} (H : HR W s.heap io m) {k tk : Nat} :
  NP W own fr s io m (VP W) (alloc (.dict [] 0) m) (.ref s.heap.objs.size) { s with heap := s.heap.push (dB7 [] k), toks := tk } := by
 have st : Step own fr s.heap io m (s.heap.push (dB7 [] k)) (io ++ [(s.heap.objs.size, s.heap.objs.size)]) (m ++ [.dict [] 0]) := e7 H (aL _) (aR _) (aR _)
 refine ⟨_, _, _, rfl, st, H.alloc (aL _) (aR _) (aR _) ⟨rfl, _, _, k, Heap.get?_push_size _ rfl, ⟨rfl, rfl, rfl⟩, rfl, .nil, .nil, by simp [lid]⟩, .ref (d := s.heap.objs.size) ?_, rfl, rfl⟩
 rw [<- H.len]; simp
theorem eH {x y : Str} (hx : PyData.strOk x = true) (hy : PyData.strOk y = true) : PyData.strOk (x ++ y) = true := by
 unfold PyData.strOk at *
 rw [Str.cps_append]
 simp only [Array.all_append, hx, hy, Bool.and_self]
theorem aK {k : Nat} (h : k <= lid) : k <= sizeLine := by rw [aU4] at h; show k <= 2 ^ 24; omega
set_option tactic.hygienic true in
theorem aN2 {i : Int} (h : i.natAbs < 1073741824) : Builtin.Int.intBits i <= 64 := by
 unfold Builtin.Int.intBits
 split
 ·omega
 ·rename_i h0
  have h1 : i.natAbs ≠ 0 := by
   intro q
   have : i = 0 := by omega
   subst this; simp at h0
  have := (Nat.log2_lt h1 (k := 30)).mpr (by omega)
  omega
theorem bV4 {Pr : Operator -> V -> V -> Prop} (a1 : ∀ i j, Pr .Add (.int i) (.int j)) (a2 : ∀ i j, Pr .Sub (.int i) (.int j)) (a3 : ∀ i j, Pr .Mult (.int i) (.int j)) (a4 : ∀ i j, Pr .FloorDiv (.int i) (.int j)) (a5 : ∀ i j, Pr .Mod (.int i) (.int j))
  (a6 : ∀ x y, Pr .Add (.str x) (.str y)) (a8 : ∀ p q, Pr .Add (.ref p) (.ref q)) (bad : ∀ op a b, bL0 op a b = (fun y_ => .bad) -> Pr op a b) (op : Operator) (a b : V) : Pr op a b := by
 cases op <;> first | (exact bad _ _ _ rfl) | skip
 all_goals cases a <;> first | (exact bad _ _ _ rfl) | skip
 all_goals cases b <;> first | (exact a1 _ _) | (exact a2 _ _) | (exact a3 _ _) | (exact a4 _ _) | (exact a5 _ _) | (exact a6 _ _) | (exact a8 _ _) | (exact bad _ _ _ rfl)
set_option tactic.hygienic true in
theorem cT2 (H : HR W s.heap io m) {op : Operator} {v x : V} {u y : Value} (k : VR W s.heap io v u) (l : VR W s.heap io x y) :
  Si W own A fs (VP W) (binaryOp op u y) s io m (bL0 op v x m) := by
 revert k l
 refine bV4 (Pr := fun op v x => VR W s.heap io v u -> VR W s.heap io x y -> Si W own A fs (VP W) (binaryOp op u y) s io m (bL0 op v x m)) ?_ ?_ ?_ ?_ ?_ ?_ ?_ ?_ op v x
 ·intro i j k l; cases k; cases l; exact fun y_ => P.add_int (bC H (.int _ _))
 ·intro i j k l; cases k; cases l; exact fun y_ => P.sub_int (bC H (.int _ _))
 ·intro i j k l; cases k; cases l
  show Si W own A fs (VP W) _ s io m (if i.natAbs < 1073741824 \/ j.natAbs < 1073741824 then .ok (.int (i * j)) m else .bad)
  split
  ·rename_i hc
   intro y_
   refine P.mul_int (bC H (.int _ _)) ?_
   rcases hc with hc | hc
   ·exact IntMulOk.of_left (aN2 hc)
   ·exact IntMulOk.of_right (aN2 hc)
  ·exact Si.bad
 ·intro i j k l; cases k; cases l
  show Si W own A fs (VP W) _ s io m (if 0 < j /\ j.natAbs < 1073741824 then .ok (.int (i / j)) m else .bad)
  split
  ·rename_i hj
   rw [<- Int.fdiv_eq_ediv_of_nonneg _ (Int.le_of_lt hj.1)]
   exact fun y_ => PyProof.Rows.floordiv_int (Int.ne_of_gt hj.1) (bC H (.int _ _)) (.inl (PyProof.noPylong_small hj.2))
  ·exact Si.bad
 ·intro i j k l; cases k; cases l
  show Si W own A fs (VP W) _ s io m (if 0 < j then .ok (.int (i % j)) m else .bad)
  split
  ·rename_i hj
   rw [<- Int.fmod_eq_emod_of_nonneg _ (Int.le_of_lt hj)]
   exact fun y_ => PyProof.Rows.mod_int (Int.ne_of_gt hj) (bC H (.int _ _))
  ·exact Si.bad
 ·intro x y k l
  refine VR.dStr k fun y_ k1 => ?_; refine VR.dStr l fun y_ l1 => ?_
  show Si W own A fs (VP W) _ s io m (if x.length + y.length <= lid then .ok (.str (x ++ y)) m else .bad)
  split
  ·rename_i hl
   exact fun y_ => PyProof.Rows.add_str (fun t' tk => bC H (.str _ _ (eH k1 l1))) (aK hl)
  ·exact Si.bad
 ·intro p q k l
  refine VR.dRef k fun y_ y_ h1 => ?_; refine VR.dRef l fun y_ y_ g1 => ?_
  show Si W own A fs (VP W) _ s io m (match m[p]?, m[q]? with | some (.list x), some (.list y) => if x.length + y.length <= lid then alloc (.list (x ++ y)) m else .bad | _, _ => .bad)
  split
  ·rename_i x y hx hy
   refine hide fun G_ g_ => ?_
   rcases H.obj _ _ _ h1 hx with ⟨y_, vs, n', a1, a4, a5⟩
   rcases H.obj _ _ _ g1 hy with ⟨y_, ws, n2, b1, b4, b5⟩
   refine g_ ?_
   clear g_ G_
   split
   ·rename_i hl
    have e1 := a4.length
    have e2 := b4.length
    rw [Array.length_toList] at e1 e2
    exact fun y_ => P.add_list a1 b1 (aC8 H (by rw [Array.toList_append]; exact a4.append b4) (by simpa using hl)) (aK (by omega))
   ·exact Si.bad
  ·exact Si.bad
 ·intro op a b e k l; rw [e]; exact Si.bad
theorem fP {fr : List Addr} (H : HR W s.heap io m) {b : Bool} {tk : Nat} : NP W own fr s io m BV (.ok b m) (.bool b) { s with toks := tk } := ⟨b, m, io, rfl, .refl, H, rfl, rfl, rfl⟩
theorem aZ6 {M : Model} {A : Around} {E : Value -> Shared -> Prop} {s : Shared} {a b : Value} {Q : Value -> Shared -> Prop} (h : wpAny M A (compareOp .In a b) (fun v s' => ∃ c, v = .bool c /\ Q (.bool (!c)) s') E s) :
  wpAny M A (compareOp .NotIn a b) Q E s := by
 intro Γ p hΓ
 have h1 := h Γ p hΓ
 show Sem.wp M Γ (contains b a >>= fun c => pure (Value.bool (!c))) _ _ p s
 have h2 : Sem.wp M Γ (contains b a >>= fun c => pure (Value.bool c)) (fun v y_ s' => ∃ c, v = .bool c /\ Q (.bool (!c)) s') (fun e y_ s' => E e s') p s := h1
 rw [Sem.wp_bind'] at h2 ⊢
 refine Sem.wp_mono M Γ _ (fun c p' s' h' => ?_) (fun y_ y_ y_ x => x) p s h2
 obtain ⟨c', e, q⟩ := h'
 cases e
 exact q
theorem Si.not {t t' : Sem Value} {R : Res Bool} (x : Si W own A fs BV t s io m R)
  (k : ∀ (E : Value -> Shared -> Prop) (Q : Value -> Shared -> Prop), wpAny (model W.prog W.w) A t (fun v s' => ∃ c, v = .bool c /\ Q (.bool (!c)) s') E s -> wpAny (model W.prog W.w) A t' Q E s) : Si W own A fs BV t' s io m (R.bind fun c => ret (!c)) := by
 intro hne
 refine k _ _ (wpAny_mono (x (Res.bind_ne hne)) (fun u s' p => ?_) fun y_ y_ p => p)
 obtain ⟨v, m', io', rfl, a1, a2, a3, a4⟩ := p
 exact ⟨v, a3, _, m', io', rfl, a1, a2, rfl, a4⟩
end
end Mini
namespace Mini
open PySem
noncomputable def aE4 : Sum Int Str -> Value -> Bool
 | .inl i, v => Value.isInt i v
 | .inr x, v => Value.isStrOf x v
theorem bW {k : Sum Int Str} {v : Value} (h : aE4 k v = true) : (∃ i t, k = .inl i /\ v = .int i t) \/ (∃ x t, k = .inr x /\ v = .str x t) := by
 cases k with
 | inl j => rcases Value.isInt_shape (k := j) (v := v) h with ⟨u, e⟩; exact .inl ⟨j, u, rfl, e⟩
 | inr x => rcases Value.isStrOf_shape (x := x) (v := v) h with ⟨u, e⟩; exact .inr ⟨x, u, rfl, e⟩
theorem bI9 {prog : Program} {w : World} {A : Around} {E : Value -> Shared -> Prop} {s : Shared} {a b : Sum Int Str} {u v : Value} {Q : Bool -> Shared -> Prop} (hu : aE4 a u = true) (hv : aE4 b v = true) (h : Q (decide (a = b)) s) :
  wpAny (model prog w) A (PySem.eqBool u v) Q E s := by
 rcases bW hu with ⟨i, t, rfl, rfl⟩ | ⟨x, t, rfl, rfl⟩ <;> rcases bW hv with ⟨j, t', rfl, rfl⟩ | ⟨y, t', rfl, rfl⟩
 ·have e : decide (Sum.inl (β := Str) i = .inl j) = (i == j) := by
   by_cases q : i = j <;> simp [q]
  rw [e] at h
  exact wpAny_eqBool_int h
 ·have e : decide (Sum.inl (β := Str) i = .inr y) = false := by simp
  rw [e] at h
  unfold eqBool
  show wpAny _ _ (richCompare .Eq (Value.int i t) (Value.str y t') >>= truthOfDropped) Q E s
  exact wpAny_bind (EqMixed.eq_int_str (wpAny_truthy_bool h))
 ·have e : decide (Sum.inr (α := Int) x = .inl j) = false := by simp
  rw [e] at h
  unfold eqBool
  show wpAny _ _ (richCompare .Eq (Value.str x t) (Value.int j t') >>= truthOfDropped) Q E s
  exact wpAny_bind (EqMixed.eq_str_int (wpAny_truthy_bool h))
 ·have e : decide (Sum.inr (α := Int) x = .inr y) = decide (x = y) := by
   by_cases q : x = y <;> simp [q]
  rw [e] at h
  exact wpAny_eqBool_str h
theorem cB9 {prog : Program} {w : World} {A : Around} {E : Value -> Shared -> Prop} {s : Shared} {k : Sum Int Str} {v : Value} {Q : Int -> Shared -> Prop} (hv : aE4 k v = true) (h : Q (bW1 w k) { s with toks := s.toks + 1 }) :
  wpAny (model prog w) A (PySem.pyHash v) Q E s := by
 rcases bW hv with ⟨i, t, rfl, rfl⟩ | ⟨x, t, rfl, rfl⟩
 ·exact wpAny_pyHash_int h
 ·exact wpAny_pyHash_str h
theorem cO5 (v : Value) (a b : Sum Int Str) (ha : aE4 a v = true) (hb : aE4 b v = true) : a = b := by
 rcases bW ha with ⟨i, t, rfl, rfl⟩ | ⟨x, t, rfl, rfl⟩ <;> rcases bW hb with ⟨j, u, rfl, e⟩ | ⟨y, u, rfl, e⟩ <;> cases e <;> rfl
theorem aZ8 (k : Sum Int Str) (v : Value) (h : aE4 k v = true) : carriedByValue v = true := by
 rcases bW h with ⟨i, t, rfl, rfl⟩ | ⟨x, t, rfl, rfl⟩ <;> rfl
theorem cB8 (k : Sum Int Str) (x : Str) (t : Tok) (v : Value) (h : aE4 k (.str x t) = true) : aE4 k v = v.isStr x := by
 rcases bW h with ⟨i, u, rfl, e⟩ | ⟨y, u, rfl, e⟩
 ·cases e
 ·cases e; cases v <;> rfl
noncomputable def aH7 (prog : Program) (w : World) : KeyKind prog w (Sum Int Str) where
 is := aE4
 hash := bW1 w
 inj := cO5
 byValue := aZ8
 pyHash := cB9
 eqBool := bI9
 «strs» := cB8
section
variable {W : Wd} {h : Heap} {io : Io}
theorem bA2 {ks : List (Sum Int Str)} {vs : List Value} (x : VRs W h io (ks.map fun x => match x with | .inl i => V.int i | .inr s => V.str s) vs) : ItemsAre (aH7 W.prog W.w) ks vs := by
 induction ks generalizing vs with
 | nil => cases x; exact .nil
 | cons k ks ih =>
  refine VRs.dCons x fun y_ y_ h1 r => ?_
  ·
   refine .cons ?_ (ih r)
   cases k with
   | inl i => cases h1; simp [aH7, aE4, Value.isInt]
   | inr s => refine VR.dStr h1 fun y_ y_ => ?_; simp [aH7, aE4, Value.isStrOf]
theorem aA2 {ks : List (Sum Int Str)} {u : Value} (x : VR W h io (Ky.tup ks).val u) : ∃ a, u = .ref a /\ IsTupleKey (aH7 W.prog W.w) h ks a := by
 refine VR.dTup x fun y_ y_ y_ h1 h2 => ?_
 ·exact ⟨_, rfl, _, _, _, h1, rfl, rfl, bA2 h2⟩
section
variable {K : Type} [DecidableEq K] (knd : KeyKind W.prog W.w K) (emb : K -> Ky)
structure Emb : Prop where
 inj : ∀ a b, emb a = emb b -> a = b
 is : ∀ {h : Heap} {io : Io} k u, VR W h io (emb k).val u -> knd.is k u = true
 hash : ∀ k, aU7 W.w (emb k) = knd.hash k
 back : ∀ {h h' : Heap} {io : Io} k u, VR W h io (emb k).val u -> VR W h' io (emb k).val u
variable {knd emb}
theorem ERs.keysOf (E : Emb knd emb) {kvs : List (Ky × V)} {es : List DictEntry} (x : ERs W h io kvs es) (hk : ∀ p ∈ kvs, ∃ k, p.1 = emb k) : ∀ e ∈ es, ∃ k, knd.is k e.key = true /\ e.hash = knd.hash k := by
 induction x using ERs.ind with
 | nil => intro e he; cases he
 | cons h1 h2 y_ ih =>
  intro e he
  cases he with
  | head =>
   rcases hk _ (.head _) with ⟨k, e⟩
   simp only at e
   subst e
   exact ⟨k, E.is k _ h1, E.hash k⟩
  | tail y_ he => exact ih (fun p hp => hk p (.tail _ hp)) e he
theorem ERs.find (E : Emb knd emb) {kvs : List (Ky × V)} {es : List DictEntry} (x : ERs W h io kvs es) (hk : ∀ p ∈ kvs, ∃ k, p.1 = emb k) (k : K) :
  (∃ v u, bM (emb k) kvs = some v /\ (es.find? fun e => knd.is k e.key).map (·.val) = some u /\ VR W h io v u) \/ (bM (emb k) kvs = none /\ (es.find? fun e => knd.is k e.key).map (·.val) = none) := by
 induction x using ERs.ind with
 | nil => exact .inr ⟨rfl, rfl⟩
 | @cons k' v key u kvs es h1 h2 y_ ih =>
  rcases hk _ (.head _) with ⟨j, e⟩
  simp only at e
  subst e
  have hj := E.is j _ h1
  by_cases q : j = k
  ·subst q
   exact .inl ⟨v, u, by simp [bM], by simp [List.find?, hj], h2⟩
  ·have n1 : ¬ emb j = emb k := fun z => q (E.inj _ _ z)
   have n2 : knd.is k key = false := by
    cases z : knd.is k key with
    | false => rfl
    | true => exact absurd (knd.inj _ _ _ hj z) q
   simp only [bM, n1, if_false, List.find?_cons, n2]
   exact ih fun p hp => hk p (.tail _ hp)
theorem ERs.mapOf (E : Emb knd emb) {kvs : List (Ky × V)} {a : Addr} {o : Obj} {es : Array DictEntry} {n : Nat} (h1 : h.get? a = some o) (h2 : o.ExactDict) (h3 : o.data = .dict es n) (x : ERs W h io kvs es.toList) (hk : ∀ p ∈ kvs, ∃ k, p.1 = emb k) :
  h.MapOf knd a (findBy knd.is es) := ⟨o, es, n, h1, h2, h3, fun e he => x.keysOf E hk e (Array.mem_toList_iff.mpr he), fun y_ => rfl⟩
theorem ERs.findBy (E : Emb knd emb) {kvs : List (Ky × V)} {es : Array DictEntry} (x : ERs W h io kvs es.toList) (hk : ∀ p ∈ kvs, ∃ k, p.1 = emb k) (k : K) :
  (∃ v u, bM (emb k) kvs = some v /\ findBy knd.is es k = some u /\ VR W h io v u) \/ (bM (emb k) kvs = none /\ PySem.findBy knd.is es k = none) := by
 have := x.find E hk k
 unfold PySem.findBy
 rcases es with ⟨l⟩
 rw [List.find?_toArray]
 exact this
theorem ERs.pairs (E : Emb knd emb) {kvs : List (Ky × V)} {es : List DictEntry} (x : ERs W h io kvs es) (hk : ∀ p ∈ kvs, ∃ k, p.1 = emb k) :
  ∃ l : List (K × Value), Pairs knd es l /\ l.map (fun p => emb p.1) = kvs.map (·.1) /\ VRs W h io (kvs.map (·.2)) (l.map (·.2)) := by
 induction x using ERs.ind with
 | nil => exact ⟨[], .nil, rfl, .nil⟩
 | @cons k' v key u kvs es h1 h2 y_ ih =>
  rcases hk _ (.head _) with ⟨j, e⟩
  simp only at e
  subst e
  obtain ⟨l, p1, p2, p3⟩ := ih fun p hp => hk p (.tail _ hp)
  exact ⟨(j, u) :: l, .cons (E.is j _ h1) rfl p1, by simp [p2], .cons h2 p3⟩
end
set_option tactic.hygienic true in
theorem cZ {k : Ky} {v : V} : ∀ {kvs : List (Ky × V)}, bM k kvs = none -> put k v kvs = kvs ++ [(k, v)]
 | [], _ => rfl
 | (k', v') :: r, h => by
  simp only [bM] at h
  split at h
  ·cases h
  ·rename_i q
   simp only [put, q, if_false, List.cons_append, cZ h]
set_option tactic.hygienic true in
theorem aU2 {k : Ky} : ∀ {kvs : List (Ky × V)}, bM k kvs = none -> ∀ p ∈ kvs, p.1 ≠ k
 | [], _, _, hp => nomatch hp
 | (k', v') :: r, h, p, hp => by
  simp only [bM] at h
  split at h
  ·cases h
  ·rename_i q
   cases hp with
   | head => exact q
   | tail y_ hp => exact aU2 h p hp
set_option tactic.hygienic true in
theorem cY {k : Ky} {v : V} : ∀ {kvs : List (Ky × V)} {u : V}, bM k kvs = some u -> (kvs.map (·.1)).Nodup -> put k v kvs = kvs.map fun p => if p.1 = k then (p.1, v) else p
 | [], _, h, _ => by simp [bM] at h
 | (k', v') :: r, u, h, hn => by
  simp only [List.map_cons, List.nodup_cons] at hn
  simp only [bM] at h
  split at h
  ·rename_i q
   subst q
   simp only [put, if_true, List.map_cons]
   congr 1
   have e : ∀ p ∈ r, (if p.1 = k' then (p.1, v) else p) = p := fun p hp => by
    rw [if_neg]; intro z; exact hn.1 (z ▸ List.mem_map_of_mem hp)
   rw [List.map_congr_left e, List.map_id']
  ·rename_i q
   simp only [put, q, if_false, List.map_cons, cY h hn.2]
theorem bE1 {k : Ky} {v : V} {kvs : List (Ky × V)} (hn : (kvs.map (·.1)).Nodup) : ((put k v kvs).map (·.1)).Nodup := by
 cases h : bM k kvs with
 | none =>
  rw [cZ h, List.map_append]
  refine List.nodup_append.mpr ⟨hn, by simp, ?_⟩
  intro x hx y hy e
  obtain ⟨p, hp, rfl⟩ := List.mem_map.mp hx
  simp at hy
  subst hy
  exact aU2 h p hp e
 | some u =>
  rw [cY h hn, List.map_map]
  have e : ((fun x : Ky × V => x.1) ∘ fun p : Ky × V => if p.1 = k then (p.1, v) else p) = fun p => p.1 := by
   funext p; simp only [Function.comp]; split <;> rfl
  rw [e]; exact hn
theorem aL6 {k : Ky} {v : V} : ∀ (kvs : List (Ky × V)), (put k v kvs).length <= kvs.length + 1
 | [] => by simp [put]
 | (k', v') :: r => by
  simp only [put]
  split
  ·simp
  ·simpa using aL6 r
theorem aG4 {x : V} {k : Ky} (h : dM x = some k) : k.val = x := by
 cases x with
 | int i => simp [dM] at h; subst h; rfl
 | tup xs =>
  simp only [dM, Option.map_eq_some_iff] at h
  obtain ⟨ks, hks, rfl⟩ := h
  refine congrArg V.tup ?_
  induction xs generalizing ks with
  | nil => have hks : some [] = some _ := hks; cases hks; rfl
  | cons x xs ih =>
   obtain ⟨d, r, rfl, h1, h2⟩ := aY0 hks
   simp only [List.map_cons, List.cons.injEq]
   refine ⟨?_, ih r h2⟩
   cases x <;> simp [atom] at h1 <;> subst h1 <;> rfl
 | _ => simp [dM] at h
theorem aG6 {k : Ky} {kvs : List (Ky × V)} (h : aJ k kvs = true) : ∀ p ∈ kvs, p.1.sort = k.sort := fun p hp => by
 have := List.all_eq_true.mp h p hp
 simpa using this
theorem intEmb : Emb (W := W) (intKind W.prog W.w) Ky.int where
 inj := fun a b e => ky_i e
 is := fun k u x => by cases x; simp [intKind, Value.isInt]
 hash := fun y_ => rfl
 back := fun k u x => by cases x; exact .int _ _
theorem aA5 {kvs : List (Ky × V)} {i : Int} (h : aJ (.int i) kvs = true) : ∀ p ∈ kvs, ∃ k, p.1 = Ky.int k := fun p hp => by
 have := aG6 h p hp
 cases q : p.1 with
 | int k => exact ⟨k, rfl⟩
 | _ => rw [q] at this; simp [Ky.sort] at this
theorem aO1 {kvs : List (Ky × V)} {i : List (Sum Int Str)} (h : aJ (.tup i) kvs = true) : ∀ p ∈ kvs, ∃ k, p.1 = Ky.tup k := fun p hp => by
 have := aG6 h p hp
 cases q : p.1 with
 | tup k => exact ⟨k, rfl⟩
 | _ => rw [q] at this; simp [Ky.sort] at this
noncomputable abbrev TK := List (Sum Int Str) × Addr × Value
noncomputable abbrev tkd (W : Wd) := tupleKind (aH7 W.prog W.w)
theorem ERs.heapKeys {kvs : List (Ky × V)} {es : List DictEntry} (x : ERs W h io kvs es) (hk : ∀ p ∈ kvs, ∃ k, p.1 = Ky.tup k) :
  ∃ l : List TK, es = l.map (entryOfKey (tkd W)) /\ (∀ y ∈ l, (tkd W).is h y.1 y.2.1) /\ l.map (fun p => Ky.tup p.1) = kvs.map (·.1) /\ VRs W h io (kvs.map (·.2)) (l.map (·.2.2)) /\ (∀ y ∈ l, VR W h io (Ky.tup y.1).val (.ref y.2.1)) := by
 induction x using ERs.ind with
 | nil => exact ⟨[], rfl, (fun y_ h => nomatch h), rfl, .nil, fun y_ h => nomatch h⟩
 | @cons k' v key u kvs es h1 h2 y_ ih =>
  rcases hk _ (.head _) with ⟨j, e⟩
  simp only at e
  subst e
  refine hide fun G_ g_ => ?_
  rcases ih fun p hp => hk p (.tail _ hp) with ⟨l, p1, p2, p3, p4, p5⟩
  rcases aA2 h1 with ⟨a, rfl, ka⟩
  refine g_ ?_
  clear g_ G_
  refine ⟨(j, a, u) :: l, by rw [p1]; rfl, fun y hy => ?_, by simp [p3], .cons h2 p4, fun y hy => ?_⟩
  ·cases hy with
   | head => exact ka
   | tail y_ hy => exact p2 y hy
  ·cases hy with
   | head => exact h1
   | tail y_ hy => exact p5 y hy
theorem fB {k : List (Sum Int Str)} : ∀ {l : List TK} {kvs : List (Ky × V)}, l.map (fun p => Ky.tup p.1) = kvs.map (·.1) -> VRs W h io (kvs.map (·.2)) (l.map (·.2.2)) ->
  (∃ v a u, bM (.tup k) kvs = some v /\ atKey l k = some (a, u) /\ VR W h io v u) \/ (bM (.tup k) kvs = none /\ atKey l k = none)
 | [], kvs, e, _ => by
  have : kvs = [] := by cases kvs with | nil => rfl | cons => simp at e
  subst this
  exact .inr ⟨rfl, rfl⟩
 | (j, a, u) :: l, kvs, e, x => by
  cases kvs with
  | nil => simp at e
  | cons q kvs =>
   rcases q with ⟨k', v⟩
   simp only [List.map_cons, List.cons.injEq] at e
   rcases e with ⟨e1, e2⟩
   subst e1
   rcases VRs.cc x with ⟨x1, x2⟩
   ·
    by_cases z : j = k
    ·subst z
     exact .inl ⟨v, a, u, by simp [bM], by simp [atKey], x1⟩
    ·have z' : ¬ Ky.tup j = Ky.tup k := fun w => z (ky_t w)
     simp only [bM, z', if_false]
     have : atKey ((j, a, u) :: l) k = atKey l k := by simp [atKey, z]
     rw [this]
     exact fB e2 x2
theorem eO {l : List TK} {kvs : List (Ky × V)} (e : l.map (fun p => Ky.tup p.1) = kvs.map (·.1)) (hn : (kvs.map (·.1)).Nodup) : (l.map (·.1)).Nodup := by
 rw [<- e] at hn
 have : (l.map (·.1)).map Ky.tup = l.map fun p => Ky.tup p.1 := by rw [List.map_map]; rfl
 rw [<- this] at hn
 exact List.Pairwise.of_map Ky.tup (fun a b h e => h (congrArg _ e)) hn
end
structure WOk (W : Wd) : Prop where
 sys : ∃ o, W.base.get? sysModules = some o
 nolimit : W.base.NoLimit
section
variable {W : Wd} {own : List Addr} {A : Around} {fs : List Env} {s : Shared} {io : Io} {m : MH} {n : Nat}
theorem HR.notSys (ok : WOk W) (H : HR W s.heap io m) {b : Addr} (f : dE io b) : (b == sysModules) = false := by
 have h1 := H.fresh b f
 rcases ok.sys with ⟨o, ho⟩
 cases q : b == sysModules with
 | false => rfl
 | true => rw [beq_iff_eq.mp q, ho] at h1; cases h1
theorem cQ3 {E : Value -> Shared -> Prop} {Q : Value -> Shared -> Prop} (ok : WOk W) (H : HR W s.heap io m) (R : AR A fs n) {i : Nat} {p : Addr × Addr} {kvs : List (Ky × V)} {e : Nat} (hi : io[i]? = some p) (hm : m[i]? = some (.dict kvs e)) {x : V} {u : Value} (hx : VR W s.heap io x u) {k : Ky} (hk : dM x = some k) (hs : aJ k kvs = true)
  (h : ∀ tk, Q (.bool (bM k kvs).isSome) { s with toks := tk }) : wpAny (model W.prog W.w) A (compareOp .In u (.ref p.1)) Q E s := by
 obtain ⟨y_, o, es, n', g1, g2, g3, g4, g5, y_⟩ := H.obj _ _ _ hi hm
 have ns := H.notSys ok ⟨p, List.mem_of_getElem? hi, .inl rfl⟩
 have hv := aG4 hk
 subst hv
 cases k with
 | int j =>
  have hh := aA5 hs
  refine wpAny_in_of (intEmb.is j u hx) ns (g4.mapOf intEmb g1 g2 g3 hh) ?_
  rcases g4.findBy intEmb hh j with ⟨v, u', e1, e2, _⟩ | ⟨e1, e2⟩
  ·rw [e2]; have := h (s.toks + 1); rw [e1] at this; exact this
  ·rw [e2]; have := h (s.toks + 1); rw [e1] at this; exact this
 | str j => cases hk
 | tup j =>
  have hh := aO1 hs
  refine hide fun G_ g_ => ?_
  rcases g4.heapKeys hh with ⟨l, p1, p2, p3, p4, p5⟩
  rcases aA2 hx with ⟨a, rfl, ka⟩
  refine g_ ?_
  clear g_ G_
  refine wpAny_in_heap (knd := tkd W) (xs := l) (k := j) (show A.in1.units < cLine by have := R.cline; simp only [Around.in1_units]; omega) ka ns ⟨o, es, n', g1, g2, g3, p1, p2, eO p3 g5⟩ ?_
  rcases fB (k := j) p3 p4 with ⟨v, a', u', e1, e2, _⟩ | ⟨e1, e2⟩
  ·rw [e2]; have := h (s.toks + (tkd W).draws j); rw [e1] at this; exact this
  ·rw [e2]; have := h (s.toks + (tkd W).draws j); rw [e1] at this; exact this
theorem cD8 {E : Value -> Shared -> Prop} {Q : Value -> Shared -> Prop} (H : HR W s.heap io m) (R : AR A fs n) {i : Nat} {p : Addr × Addr} {kvs : List (Ky × V)} {e : Nat} (hi : io[i]? = some p) (hm : m[i]? = some (.dict kvs e)) {x : V} {u : Value} (hx : VR W s.heap io x u) {k : Ky} (hk : dM x = some k) (hs : aJ k kvs = true) {v : V} (hl : bM k kvs = some v)
  (h : ∀ u' tk, VR W s.heap io v u' -> Q u' { s with toks := tk }) : wpAny (model W.prog W.w) A (getItem (.ref p.1) u) Q E s := by
 obtain ⟨y_, o, es, n', g1, g2, g3, g4, g5, y_⟩ := H.obj _ _ _ hi hm
 have hv := aG4 hk
 subst hv
 cases k with
 | int j =>
  have hh := aA5 hs
  rcases g4.findBy intEmb hh j with ⟨v', u', e1, e2, e3⟩ | ⟨e1, e2⟩
  ·rw [hl] at e1; cases e1
   exact wpAny_getItem_of (intEmb.is j u hx) (g4.mapOf intEmb g1 g2 g3 hh) e2 (h _ _ e3)
  ·rw [hl] at e1; cases e1
 | str j => cases hk
 | tup j =>
  have hh := aO1 hs
  refine hide fun G_ g_ => ?_
  rcases g4.heapKeys hh with ⟨l, p1, p2, p3, p4, p5⟩
  rcases aA2 hx with ⟨a, rfl, ka⟩
  refine g_ ?_
  clear g_ G_
  rcases fB (k := j) p3 p4 with ⟨v', a', u', e1, e2, e3⟩ | ⟨e1, e2⟩
  ·rw [hl] at e1; cases e1
   exact wpAny_getItem_heap (knd := tkd W) (xs := l) (k := j) (show A.in1.units < cLine by have := R.cline; simp only [Around.in1_units]; omega) ka ⟨o, es, n', g1, g2, g3, p1, p2, eO p3 g5⟩ e2 (h _ _ e3)
  ·rw [hl] at e1; cases e1
section
variable {h : Heap} {K : Type} [DecidableEq K] {knd : KeyKind W.prog W.w K} {emb : K -> Ky}
theorem ERs.of_pairs (E : Emb knd emb) {es : List DictEntry} {l : List (K × Value)} {kvs : List (Ky × V)} (hk : ∀ e ∈ es, ∃ k, knd.is k e.key = true /\ e.hash = knd.hash k) (hp : Pairs knd es l) (e : kvs.map (·.1) = l.map (fun p => emb p.1))
  (x : VRs W h io (kvs.map (·.2)) (l.map (·.2))) (hv : ∀ k u, emb k ∈ kvs.map (·.1) -> knd.is k u = true -> VR W h io (emb k).val u) : ERs W h io kvs es := by
 induction hp generalizing kvs with
 | nil =>
  have : kvs = [] := by cases kvs with | nil => rfl | cons => simp at e
  subst this; exact .nil
 | @cons en kv es l p1 p2 p3 ih =>
  cases kvs with
  | nil => simp at e
  | cons q kvs =>
   rcases q with ⟨k', v⟩
   simp only [List.map_cons, List.cons.injEq] at e
   rcases e with ⟨e1, e2⟩
   obtain ⟨j, j1, j2⟩ := hk en (.head _)
   have : j = kv.1 := knd.inj _ _ _ j1 p1
   subst this
   rcases VRs.cc x with ⟨x1, x2⟩
   ·
    obtain ⟨hs, ky, vl⟩ := en
    simp only at j1 j2 p1 p2
    subst j2 p2
    subst e1
    rw [<- E.hash]
    exact .cons (hv _ _ (by simp) p1) x1 (ih (fun e he => hk e (.tail _ he)) e2 x2 fun k u hm hi => hv k u (by simp only [List.map_cons, List.mem_cons]; exact .inr hm) hi)
theorem cT7 {l : List (K × Value)} {kvs : List (Ky × V)} (E : Emb knd emb) (e : kvs.map (·.1) = l.map fun p => emb p.1) (k : K) : l.any (fun kv => decide (kv.1 = k)) = (bM (emb k) kvs).isSome := by
 induction l generalizing kvs with
 | nil =>
  have : kvs = [] := by cases kvs with | nil => rfl | cons => simp at e
  subst this; rfl
 | cons p l ih =>
  cases kvs with
  | nil => simp at e
  | cons q kvs =>
   rcases q with ⟨k', v⟩
   simp only [List.map_cons, List.cons.injEq] at e
   rcases e with ⟨e1, e2⟩
   subst e1
   by_cases z : p.1 = k
   ·simp [z, bM]
   ·have z' : ¬ emb p.1 = emb k := fun w => z (E.inj _ _ w)
    simp only [List.any_cons, z, decide_false, Bool.false_or, bM, z', if_false]
    exact ih e2
theorem bI2 (E : Emb knd emb) {l : List (K × Value)} {kvs : List (Ky × V)} (e : kvs.map (·.1) = l.map fun p => emb p.1) (x : VRs W h io (kvs.map (·.2)) (l.map (·.2))) (hn : (kvs.map (·.1)).Nodup) (k : K) {v : V} {u : Value} (y : VR W h io v u) :
  (put (emb k) v kvs).map (·.1) = (stored l k u).map (fun p => emb p.1) /\ VRs W h io ((put (emb k) v kvs).map (·.2)) ((stored l k u).map (·.2)) := by
 unfold stored
 rw [cT7 E e k]
 cases q : bM (emb k) kvs with
 | none =>
  rw [cZ q, if_neg (by simp)]
  exact ⟨by simp [e], by simp only [List.map_append, List.map_cons, List.map_nil]; exact x.snoc y⟩
 | some z =>
  rw [cY q hn, if_pos (by rfl)]
  clear q hn
  induction l generalizing kvs with
  | nil =>
   have : kvs = [] := by cases kvs with | nil => rfl | cons => simp at e
   subst this; exact ⟨rfl, .nil⟩
  | cons p l ih =>
   cases kvs with
   | nil => simp at e
   | cons q kvs =>
    rcases q with ⟨k', v'⟩
    simp only [List.map_cons, List.cons.injEq] at e
    rcases e with ⟨e1, e2⟩
    subst e1
    rcases VRs.cc x with ⟨x1, x2⟩
    ·
     rcases ih e2 x2 with ⟨i1, i2⟩
     by_cases w : p.1 = k
     ·have w' : emb p.1 = emb k := by rw [w]
      simp only [List.map_cons, w, w', if_true]
      exact ⟨by rw [i1], .cons y i2⟩
     ·have w' : ¬ emb p.1 = emb k := fun c => w (E.inj _ _ c)
      simp only [List.map_cons, w, w', if_false]
      exact ⟨by rw [i1], .cons x1 i2⟩
end
theorem aB0 {h h' : Heap} {d : Addr} (hs : Heap.SameBut d h h') : ∀ b o, b ≠ d -> h.get? b = some o -> h'.get? b = some o := fun b y_ hb e => (hs.2 b hb).trans e
theorem aC7 {fr : List Addr} (H : HR W s.heap io m) {i : Nat} {p : Addr × Addr} {kvs kvs' : List (Ky × V)} {e : Nat} (hi : io[i]? = some p) (hm : m[i]? = some (.dict kvs e)) {h' : Heap} {tk : Nat} (hs : Heap.SameBut p.1 s.heap h')
  {o' : Obj} {es' : Array DictEntry} {n' : Nat} (h1 : h'.get? p.1 = some o') (h2 : o'.ExactDict) (h3 : o'.data = .dict es' n') (h4 : Step own fr s.heap io m h' io (m.set i (.dict kvs' (e + 1))) -> ERs W h' io kvs' es'.toList) (h5 : (kvs'.map (·.1)).Nodup) (h6 : kvs'.length <= lid) :
  NP W own fr s io m (fun y_ y_ (_ _ : Unit) => True) (.ok () (m.set i (.dict kvs' (e + 1)))) () { s with heap := h', toks := tk } := by
 rcases H.obj _ _ _ hi hm with ⟨hpp, y_⟩
 have hk : ∀ b o, b ≠ p.1 -> b ≠ p.2 -> s.heap.get? b = some o -> h'.get? b = some o := fun b o q y_ ho => aB0 hs b o q ho
 have hd : ∀ kv ep, MObj.dict kvs e = .dict kv ep -> ∃ kvs2 e2, MObj.dict kvs' (e + 1) = .dict kvs2 e2 /\ ep < e2 := fun kv ep q => by cases q; exact ⟨kvs', e + 1, rfl, by omega⟩
 have st : Step own fr s.heap io m h' io (m.set i (.dict kvs' (e + 1))) := aE8 H hi hm hk ⟨_, h1⟩ ⟨_, hpp ▸ h1⟩ hd
 exact ⟨(), _, io, rfl, st, H.set hi hm hk hd ⟨_, h1⟩ ⟨_, hpp ▸ h1⟩ ⟨hpp, o', es', n', h1, h2, h3, h4 st, h5, h6⟩, trivial, rfl, rfl⟩
theorem bL5 {h : Heap} {j : List (Sum Int Str)} {v : V} {y : Value} (hv : VR W h io v y) : ∀ {l : List TK} {kvs : List (Ky × V)}, l.map (fun p => Ky.tup p.1) = kvs.map (·.1) -> VRs W h io (kvs.map (·.2)) (l.map (·.2.2)) ->
  VRs W h io ((kvs.map fun p => if p.1 = Ky.tup j then (p.1, v) else p).map (·.2)) ((l.map (putAt j y)).map (·.2.2)) := by
 intro l
 induction l with
 | nil => intro kvs p3 _; have : kvs = [] := by { cases kvs with | nil => rfl | cons => simp at p3 }; subst this; exact .nil
 | cons q l ih =>
  intro kvs p3 p4
  cases kvs with
  | nil => simp at p3
  | cons r kvs =>
   rcases r with ⟨k', v'⟩
   simp only [List.map_cons, List.cons.injEq] at p3
   rcases p3 with ⟨z1, z2⟩
   subst z1
   rcases VRs.cc p4 with ⟨x1, x2⟩
   ·
    simp only [List.map_cons]
    refine .cons ?_ (ih z2 x2)
    by_cases w : q.1 = j
    ·simp only [w, if_true, putAt]; exact hv
    ·have w' : ¬ Ky.tup q.1 = Ky.tup j := fun c => w (ky_t c)
     simp only [w', if_false, putAt, w]; exact x1
theorem cA4 (H : HR W s.heap io m) (R : AR A fs n) {i : Nat} {p : Addr × Addr} {kvs : List (Ky × V)} {e : Nat} (hi : io[i]? = some p) (hm : m[i]? = some (.dict kvs e)) {x v : V} {u y : Value} (hx : VR W s.heap io x u) (hv : VR W s.heap io v y) {k : Ky} (hk : dM x = some k) (hs : aJ k kvs = true) (hl : kvs.length < lid) :
  Si W own A fs (fun y_ y_ (_ _ : Unit) => True) (setItem (.ref p.1) u y) s io m (.ok () (m.set i (.dict (put k v kvs) (e + 1)))) := by
 obtain ⟨y_, o, es, n', g1, g2, g3, g4, g5, g6⟩ := H.obj _ _ _ hi hm
 have hv' := aG4 hk
 subst hv'
 have hl' : (put k v kvs).length <= lid := Nat.le_trans (aL6 kvs) hl
 intro y_
 cases k with
 | int j =>
  have hh := aA5 hs
  obtain ⟨l, l1, l2, l3⟩ := g4.pairs intEmb hh
  have ll : l.length = kvs.length := by have := congrArg List.length l2; simpa using this
  refine wpAny_setItem_pairs (kvs := l) (intEmb.is j u hx) ⟨o, es, n', g1, g2, g3, fun e he => g4.keysOf intEmb hh e (Array.mem_toList_iff.mpr he), l1, ?_⟩ (fun h' hd hsb => ?_) (aK (by omega))
  ·refine List.Pairwise.of_map (S := (· ≠ ·)) Ky.int (fun a b h e => h (congrArg Ky.int e)) ?_
   rw [List.map_map]
   exact (by rw [<- l2] at g5; exact g5)
  ·obtain ⟨o', es', n2, d1, d2, d3, d4, d5, d6⟩ := hd
   refine aC7 H hi hm hsb d1 d2 d3 (fun st => ?_) (bE1 g5) hl'
   rcases bI2 (W := W) intEmb l2.symm l3 g5 j hv with ⟨a1, a2⟩
   exact ERs.of_pairs intEmb (fun e he => d4 e (Array.mem_toList_iff.mp he)) d5 a1 (a2.step st) fun k u y_ hi => by
    rcases Value.isInt_shape (k := k) (v := u) hi with ⟨t, rfl⟩; exact .int _ _
 | str j => cases hk
 | tup j =>
  have hh := aO1 hs
  refine hide fun G_ g_ => ?_
  rcases g4.heapKeys hh with ⟨l, p1, p2, p3, p4, p5⟩
  rcases aA2 hx with ⟨a, rfl, ka⟩
  refine g_ ?_
  clear g_ G_
  have ll : l.length = kvs.length := by have := congrArg List.length p3; simpa using this
  have lnd := eO p3 g5
  refine wpAny_setItem_heap (knd := tkd W) (xs := l) (k := j) (show A.in1.units < cLine by have := R.cline; show A.units + 1 < cLine; omega) ka ⟨o, es, n', g1, g2, g3, p1, p2, lnd⟩ (fun h' hd hsb => ?_) (aK (by omega))
  obtain ⟨o', es', n2, d1, d2, d3, d4, d5, d6⟩ := hd
  refine aC7 H hi hm hsb d1 d2 d3 (fun st => ?_) (bE1 g5) hl'
  rw [d4]
  have build : ∀ {l : List TK} {kvs : List (Ky × V)}, l.map (fun p => Ky.tup p.1) = kvs.map (·.1) -> VRs W h' io (kvs.map (·.2)) (l.map (·.2.2)) -> (∀ y ∈ l, VR W h' io (Ky.tup y.1).val (.ref y.2.1)) -> ERs W h' io kvs (l.map (entryOfKey (tkd W))) := by
   intro l
   induction l with
   | nil => intro kvs e x _; have : kvs = [] := by { cases kvs with | nil => rfl | cons => simp at e }; subst this; exact .nil
   | cons q l ih =>
    intro kvs e x y
    cases kvs with
    | nil => simp at e
    | cons r kvs =>
     rcases r with ⟨k', v'⟩
     simp only [List.map_cons, List.cons.injEq] at e
     rcases e with ⟨e1, e2⟩
     subst e1
     rcases VRs.cc x with ⟨x1, x2⟩
     ·exact .cons (y q (.head _)) x1 (ih e2 x2 fun z hz => y z (.tail _ hz))
  rcases fB (k := j) p3 p4 with ⟨v', a', u', e1, e2, e3⟩ | ⟨e1, e2⟩
  ·rw [storedH_old e2, cY e1 g5]
   refine build ?_ ?_ ?_
   ·rw [List.map_map, List.map_map]
    have f1 : ((fun p : TK => Ky.tup p.1) ∘ putAt j y) = fun p : TK => Ky.tup p.1 := by funext q; simp only [Function.comp, putAt]; split <;> rfl
    have f2 : ((fun p : Ky × V => p.1) ∘ fun p : Ky × V => if p.1 = Ky.tup j then (p.1, v) else p) = fun p => p.1 := by funext q; simp only [Function.comp]; split <;> rfl
    rw [f1, f2]; exact p3
   ·exact bL5 (hv.step st) p3 (p4.step st)
   ·intro y' hy'
    obtain ⟨z, hz, rfl⟩ := List.mem_map.mp hy'
    have := (p5 z hz).step st
    unfold putAt; split <;> exact this
  ·rw [storedH_new e2, cZ e1]
   refine build (by simp [p3]) ?_ ?_
   ·simp only [List.map_append, List.map_cons, List.map_nil]
    exact (p4.step st).snoc (hv.step st)
   ·intro y' hy'
    rcases List.mem_append.mp hy' with hy' | hy'
    ·exact (p5 y' hy').step st
    ·rw [List.mem_singleton.mp hy']; exact hx.step st
end
end Mini
namespace Mini
open PySem PySem.W
section
variable {W : Wd} {own : List Addr} {A : Around} {fs : List Env} {s : Shared} {io : Io} {m : MH} {n : Nat}
theorem aW5 (v x : V) : (∃ d e, rd aI9 m v = some d /\ rd aI9 m x = some e /\ eqV v x m = .ok (PyData.eqv d e) m) \/ eqV v x m = .bad := by
 have e : eqV v x m = (match rd aI9 m v with | some a => (match rd aI9 m x with | some c => .ok (PyData.eqv a c) m | none => .bad) | none => .bad) := rfl
 rw [e]
 cases h1 : rd aI9 m v with
 | none => exact .inr rfl
 | some d =>
  cases h2 : rd aI9 m x with
  | none => exact .inr rfl
  | some e => exact .inl ⟨d, e, rfl, rfl, rfl⟩
theorem dA9 (ok : WOk W) (H : HR W s.heap io m) (R : AR A fs n) {v x : V} {u y : Value} (k : VR W s.heap io v u) (l : VR W s.heap io x y) :
  Si W own A fs BV (compareOp .Eq u y) s io m (aJ1 .Eq v x m) := by
 show Si W own A fs BV (compareOp .Eq u y) s io m (eqV v x m)
 have hc := R.cline
 rcases aW5 (m := m) v x with ⟨d, e, h1, h2, q⟩ | q
 ·rw [q]
  rcases cO H _ _ _ _ h1 k with ⟨⟨as, r1⟩, c1, d1⟩
  rcases cO H _ _ _ _ h2 l with ⟨⟨bs, r2⟩, c2, d2⟩
  intro y_
  refine SeqAt.compareEq_reads r1 r2 c1 c2 ?_ ⟨_, m, io, rfl, .refl, H, rfl, .refl _⟩
  have h3 : min d.depth e.depth <= 12 := Nat.le_trans (Nat.min_le_left _ _) d1
  omega
 ·rw [q]; exact Si.bad
theorem cY3 (ok : WOk W) (H : HR W s.heap io m) (R : AR A fs n) {v x : V} {u y : Value} (k : VR W s.heap io v u) (l : VR W s.heap io x y) :
  Si W own A fs BV (compareOp .NotEq u y) s io m (aJ1 .NotEq v x m) := by
 show Si W own A fs BV (compareOp .NotEq u y) s io m ((eqV v x m).bind fun c => ret (!c))
 have hc := R.cline
 rcases aW5 (m := m) v x with ⟨d, e, h1, h2, q⟩ | q
 ·rw [q]
  rcases cO H _ _ _ _ h1 k with ⟨⟨as, r1⟩, c1, d1⟩
  rcases cO H _ _ _ _ h2 l with ⟨⟨bs, r2⟩, c2, d2⟩
  intro y_
  refine SeqAt.compareNe_reads r1 r2 c1 c2 ?_ ⟨_, m, io, rfl, .refl, H, rfl, .refl _⟩
  have h3 : min d.depth e.depth <= 12 := Nat.le_trans (Nat.min_le_left _ _) d1
  omega
 ·rw [q]; exact Si.bad
end
end Mini
namespace Mini
open PySem
section
variable {W : Wd} {h h' : Heap} {fs : List Env} {s s' : Shared} {io io' : Io} {m m' : MH} {own fr : List Addr} {A : Around} {n : Nat}
theorem cY8 {a b : Int} (h : Ky.int a = Ky.int b) : a = b := ky_i h
theorem aM8 {j : Int} {v : V} : ∀ {l : List (Int × Value)} {kvs : List (Ky × V)}, l.map (fun p => Ky.int p.1) = kvs.map (·.1) -> VRs W h io (kvs.map (·.2)) (l.map (·.2)) -> (kvs.map (·.1)).Nodup -> bM (.int j) kvs = some v ->
  ∃ u, valueAt l j = some u /\ VR W h io v u /\ (eX (.int j) kvs).map (·.1) = (without l j).map (fun p => Ky.int p.1) /\ VRs W h io ((eX (.int j) kvs).map (·.2)) ((without l j).map (·.2))
 | [], [], _, _, _, q => by cases q
 | [], _ :: _, e, _, _, _ => by cases e
 | _ :: _, [], e, _, _, _ => by cases e
 | (i, u) :: l, (k, w) :: kvs, e, x, nd, q => by
  simp only [List.map_cons, List.cons.injEq] at e
  rcases e with ⟨e1, e2⟩
  subst e1
  simp only [List.map_cons] at x nd
  rcases VRs.cc x with ⟨x1, x2⟩
  ·
   rcases List.nodup_cons.mp nd with ⟨n1, n2⟩
   have q' : (if Ky.int i = Ky.int j then some w else bM (.int j) kvs) = some v := q
   have ed : eX (.int j) ((Ky.int i, w) :: kvs) = if Ky.int i = Ky.int j then kvs else (Ky.int i, w) :: eX (.int j) kvs := rfl
   by_cases z : i = j
   ·subst z
    rw [if_pos rfl] at q' ed
    cases q'
    have nm : i ∉ l.map (·.1) := fun hmem => n1 (by
     rw [<- e2, List.mem_map]
     rcases List.mem_map.mp hmem with ⟨p, hp, rfl⟩
     exact ⟨p, hp, rfl⟩)
    have ew : without ((i, u) :: l) i = l := by
     unfold without
     rw [List.filter_cons_of_neg (by simp)]
     exact without_of_not_mem l i nm
    rw [ed, ew]
    exact ⟨u, by unfold valueAt; rw [List.find?_cons_of_pos (by simp)]; rfl, x1, e2.symm, x2⟩
   ·have z' : ¬ Ky.int i = Ky.int j := fun c => z (cY8 c)
    rw [if_neg z'] at q' ed
    rcases aM8 e2 x2 n2 q' with ⟨u', a1, a2, a3, a4⟩
    have ew : without ((i, u) :: l) j = (i, u) :: without l j := by
     unfold without
     rw [List.filter_cons_of_pos (by simp [z])]
    rw [ed, ew]
    refine ⟨u', ?_, a2, ?_, ?_⟩
    ·unfold valueAt at a1 ⊢
     rw [List.find?_cons_of_neg (by simp [z])]; exact a1
    ·rw [List.map_cons, List.map_cons, a3]
    ·exact .cons x1 a4
theorem bF8 {k : Ky} : ∀ {kvs : List (Ky × V)}, (eX k kvs).Sublist kvs
 | [] => .slnil
 | (k', v') :: r => by
  show List.Sublist (if k' = k then r else (k', v') :: eX k r) _
  by_cases z : k' = k
  ·rw [if_pos z]; exact List.sublist_cons_self _ _
  ·rw [if_neg z]; exact (bF8 (kvs := r)).cons_cons _
theorem cA7 (H : HR W s.heap io m) {i : Nat} {p : Addr × Addr} {kvs : List (Ky × V)} {e : Nat} (hi : io[i]? = some p) (hm : m[i]? = some (.dict kvs e)) {j : Int} {t : Tok} {v : V} (hs : aJ (.int j) kvs = true) (hl : bM (.int j) kvs = some v) :
    Si W own A fs (VP W) (call (.builtin "dict.pop") [.ref p.1, .int j t]) s io m (.ok v (m.set i (.dict (eX (.int j) kvs) (e + 1)))) := by
  obtain ⟨y_, o, es, n', g1, g2, g3, g4, g5, g6⟩ := H.obj _ _ _ hi hm
  intro y_
  have hh := aA5 hs
  obtain ⟨l, l1, l2, l3⟩ := g4.pairs intEmb hh
  have ll : l.length = kvs.length := by have := congrArg List.length l2; simpa using this
  rcases aM8 l2 l3 g5 hl with ⟨u, a1, a2, a3, a4⟩
  have nd : (l.map (·.1)).Nodup := by
    refine List.Pairwise.of_map (S := (· ≠ ·)) Ky.int (fun a b h e => h (congrArg Ky.int e)) ?_
    rw [List.map_map]
    exact (by rw [<- l2] at g5; exact g5)
  refine call_meetsIn PySem.F.slot_dict_pop ⟨_, g1, g2.1⟩ PySem.F.entry_dict_pop (PySem.F.args_dict_pop_2 _ _) (meets_dict_pop_there (knd := intKind W.prog W.w) (d := p.1) (k := j) (key := .int j t) (hkey := intEmb.is (io := io) (h := s.heap) j _ (.int j t)) (rest := []) (hrest := .inl rfl) (hpart := rfl)) ⟨l, u, ⟨o, es, n', g1, g2, g3, fun e he => g4.keysOf intEmb hh e (Array.mem_toList_iff.mpr he), l1, nd⟩, aK (by omega), a1, fun h' hd hsb => ?_⟩
  obtain ⟨o', es', n2, d1, d2, d3, d4, d5, d6⟩ := hd
  have sub := bF8 (k := .int j) (kvs := kvs)
  have hk : (((eX (.int j) kvs)).map (·.1)).Nodup := g5.sublist (sub.map _)
  rcases aC7 (own := own) (fr := frs fs) (tk := s.toks + 1) H hi hm hsb d1 d2 d3 (fun st => ERs.of_pairs intEmb (fun e he => d4 e (Array.mem_toList_iff.mp he)) d5 a3 (a4.step st) fun k u y_ hi => by
        obtain ⟨t, rfl⟩ := Value.isInt_shape (k := k) (v := u) hi; exact .int _ _) hk (Nat.le_trans sub.length_le g6) with ⟨y_, m2, io2, e2, st, H2, y_, sm⟩
  cases e2
  exact ⟨v, _, _, rfl, st, H2, a2.step st, sm⟩
theorem bA5 (ok : WOk W) (H : HR W s.heap io m) {i : Nat} {p : Addr × Addr} {kvs : List (Ky × V)} {e : Nat} (hi : io[i]? = some p) (hm : m[i]? = some (.dict kvs e)) {j : Int} {t : Tok} {x : V} {y : Value} (hs : aJ (.int j) kvs = true) (kx : VR W s.heap io x y) :
  Si W own A fs (VP W) (call (.builtin "dict.get") [.ref p.1, .int j t, y]) s io m (.ok ((bM (.int j) kvs).getD x) m) := by
 obtain ⟨y_, o, es, n', g1, g2, g3, g4, g5, y_⟩ := H.obj _ _ _ hi hm
 intro y_
 have hh := aA5 hs
 refine call_meetsIn PySem.F.slot_dict_get ⟨_, g1, g2.1⟩ PySem.F.entry_dict_get (PySem.F.args_dict_get_3 _ _ _) (meets_dict_get_default (intKind W.prog W.w) p.1 (intEmb.is (io := io) (h := s.heap) j _ (.int j t)) (H.notSys ok ⟨p, List.mem_of_getElem? hi, .inl rfl⟩) y) ⟨_, g4.mapOf intEmb g1 g2 g3 hh, ?_⟩
 rcases g4.findBy intEmb hh j with ⟨v, u', e1, e2, e3⟩ | ⟨e1, e2⟩
 ·rw [e2]
  exact ⟨v, m, io, by rw [show bM (.int j) kvs = some v from e1]; rfl, .refl, H, e3, rfl, rfl⟩
 ·rw [e2]
  exact ⟨x, m, io, by rw [show bM (.int j) kvs = none from e1]; rfl, .refl, H, kx, rfl, rfl⟩
end
end Mini
namespace Mini
open PySem
section
variable {W : Wd} {own : List Addr} {A : Around} {fs : List Env} {s : Shared} {io : Io} {m : MH} {n : Nat}
theorem Si.res0' {α β : Type} {P : Heap -> Io -> α -> β -> Prop} {t : Sem β} {R R' : Res α} (e : R' = R) (x : Si W own A fs P t s io m R) : Si W own A fs P t s io m R' := e ▸ x
theorem cZ7 {v : V} {q : Nat} {o : Option MObj} (h : m[q]? = o) : inV v (.ref q) m = (match (generalizing := false) o with
  | some (.list ys) => match aA0 (rd aI9 m) ys, rd aI9 m v with
   | some ds, some d => .ok (ds.any fun e => PyData.eqv e d) m
   | _, _ => .bad
  | some (.dict kvs _) => match dM v with
   | some k => if aJ k kvs then .ok (bM k kvs).isSome m else .bad
   | Option.none => .bad
  | _ => .bad) := by subst h; rfl
theorem cG4 {t : Sem Value} {o1 : Option (List PyData)} {o2 : Option PyData} {f : List PyData -> PyData -> Res Bool} (h : ∀ a b, o1 = some a -> o2 = some b -> Si W own A fs BV t s io m (f a b)) : Si W own A fs BV t s io m (match (generalizing := false) o1, o2 with | some a, some b => f a b | _, _ => .bad) := by
 cases o1 with
 | none => exact Si.bad
 | some a =>
  cases o2 with
  | none => exact Si.bad
  | some b => exact h a b rfl rfl
theorem cH7 (ok : WOk W) (H : HR W s.heap io m) (R : AR A fs n) {v x : V} {u y : Value} (k : VR W s.heap io v u) (l : VR W s.heap io x y) :
  Si W own A fs BV (compareOp .In u y) s io m (inV v x m) := by
 have hc := R.cline
 induction l using VR.elim with
 | @tup a vs c xs g1 g2 =>
  refine cG4 (o1 := aA0 (rd aI9 m) xs) (o2 := rd aI9 m v) (f := fun ds d => .ok (ds.any fun e => PyData.eqv e d) m) fun ds d h1 h2 => ?_
  refine hide fun G_ g_ => ?_
  rcases dB (cO H _) _ _ _ h1 g2 with ⟨⟨as, r1⟩, c1, d1⟩
  rcases cO H _ _ _ _ h2 k with ⟨⟨bs, r2⟩, c2, d2⟩
  refine g_ ?_
  clear g_ G_
  intro y_
  refine SeqAt.in_tuple_reads (.tuple g1 rfl rfl r1) r2 c1 c2 ?_ ⟨_, m, io, rfl, .refl, H, rfl, .refl _⟩
  have h3 : min (PyData.depthAll ds) d.depth <= 12 := Nat.le_trans (Nat.min_le_left _ _) d1
  omega
 | @str x t okk =>
  induction k using VR.elim with
  | @str z t' okz =>
   show Si W own A fs BV _ s io m (match z.cps.toList with | [c] => .ok (decide (c ∈ x.cps.toList)) m | _ => .bad)
   cases hz : z.cps.toList with
   | nil => exact Si.bad
   | cons c r =>
    cases r with
    | cons d r => exact Si.bad
    | nil =>
     have e : z = ⟨#[c]⟩ := by
      rcases z with ⟨⟨z'⟩⟩
      have hz : z' = [c] := hz
      subst hz; rfl
     subst e
     intro y_
     refine P.in_str ?_
     rw [StrLaws.found_one]
     exact ⟨_, m, io, rfl, .refl, H, rfl, .refl _⟩
  | _ => exact Si.bad
 | @ref q a d g1 =>
  cases hy : m[q]? with
  | none => rw [cZ7 hy]; exact Si.bad
  | some ob =>
   rw [cZ7 hy]
   cases ob with
   | list ys =>
    obtain ⟨y_, vs, n', a1, a2, y_⟩ := H.obj _ _ _ g1 hy
    refine cG4 (o1 := aA0 (rd aI9 m) ys) (o2 := rd aI9 m v) (f := fun ds d => .ok (ds.any fun e => PyData.eqv e d) m) fun ds d h1 h2 => ?_
    refine hide fun G_ g_ => ?_
    rcases dB (cO H _) _ _ _ h1 a2 with ⟨⟨as, r1⟩, c1, d1⟩
    rcases cO H _ _ _ _ h2 k with ⟨⟨bs, r2⟩, c2, d2⟩
    refine g_ ?_
    clear g_ G_
    intro y_
    refine SeqAt.in_list_reads (.list a1 rfl rfl r1) r2 c1 c2 ?_ ⟨_, m, io, rfl, .refl, H, rfl, .refl _⟩
    have h3 : min (PyData.depthAll ds) d.depth <= 12 := Nat.le_trans (Nat.min_le_left _ _) d1
    omega
   | dict kvs e =>
    show Si W own A fs BV _ s io m (match dM v with | some k => if aJ k kvs then .ok (bM k kvs).isSome m else .bad | Option.none => .bad)
    cases hk : dM v with
    | none => exact Si.bad
    | some ky =>
     by_cases hs : aJ ky kvs = true
     ·exact .res0' (if_pos hs) fun y_ => cQ3 ok H R g1 hy k hk hs fun tk => ⟨_, m, io, rfl, .refl, H, rfl, rfl, rfl⟩
     ·exact .res0' (if_neg hs) Si.bad
   | _ => exact Si.bad
 | _ => exact Si.bad
theorem aO4 {v x : V} {u y : Value} {t : Sem Value} {f : Int -> Int -> Bool} (k : VR W s.heap io v u) (l : VR W s.heap io x y) (h : ∀ i j a b, u = .int i a -> y = .int j b -> Si W own A fs BV t s io m (.ok (f i j) m)) : Si W own A fs BV t s io m ((match v, x with | .int i, .int j => ret (f i j) | _, _ => bad) m) := by
 induction k using VR.elim with
 | int i a =>
  induction l using VR.elim with
  | int j b => exact h i j a b rfl rfl
  | _ => exact Si.bad
 | _ => exact Si.bad
theorem aR1 (ok : WOk W) (H : HR W s.heap io m) (R : AR A fs n) {op : CmpOp} {v x : V} {u y : Value} (k : VR W s.heap io v u) (l : VR W s.heap io x y) :
  Si W own A fs BV (compareOp op u y) s io m (aJ1 op v x m) := by
 cases op with
 | Eq => exact dA9 ok H R k l
 | NotEq => exact cY3 ok H R k l
 | In => exact cH7 ok H R k l
 | NotIn => exact (cH7 ok H R k l).not fun y_ y_ h => aZ6 h
 | Is => exact Si.bad
 | IsNot => exact Si.bad
 | Lt => exact aO4 k l fun i j a b e1 e2 => by subst e1 e2; exact fun y_ => P.lt_int ⟨_, m, io, rfl, .refl, H, rfl, rfl, rfl⟩
 | LtE => exact aO4 k l fun i j a b e1 e2 => by subst e1 e2; exact fun y_ => P.le_int ⟨_, m, io, rfl, .refl, H, rfl, rfl, rfl⟩
 | Gt => exact aO4 k l fun i j a b e1 e2 => by subst e1 e2; exact fun y_ => P.gt_int ⟨_, m, io, rfl, .refl, H, rfl, rfl, rfl⟩
 | GtE => exact aO4 k l fun i j a b e1 e2 => by subst e1 e2; exact fun y_ => P.ge_int ⟨_, m, io, rfl, .refl, H, rfl, rfl, rfl⟩
set_option tactic.hygienic true in
theorem cJ0 {α : Type} {xs : List α} {i : Int} {v : α} (h : at_ xs i = some v) : ∃ k, seqIndex? i xs.length = some k /\ xs[k]? = some v := by
 unfold at_ at h
 unfold seqIndex?
 split at h
 ·rename_i h0
  have hlt := (List.getElem?_eq_some_iff.mp h).1
  refine ⟨i.toNat, ?_, h⟩
  simp only [show ¬ i < 0 by omega, if_false]
  rw [if_pos]
  simp only [Bool.and_eq_true, decide_eq_true_eq]; omega
 ·split at h
  ·rename_i h0 h1
   have hlt := (List.getElem?_eq_some_iff.mp h).1
   refine ⟨(i + xs.length).toNat, ?_, h⟩
   simp only [show i < 0 by omega, if_true]
   rw [if_pos]
   simp only [Bool.and_eq_true, decide_eq_true_eq]; omega
  ·cases h
set_option tactic.hygienic true in
theorem aY9 (slice : Expr) (o i : Value) : ∃ ops, subscripted slice false o i = operate ops (getItem o i) := by
 cases slice <;> first | (exact ⟨_, rfl⟩) | skip
 rename_i st _
 cases st <;> exact ⟨_, rfl⟩
theorem aC4 {value slice : Expr} {u y : Value} {T id : String} {α : Type} {P : Heap -> Io -> α -> Value -> Prop} {R : Res α} (x : Si W own A fs P (getItem u y) s io m R) (hT : s.TypeIs u T) (hl : typeLookup (.type T) "__getitem__" = pure (some (.builtin id))) :
  Si W own A fs P (PyProof.Rows.subscriptTail value slice u y) s io m R := by
 intro hne
 rcases aY9 slice u y with ⟨ops, e⟩
 exact PyProof.Rows.tail_any hT hl (x hne) e
theorem VRs.get_arr {h : Heap} {xs : List V} {vs : Array Value} (x : VRs W h io xs vs.toList) {k : Nat} {v : V} (hk : xs[k]? = some v) : ∃ u, vs[k]? = some u /\ VR W h io v u := by
 obtain ⟨u, e, r⟩ := x.get hk
 exact ⟨u, by rw [<- Array.getElem?_toList]; exact e, r⟩
theorem VRs.size {h : Heap} {xs : List V} {vs : Array Value} (x : VRs W h io xs vs.toList) : vs.size = xs.length := by
 have := x.length; rw [Array.length_toList] at this; exact this
theorem aS2 {x : Str} {c k : Nat} (ok : PyData.strOk x = true) (h : x.cps[k]? = some c) : PyData.strOk ⟨#[c]⟩ = true := by
 unfold PyData.strOk at *
 have := Array.all_eq_true.mp ok k (Array.getElem?_eq_some_iff.mp h).1
 rw [(Array.getElem?_eq_some_iff.mp h).2] at this
 simpa using this
theorem cH8 {x : V} {q : Nat} {o : Option MObj} (h : m[q]? = o) : aQ0 (.ref q) x m = (match (generalizing := false) o with
  | some (.list xs) => match x with
   | .int k => if k.natAbs < 2 ^ 60 then ofO (at_ xs k) m else .bad
   | _ => .bad
  | some (.dict kvs _) => match dM x with
   | some k => if aJ k kvs then ofO (bM k kvs) m else .bad
   | Option.none => .bad
  | _ => .bad) := by subst h; rfl
theorem bP5 {α β : Type} {P : Heap -> Io -> α -> β -> Prop} {t : Sem β} {c : Prop} [Decidable c] {R : Res α} (h : c -> Si W own A fs P t s io m R) : Si W own A fs P t s io m (if c then R else .bad) := by
 by_cases q : c
 ·rw [if_pos q]; exact h q
 ·rw [if_neg q]; exact Si.bad
theorem cA3 {α β : Type} {P : Heap -> Io -> α -> β -> Prop} {t : Sem β} {o : Option α} (h : ∀ a, o = some a -> Si W own A fs P t s io m (.ok a m)) : Si W own A fs P t s io m (ofO o m) := by
 cases o with
 | none => exact Si.bad
 | some a => exact h a rfl
set_option tactic.hygienic true in
theorem cQ5 (H : HR W s.heap io m) (R : AR A fs n) {value slice : Expr} {v x : V} {u y : Value} (k : VR W s.heap io v u) (l : VR W s.heap io x y) :
  Si W own A fs (VP W) (PyProof.Rows.subscriptTail value slice u y) s io m (aQ0 v x m) := by
 induction k using VR.elim with
 | @tup a vs n' xs g1 g2 =>
  induction l using VR.elim with
  | int k t =>
   refine bP5 fun hk => cA3 fun z q => ?_
   refine hide fun G_ g_ => ?_
   rcases cJ0 q with ⟨j, e1, e2⟩
   rcases g2.get_arr e2 with ⟨z', f1, f2⟩
   refine g_ ?_
   clear g_ G_
   refine aC4 (T := "tuple") (fun y_ => P.getItem_tuple g1 (by omega) (by omega) (by rw [g2.size]; exact e1) f1 (bC (tk := s.toks) H f2)) ⟨_, g1, rfl⟩ F.slot_tuple_getitem.lookup
  | _ => exact Si.bad
 | str z t okz =>
  induction l using VR.elim with
  | int k t =>
   refine bP5 fun hk => ?_
   cases q : at_ z.cps.toList k with
   | none => exact Si.bad
   | some c =>
    obtain ⟨j, e1, e2⟩ := cJ0 q
    rw [Array.getElem?_toList] at e2
    refine aC4 (T := "str") (fun y_ => P.getItem_str (c := c) (by simp; omega) ?_ (bC H (.str _ _ (aS2 okz e2)))) rfl F.slot_str_getitem.lookup
    rw [Array.length_toList] at e1
    show (seqIndex? k z.cps.size).bind _ = _
    rw [e1]; exact e2
  | _ => exact Si.bad
 | @ref p a d g1 =>
  cases hx : m[p]? with
  | none => rw [cH8 hx]; exact Si.bad
  | some ob =>
   rw [cH8 hx]
   cases ob with
   | list xs =>
    obtain ⟨y_, vs, n', a1, a2, a3⟩ := H.obj _ _ _ g1 hx
    induction l using VR.elim with
    | int k t =>
     refine bP5 fun hk => cA3 fun z q => ?_
     refine aC4 (T := "list") (fun y_ => ?_) ⟨_, a1, rfl⟩ slot_list_getitem.lookup
     unfold at_ at q
     split at q
     ·rename_i h0
      obtain ⟨z', f1, f2⟩ := a2.get_arr q
      exact wpAny_getItem_list ⟨_, a1, rfl, _, rfl⟩ h0 (by omega) f1 (bC (tk := s.toks) H f2)
     ·split at q
      ·rename_i h0 h1
       obtain ⟨z', f1, f2⟩ := a2.get_arr q
       exact wpAny_getItem_list_neg ⟨_, a1, rfl, _, rfl⟩ (by omega) (by rw [a2.size]; omega) (by omega) (by rw [a2.size]; exact f1) (bC (tk := s.toks) H f2)
      ·cases q
    | _ => exact Si.bad
   | dict kvs e =>
    obtain ⟨y_, o, es, n', a1, a2, a3, y_⟩ := H.obj _ _ _ g1 hx
    show Si W own A fs (VP W) _ s io m (match dM x with | some k => if aJ k kvs then ofO (bM k kvs) m else .bad | Option.none => .bad)
    cases hk : dM x with
    | none => exact Si.bad
    | some ky => exact bP5 fun hs => cA3 fun z q => aC4 (T := "dict") (fun y_ => cD8 H R g1 hx l hk hs q fun u' tk hu => bC H hu) ⟨_, a1, a2.1⟩ slot_dict_getitem.lookup
   | _ => exact Si.bad
 | @scr ns l' o vs n' h1 h2 h3 h4 h5 =>
  induction l using VR.elim with
  | int k t =>
   refine bP5 fun hk => cA3 fun z q => ?_
   have q' : (ns.map V.int)[k.toNat]? = some z := by rw [List.getElem?_map]; exact q
   obtain ⟨z', f1, f2⟩ := (h4.vrs (W := W) (h := s.heap) (io := io)).get_arr q'
   have hlt : k.toNat < ns.length := by have := (List.getElem?_eq_some_iff.mp q').1; simpa using this
   refine aC4 (T := "list") (fun y_ => wpAny_getItem_list ⟨_, H.keep _ _ h1, h2, _, h3⟩ hk (by rw [aU4] at h5; omega) f1 (bC (tk := s.toks) H f2)) ⟨_, H.keep _ _ h1, h2⟩ slot_list_getitem.lookup
  | _ => exact Si.bad
 | _ => exact Si.bad
end
end Mini
namespace Mini
open PySem
theorem bU5 {h l n : Nat} (e : h - l = n) (k : h <= n) : l = 0 /\ h = n \/ n = 0 := by omega
theorem bE3 {α : Type} (xs : List α) (a : Nat) : ∀ c, (List.range c).filterMap (fun k => xs[a + k]?) = (xs.drop a).take c := by
 intro c
 induction c with
 | zero => simp
 | succ c ih =>
  rw [List.range_succ, List.filterMap_append, ih, List.take_add_one]
  congr 1
  rw [List.getElem?_drop, List.filterMap_cons, List.filterMap_nil]
  cases xs[a + c]? <;> rfl
theorem aZ2 {α : Type} (xs : List α) {a b : Nat} (hb : b <= xs.length) : (List.range (b - a)).filterMap (fun k => xs[a + k]?) = (xs.take b).drop a := by
 rw [bE3, List.drop_take]
noncomputable def aE5 (n : Nat) (lo : Option Int) : Nat := match lo with | some i => eB n i | Option.none => 0
noncomputable def dW (n : Nat) (hi : Option Int) : Nat := match hi with | some i => eB n i | Option.none => n
theorem eY {α : Type} (xs : List α) (lo hi : Option Int) : cut xs lo hi = (xs.take (dW xs.length hi)).drop (aE5 xs.length lo) := rfl
theorem aF2 (n : Nat) (hi : Option Int) : dW n hi <= n := by
 unfold dW eB; split
 ·split <;> omega
 ·exact Nat.le_refl _
theorem cS9 (n : Nat) (i : Int) : (max 0 (min (if i < 0 then i + n else i) (n : Int))) = (eB n i : Int) := by
 unfold eB
 by_cases h : 0 <= i
 ·rw [if_neg (Int.not_lt.mpr h), if_pos h]
  rcases Int.le_total i (n : Int) with z | z
  ·rw [Int.min_eq_left z, Int.max_eq_right h, Nat.min_eq_left (Int.toNat_le.mpr z), Int.toNat_of_nonneg h]
  ·rw [Int.min_eq_right z, Int.max_eq_right (Int.natCast_nonneg n), Nat.min_eq_right ((Int.le_toNat h).mpr z)]
 ·have h' : i < 0 := Int.not_le.mp h
  rw [if_pos h', if_neg h, Int.min_eq_left (Int.le_of_lt (by have := Int.add_lt_add_right h' (n : Int); rwa [Int.zero_add] at this)), Int.toNat_eq_max, Int.max_comm]
theorem aX1 (lo hi : Option Int) (n : Nat) : sliceBounds lo hi none n = ((aE5 n lo : Int), (dW n hi : Int), 1) := by
 unfold sliceBounds aE5 dW
 cases lo <;> cases hi <;> simp [cS9]
theorem aS6 (a b : Nat) : sliceRange (a : Int) (b : Int) 1 = (List.range (b - a)).map fun k => a + k := by
 unfold sliceRange
 have e : (if (1 : Int) > 0 then (if (a : Int) < b then ((b : Int) - a + 1 - 1) / 1 else 0) else (if (a : Int) > b then ((a : Int) - b - 1 - 1) / (-1) else 0)).toNat = b - a := by
  rw [if_pos (by decide)]
  by_cases h : (a : Int) < b
  ·rw [if_pos h, Int.ediv_one, Int.add_sub_cancel]; exact Int.toNat_sub b a
  ·rw [if_neg h]; exact (Nat.sub_eq_zero_of_le (Int.ofNat_le.mp (Int.not_lt.mp h))).symm
 simp only [e]
 refine List.map_congr_left fun k y_ => by omega
theorem aO8 (items : Array Value) (lo hi : Option Int) : (slicePick items lo hi none).toList = cut items.toList lo hi := by
 unfold slicePick
 rw [aX1, eY]
 simp only [aS6, List.filterMap_map]
 rw [Array.length_toList]
 rw [<- aZ2 items.toList (b := dW items.size hi) (a := aE5 items.size lo) (by rw [Array.length_toList]; exact aF2 _ _)]
 congr 1
 funext k
 simp only [Function.comp, Array.getElem?_toList]
theorem cB0 (items : Array Value) : (slicePick items none none (some 1)).toList = items.toList := by
 have : slicePick items none none (some 1) = slicePick items none none none := rfl
 rw [this, aO8, eY]
 show (items.toList.take items.toList.length).drop 0 = _
 rw [List.drop_zero, List.take_length]
theorem cA9 (items : Array Value) : (slicePick items none none (some (-1))).toList = items.toList.reverse := by
 unfold slicePick
 have e : sliceRange ((items.size : Int) - 1) (-1) (-1) = (List.range items.size).map fun (k : Nat) => ((items.size : Int) - 1 + -1 * (k : Int)).toNat := by
  unfold sliceRange
  have : (if (-1 : Int) > 0 then (if (items.size : Int) - 1 < -1 then (-1 - ((items.size : Int) - 1) + -1 - 1) / -1 else 0) else (if (items.size : Int) - 1 > -1 then ((items.size : Int) - 1 - -1 - -1 - 1) / (- -1) else 0)).toNat = items.size := by
   simp only [show ¬ (-1 : Int) > 0 by decide, if_false, Int.neg_neg, Int.ediv_one]
   split <;> omega
  simp only [this]
 show (List.filterMap (fun x => items[x]?) (sliceRange ((items.size : Int) - 1) (-1) (-1))) = _
 rw [e, List.filterMap_map]
 rcases items with ⟨xs⟩
 simp only [List.size_toArray]
 have key : ∀ (xs : List Value), (List.range xs.length).filterMap (fun (k : Nat) => xs[((xs.length : Int) - 1 + -1 * (k : Int)).toNat]?) = xs.reverse := by
  intro xs
  have h1 : (List.range xs.length).filterMap (fun (k : Nat) => xs[((xs.length : Int) - 1 + -1 * (k : Int)).toNat]?) = (List.range xs.length).filterMap (fun k => xs.reverse[0 + k]?) := by
   have : ∀ k ∈ List.range xs.length, xs[((xs.length : Int) - 1 + -1 * (k : Int)).toNat]? = xs.reverse[0 + k]? := fun k hk => by
    have hk := List.mem_range.mp hk
    rw [List.getElem?_reverse (by omega)]
    congr 1; omega
   have cg : ∀ (l : List Nat) (f g : Nat -> Option Value), (∀ k ∈ l, f k = g k) -> l.filterMap f = l.filterMap g := by
    intro l f g
    induction l with
    | nil => intro _; rfl
    | cons a l ih =>
     intro h
     rw [List.filterMap_cons, List.filterMap_cons, h a (.head _), ih fun k hk => h k (.tail _ hk)]
   exact cg _ _ _ this
  rw [h1, bE3, List.drop_zero, <- List.length_reverse, List.take_length]
 refine Eq.trans (congrArg (fun f => List.filterMap f (List.range xs.length)) ?_) (key xs)
 funext k
 simp only [Function.comp, List.getElem?_toArray]
set_option tactic.hygienic true in
theorem cL7 (x : Str) (t : Tok) (l u : Option (Int × Tok)) {Q : Value -> Shared -> Prop} {s : Shared} (h : ∀ t' tk, Q (.str ⟨(cut x.cps.toList (l.map (·.1)) (u.map (·.1))).toArray⟩ t') { s with toks := tk }) (hsz : x.length <= sizeLine) : (sliceMade x t l u none).post Q s := by
 have e1 : slicePicked x l u none = (List.range (dW x.length (u.map (·.1)) - aE5 x.length (l.map (·.1)))).map fun k => aE5 x.length (l.map (·.1)) + k := by
  unfold slicePicked
  have : Builtin.Str.strSliceIndices (l.map (·.1)) (u.map (·.1)) ((Option.map (·.1) (none : Option (Int × Tok))).getD 1) x.length = sliceRange (sliceBounds (l.map (·.1)) (u.map (·.1)) none x.length).1 (sliceBounds (l.map (·.1)) (u.map (·.1)) none x.length).2.1 1 := by
   cases l <;> cases u <;> rfl
  rw [this, aX1]
  exact aS6 _ _
 have e2 : (slicePicked x l u none).filterMap (x.cps[·]?) = cut x.cps.toList (l.map (·.1)) (u.map (·.1)) := by
  rw [e1, List.filterMap_map, eY, Array.length_toList]
  rw [<- aZ2 x.cps.toList (b := dW x.cps.size (u.map (·.1))) (a := aE5 x.cps.size (l.map (·.1))) (by rw [Array.length_toList]; exact aF2 _ _)]
  refine congrArg (fun f => List.filterMap f _) ?_
  funext k
  simp only [Function.comp, Array.getElem?_toList]
  rfl
 unfold sliceMade
 split
 ·rename_i hc
  have hlen : (slicePicked x l u none).length = x.length := by simpa using hc
  have : cut x.cps.toList (l.map (·.1)) (u.map (·.1)) = x.cps.toList := by
   rw [eY, Array.length_toList]
   rw [e1] at hlen
   simp only [List.length_map, List.length_range] at hlen
   have h1 := aF2 x.length (u.map (·.1))
   have h2 : aE5 x.cps.size (l.map (·.1)) = 0 /\ dW x.cps.size (u.map (·.1)) = x.cps.size \/ x.cps.size = 0 := by
    exact bU5 hlen h1
   rcases h2 with ⟨h2, h3⟩ | h2
   ·rw [h2, h3, <- Array.length_toList, List.drop_zero, List.take_length]
   ·have : x.cps.toList = [] := List.eq_nil_of_length_eq_zero (by rw [Array.length_toList]; exact h2)
    rw [this]; simp
  have h' := h t s.toks
  rw [this] at h'
  exact h'
 ·rw [e2]
  refine ⟨?_, h _ _⟩
  show (cut x.cps.toList (l.map (·.1)) (u.map (·.1))).toArray.size <= sizeLine
  rw [List.size_toArray, eY, List.length_drop, List.length_take, Array.length_toList]
  exact Nat.le_trans (Nat.sub_le _ _) (Nat.le_trans (Nat.min_le_right _ _) hsz)
section
variable {W : Wd} {own : List Addr} {A : Around} {fs : List Env} {s : Shared} {io : Io} {m : MH} {n : Nat}
theorem VRs.cut {h : Heap} {xs : List V} {vs : List Value} (x : VRs W h io xs vs) (lo hi : Option Int) : VRs W h io (Mini.cut xs lo hi) (Mini.cut vs lo hi) := by
 rw [eY, eY, x.length]; exact (x.take _).drop _
theorem aD4 {α : Type} (xs : List α) (lo hi : Option Int) : (Mini.cut xs lo hi).length <= xs.length := by
 rw [eY, List.length_drop, List.length_take]; exact Nat.le_trans (Nat.sub_le _ _) (Nat.min_le_right _ _)
theorem bO2 {x : Str} (ok : PyData.strOk x = true) (lo hi : Option Int) : PyData.strOk ⟨(Mini.cut x.cps.toList lo hi).toArray⟩ = true := by
 unfold PyData.strOk at *
 rw [List.all_toArray, List.all_eq_true]
 intro c hc
 rw [eY] at hc
 have := List.mem_of_mem_take (List.mem_of_mem_drop hc)
 exact Array.all_eq_true_iff_forall_mem.mp ok c (Array.mem_toList_iff.mp this)
theorem fO {v : V} {u : Value} {o : Option Int} (k : VR W s.heap io v u) (h : aD6 v = some o) : IsPart u o := by
 induction k using VR.elim with
 | none => cases h; exact .none
 | int i t =>
  by_cases q : i.natAbs < 2 ^ 60
  ·have h : some (some i) = some o := (if_pos q).symm.trans h
   cases h; exact .int _ _
  ·exact nomatch (show Option.none = some o from (if_neg q).symm.trans h)
 | _ => cases h
theorem bW4 (lo hi : Option Int) (n : Nat) : Builtin.Slice.sliceAdjust lo hi 1 (n : Int) = ((aE5 n lo : Int), (dW n hi : Int)) := by
 unfold Builtin.Slice.sliceAdjust aE5 dW eB
 have c : ∀ v : Int, (if v < 0 then max (v + (n : Int)) 0 else min v (n : Int)) = ((if 0 <= v then min v.toNat n else (v + n).toNat : Nat) : Int) := fun v => by
  by_cases h : 0 <= v
  ·rw [if_neg (Int.not_lt.mpr h), if_pos h]
   rcases Int.le_total v (n : Int) with z | z
   ·rw [Int.min_eq_left z, Nat.min_eq_left (Int.toNat_le.mpr z), Int.toNat_of_nonneg h]
   ·rw [Int.min_eq_right z, Nat.min_eq_right ((Int.le_toNat h).mpr z)]
  ·rw [if_pos (Int.not_le.mp h), if_neg h, Int.toNat_eq_max]
 simp only [show ¬ (1 : Int) < 0 by decide, if_false]
 cases lo <;> cases hi <;> simp only [c] <;> rfl
theorem bQ7 (a b : Nat) : Builtin.Slice.slicePlaces (a : Int) (b : Int) 1 = b - a := by
 unfold Builtin.Slice.slicePlaces
 rw [if_pos (by decide)]
 by_cases h : (a : Int) < b
 ·rw [if_pos h, Int.ediv_one, Int.sub_add_cancel]; exact Int.toNat_sub b a
 ·rw [if_neg h]; exact (Nat.sub_eq_zero_of_le (Int.ofNat_le.mp (Int.not_lt.mp h))).symm
theorem aS5 {v : Value} {o : Option Int} {E : Value -> Shared -> Prop} {Q : Option Int -> Shared -> Prop} (h : IsPart v o) (q : Q o s) : wpAny (model W.prog W.w) A (Builtin.Slice.slicePartIndex v) Q E s := by
 cases h with
 | none => exact PyProof.Rows.slicePart_none q
 | int i t => exact PyProof.Rows.slicePart_int q
theorem aD2 {E : Value -> Shared -> Prop} {t sl : Addr} {items : Array Value} {nn : Nat} {vl vu : Value} {lo hi : Option Int} {Q : Value -> Shared -> Prop} (ht : s.heap.get? t = some (cG1 items nn)) (hs : s.heap.IsSliceOf sl vl vu .none) (pl : IsPart vl lo) (pu : IsPart vu hi) (hsz : items.size <= sizeLine)
  (h0 : Mini.cut items.toList lo hi = items.toList -> Q (.ref t) s)
  (h : Q (.ref s.heap.objs.size) { s with heap := s.heap.push (cG1 (Mini.cut items.toList lo hi).toArray 0) }) : wpAny (model W.prog W.w) A (getItem (.ref t) (.ref sl)) Q E s := by
 have htt : PyProof.Rows.IsTup s.heap t items := ⟨_, ht, rfl, _, rfl⟩
 obtain ⟨os, hos, hcs, hds⟩ := id hs
 have hTs : s.TypeIs (.ref sl) "slice" := ⟨os, hos, hcs⟩
 have hsz2 : sizeOk (.seq (Mini.cut items.toList lo hi).toArray) := by
  show (Mini.cut items.toList lo hi).toArray.size <= sizeLine
  rw [List.size_toArray]
  have h1 := aD4 items.toList lo hi
  have h2 : items.toList.length = items.size := Array.length_toList
  omega
 unfold getItem
 try with_reducible refine wpAny_holding ?_
 refine wpAny_bind (wpAny_sequenceKey htt.typeIs (by decide) ?_)
 refine wpAny_bind (wpAny_callSpecial?_slot (name := Str.ofString "__getitem__") htt.typeIs PyProof.Rows.slot_tuple_getitem
  (wpAny_call_entry PyProof.Rows.slot_tuple_getitem htt.typeIs PyProof.Rows.entry_tuple_getitem ?_ (PyProof.Rows.args_tuple_getitem _ _)))
 show wpAny _ _ (Builtin.Tuple.tupleItemsOf (.ref t) >>= _) _ _ s
 refine wpAny_bind (PyProof.Rows.tupleItemsOf_ htt ?_)
 refine wpAny_bind (wpAny_typeOf hTs ?_)
 rw [if_pos (by decide)]
 have happ : ∀ {Q : Int × Int × Nat -> Shared -> Prop} {E : Value -> Shared -> Prop} {A : Around}, Q ((aE5 items.size lo : Int), 1, dW items.size hi - aE5 items.size lo) s -> wpAny (model W.prog W.w) A (Builtin.Slice.sliceApplied (.ref sl) (pure (items.size : Int))) Q E s := by
  intro Q E A q
  unfold Builtin.Slice.sliceApplied Builtin.Slice.sliceFields
  refine wpAny_bind (wpAny_bind (wpAny_field hos hds (x := vl) rfl (wpAny_bind (wpAny_field hos hds (x := vu) rfl (wpAny_bind (wpAny_field hos hds (x := .none) rfl (wpAny_pure ?_)))))))
  refine wpAny_bind (PyProof.Rows.slicePart_none ?_)
  show wpAny _ _ (if ((1 : Int) == 0) = true then _ else _) _ _ s
  rw [if_neg (by decide)]
  refine wpAny_bind (aS5 pl (wpAny_bind (aS5 pu (wpAny_bind (wpAny_pure ?_)))))
  show wpAny _ _ (match Builtin.Slice.sliceAdjust lo hi 1 (items.size : Int) with | (lo, hi) => pure (lo, (1 : Int), Builtin.Slice.slicePlaces lo hi 1)) _ _ s
  rw [bW4]
  show wpAny _ _ (pure ((aE5 items.size lo : Int), (1 : Int), Builtin.Slice.slicePlaces (aE5 items.size lo : Int) (dW items.size hi : Int) 1)) _ _ s
  rw [bQ7]
  exact wpAny_pure q
 refine wpAny_bind (happ ?_)
 have hb := aF2 items.size hi
 have pk : ((List.range (dW items.size hi - aE5 items.size lo)).filterMap fun (k : Nat) => items[((aE5 items.size lo : Int) + (k : Int) * 1).toNat]?) = Mini.cut items.toList lo hi := by
  rw [eY, Array.length_toList, <- aZ2 items.toList (b := dW items.size hi) (a := aE5 items.size lo) (by rw [Array.length_toList]; exact hb)]
  congr 1
  funext k
  rw [Array.getElem?_toList]
  congr 1; omega
 by_cases hw : ((aE5 items.size lo : Int) == 0 && (1 : Int) == 1 && (dW items.size hi - aE5 items.size lo) == items.size) = true
 ·have hw' : aE5 items.size lo = 0 /\ dW items.size hi - aE5 items.size lo = items.size := by
   simp only [Bool.and_eq_true, beq_iff_eq] at hw
   exact ⟨by omega, hw.2⟩
  have : Mini.cut items.toList lo hi = items.toList := by
   rw [eY, Array.length_toList, hw'.1, show dW items.size hi = items.size by omega, List.drop_zero, <- Array.length_toList, List.take_length]
  show wpAny _ _ (if ((aE5 items.size lo : Int) == 0 && (1 : Int) == 1 && (dW items.size hi - aE5 items.size lo) == items.size) = true then _ else _) _ _ s
  rw [if_pos hw]
  refine wpAny_bind ?_
  unfold Builtin.Tuple.tupleIsExact
  refine wpAny_bind (wpAny_typeOf htt.typeIs (wpAny_pure ?_))
  rw [if_pos (by decide)]
  exact wpAny_bind (wpAny_rule (wpAny_pure ⟨_, rfl, wpAny_pure (h0 this)⟩))
 ·show wpAny _ _ (if ((aE5 items.size lo : Int) == 0 && (1 : Int) == 1 && (dW items.size hi - aE5 items.size lo) == items.size) = true then _ else _) _ _ s
  rw [if_neg hw, pk]
  first
   | exact wpAny_bind (m := Builtin.Tuple.tupleExact _) (wpAny_newObj_type (wpAny_pure ⟨_, rfl, wpAny_pure h⟩) hsz2)
   | exact wpAny_bind (m := Builtin.Tuple.tupleExact _) (wpAny_newObj_type (wpAny_bind (wpAny_pure (wpAny_pure ⟨_, rfl, wpAny_pure h⟩))) hsz2)
   | exact wpAny_bind (wpAny_bind (m := Builtin.Tuple.tupleExact _) (wpAny_newObj_type (wpAny_pure (wpAny_pure ⟨_, rfl, wpAny_pure h⟩)) hsz2))
   | exact wpAny_bind (wpAny_bind (m := Builtin.Tuple.tupleExact _) (wpAny_newObj_type (wpAny_pure ⟨_, rfl, wpAny_pure h⟩) hsz2))
theorem e9 {value slice : Expr} {u y : Value} {T id : String} {α : Type} {P : Heap -> Io -> α -> Value -> Prop} {R : Res α} (hT : s.TypeIs u T) (hl : typeLookup (.type T) "__getitem__" = pure (some (.builtin id)))
  (x : wpAny (model W.prog W.w) A (getItem u y) (NP W own (frs fs) s io m P R) NX s) : Si W own A fs P (PyProof.Rows.subscriptTail value slice u y) s io m R := aC4 (fun y_ => x) hT hl
theorem aT4 {v : V} {u : Value} {o : Option Int} (k : VR W s.heap io v u) (h : aD6 v = some o) : ∃ q : Option (Int × Tok), u = partValue q /\ q.map (·.1) = o := by
 cases fO k h with
 | none => exact ⟨none, rfl, rfl⟩
 | int i t => exact ⟨some (i, t), rfl, rfl⟩
theorem aG7 {α : Type} {xs l : List α} {lo hi st : V} (h : cG xs lo hi st = some l) :
  (st = .none /\ ∃ a b, aD6 lo = some a /\ aD6 hi = some b /\ l = Mini.cut xs a b) \/ (∃ k, st = .int k /\ lo = .none /\ hi = .none /\ ((k = 1 /\ l = xs) \/ (k = -1 /\ l = xs.reverse))) := by
 cases st with
 | none =>
  have h : (match aD6 lo, aD6 hi with | some a, some b => some (Mini.cut xs a b) | _, _ => Option.none) = some l := h
  cases h1 : aD6 lo with
  | none => rw [h1] at h; cases h
  | some a =>
   cases h2 : aD6 hi with
   | none => rw [h1, h2] at h; cases h
   | some b => rw [h1, h2] at h; cases h; exact .inl ⟨rfl, a, b, rfl, rfl, rfl⟩
 | int k =>
  refine .inr ⟨k, rfl, ?_⟩
  have key : lo = .none -> hi = .none -> lo = .none /\ hi = .none /\ ((k = 1 /\ l = xs) \/ (k = -1 /\ l = xs.reverse)) := fun e1 e2 => by
   subst e1 e2
   have h : (if k = 1 then some xs else if k = -1 then some xs.reverse else Option.none) = some l := h
   refine ⟨rfl, rfl, ?_⟩
   by_cases q1 : k = 1
   ·rw [if_pos q1] at h; cases h; exact .inl ⟨q1, rfl⟩
   ·rw [if_neg q1] at h
    by_cases q2 : k = -1
    ·rw [if_pos q2] at h; cases h; exact .inr ⟨q2, rfl⟩
    ·rw [if_neg q2] at h; cases h
  cases lo with
  | none =>
   cases hi with
   | none => exact key rfl rfl
   | _ => cases h
  | _ => cases h
 | _ => cases h
theorem fN {α : Type} {xs l : List α} {lo hi : V} (h : cG xs lo hi .none = some l) : ∃ a b, aD6 lo = some a /\ aD6 hi = some b /\ l = Mini.cut xs a b := by
 rcases aG7 h with ⟨_, r⟩ | ⟨k, q, _⟩
 ·exact r
 ·cases q
set_option tactic.hygienic true in
theorem bP3 (H : HR W s.heap io m) {value slice : Expr} {v lo hi st : V} {u ul uh us : Value} {sl : Addr} (k : VR W s.heap io v u) (kl : VR W s.heap io lo ul) (kh : VR W s.heap io hi uh) (ks : VR W s.heap io st us) (hs : s.heap.IsSliceOf sl ul uh us) :
  Si W own A fs (VP W) (PyProof.Rows.subscriptTail value slice u (.ref sl)) s io m (dI v lo hi st m) := by
 unfold dI
 split
 ·rename_i xs
  refine VR.dTup k fun a vs n' g1 g2 => ?_
  split
  ·cases ks
   split
   ·rename_i hl
    cases q : cG xs lo hi .none with
    | none => exact Si.bad
    | some l =>
     obtain ⟨a, b, h1, h2, rfl⟩ := fN q
     have hsz := g2.size
     refine e9 (T := "tuple") ⟨_, g1, rfl⟩ F.slot_tuple_getitem.lookup ?_
     refine aD2 g1 hs (fO kl h1) (fO kh h2) (aK (by omega)) (fun e => ?_) (cH1 H (by exact g2.cut _ _))
     refine bC (tk := s.toks) H (.tup g1 ?_)
     have := g2.cut a b
     rw [e] at this
     exact this
   ·exact Si.bad
  ·exact Si.bad
 ·rename_i z
  refine VR.dStr k fun t okz => ?_
  split
  ·cases ks
   split
   ·rename_i hl
    cases q : cG z.cps.toList lo hi .none with
    | none => exact Si.bad
    | some l =>
     refine hide fun G_ g_ => ?_
     rcases fN q with ⟨a, b, h1, h2, rfl⟩
     rcases aT4 kl h1 with ⟨ql, rfl, rfl⟩
     rcases aT4 kh h2 with ⟨qh, rfl, rfl⟩
     refine g_ ?_
     clear g_ G_
     refine e9 (T := "str") rfl F.slot_str_getitem.lookup ?_
     obtain ⟨o, ho, hc, hd⟩ := hs
     refine wpAny_getItem_str_slice (l := ql) (u := qh) (st := none) ⟨o, ho, hc, hd⟩ (by decide) ?_
     exact cL7 z t ql qh (fun t' tk => bC H (.str _ _ (bO2 okz _ _))) (aK hl)
   ·exact Si.bad
  ·exact Si.bad
 ·refine VR.dRef k fun y_ y_ g1 => ?_
  split
  ·rename_i xs hx
   obtain ⟨y_, vs, n', a1, a2, a3⟩ := H.obj _ _ _ g1 hx
   have ll := a2.size
   cases q : cG xs lo hi st with
   | none => exact Si.bad
   | some l =>
    refine e9 (T := "list") ⟨_, a1, rfl⟩ slot_list_getitem.lookup ?_
    rcases aG7 q with ⟨rfl, a, b, h1, h2, rfl⟩ | ⟨j, rfl, rfl, rfl, ⟨rfl, rfl⟩ | ⟨rfl, rfl⟩⟩
    ·cases ks
     refine wpAny_getItem_list_slice ⟨_, a1, rfl, _, rfl⟩ hs (fO kl h1) (fO kh h2) .none (by simp) (aC8 H ?_ ?_) (aK (by omega))
     ·rw [aO8]; exact a2.cut _ _
     ·exact Nat.le_trans (aD4 _ _ _) a3
    ·rcases ks with ⟨y_, rfl⟩; cases kl; cases kh
     refine wpAny_getItem_list_slice ⟨_, a1, rfl, _, rfl⟩ hs .none .none (.int _ _) (by simp) (aC8 H ?_ a3) (aK (by omega))
     rw [cB0]; exact a2
    ·rcases ks with ⟨y_, rfl⟩; cases kl; cases kh
     refine wpAny_getItem_list_slice ⟨_, a1, rfl, _, rfl⟩ hs .none .none (.int _ _) (by simp) (aC8 H ?_ (by simpa using a3)) (aK (by omega))
     rw [cA9]; exact a2.reverse
  ·exact Si.bad
 ·rename_i ns
  refine VR.dScr k fun l' o vs n' h1 h2 h3 h4 h5 => ?_
  split
  ·cases ks
   cases q : cG (ns.map V.int) lo hi .none with
   | none => exact Si.bad
   | some l =>
    obtain ⟨a, b, e1, e2, rfl⟩ := fN q
    have ll : vs.size = ns.length := by have := h4.length; rw [Array.length_toList] at this; exact this
    refine e9 (T := "list") ⟨_, H.keep _ _ h1, h2⟩ slot_list_getitem.lookup ?_
    refine wpAny_getItem_list_slice ⟨_, H.keep _ _ h1, h2, _, h3⟩ hs (fO kl e1) (fO kh e2) .none (by simp) (aC8 H ?_ ?_) (aK (by omega))
    ·rw [aO8]; exact h4.vrs.cut _ _
    ·exact Nat.le_trans (aD4 _ _ _) (by simpa using h5)
  ·exact Si.bad
 ·exact Si.bad
end
end Mini
namespace Mini
open PySem PySem.W
structure Sit (W : Wd) (fs : List Env) (env : Env) (vis : List (Option Str)) (s : Shared) (io : Io) (m : MH) (r : Lo) : Prop where
 H : HR W s.heap io m
 F : FR W s.heap io env vis r
 G : FF W s.heap io fs
section
variable {W : Wd} {fs : List Env} {env : Env} {vis : List (Option Str)} {s s' : Shared} {io io' : Io} {m m' : MH} {r : Lo} {fr : List Addr} {A : Around} {n : Nat}
theorem Sit.step (Z : Sit W fs env vis s io m r) (H : HR W s'.heap io' m') (st : Step [] fr s.heap io m s'.heap io' m') : Sit W fs env vis s' io' m' r := ⟨H, Z.F.step0 Z.H st, Z.G.step0 st⟩
noncomputable def SiE (W : Wd) (A : Around) (fs : List Env) (env : Env) (vis : List (Option Str)) (t : Sem Value) (c : Lo -> Mn V) : Prop :=
 ∀ (s : Shared) (io : Io) (m : MH) (r : Lo), Sit W fs env vis s io m r -> Si W [] A fs (VP W) t s io m (c r m)
noncomputable def SiB (W : Wd) (A : Around) (fs : List Env) (env : Env) (vis : List (Option Str)) (t : Sem Bool) (c : Lo -> Mn Bool) : Prop :=
 ∀ (s : Shared) (io : Io) (m : MH) (r : Lo), Sit W fs env vis s io m r -> Si W [] A fs BP t s io m (c r m)
noncomputable def SiL (W : Wd) (A : Around) (fs : List Env) (env : Env) (vis : List (Option Str)) (t : Sem (List Value)) (c : Lo -> Mn (List V)) : Prop :=
 ∀ (s : Shared) (io : Io) (m : MH) (r : Lo), Sit W fs env vis s io m r -> Si W [] A fs (VsP W) t s io m (c r m)
variable {a b c : Expr} {pos : Pos} {ca cb cc : Lo -> Mn V}
theorem cS2 {v : Lt} {k : Const} {j : Nat} (h : (match v, k with | .none, .none => true | .bool b, .bool d => b == d | .int i, .int j => i == j | .str x, .str y => x == y && PyData.strOk x | _, _ => false) = true) : SiE W A fs env vis (eval (.Constant k j pos) env) (fun y_ => ret v.val) := by
 intro s io m r Z
 cases v <;> cases k <;> first | (exact absurd h Bool.false_ne_true) | skip
 ·exact fun y_ => wpAny_Constant_none (bC (tk := s.toks) Z.H .none)
 ·rw [beq_iff_eq.mp h]
  exact fun y_ => wpAny_Constant_bool (bC (tk := s.toks) Z.H (.bool _))
 ·rw [beq_iff_eq.mp h]
  exact fun y_ => wpAny_Constant_int (bC Z.H (.int _ _))
 ·simp only [Bool.and_eq_true, beq_iff_eq] at h
  rw [<- h.1]
  exact fun y_ => wpAny_Constant_str (bC Z.H (.str _ _ h.2))
theorem e_var {i : Nat} {x : Str} (hv : vis[i]? = some (some x)) (hk : env.kindOf x = some .local \/ env.kindOf x = some .cell \/ env.kindOf x = some .free) (hd : (x == ("__debug__" : Str)) = false) (hc : (x == ("__classdict__" : Str)) = false) :
    SiE W A fs env vis (eval (.Name x pos) env) (fun r => match r[i]? with | some (some v) => ret v | _ => bad) := by
  intro s io m r Z
  have key : ∀ o : Option (Option V), r[i]? = o -> Si W [] A fs (VP W) (eval (.Name x pos) env) s io m ((match o with | some (some v) => ret v | _ => bad : Mn V) m) := by
   intro o hr
   match o, hr with
   | none, _ => exact .bad
   | some none, _ => exact .bad
   | some (some v), hr =>
    intro y_
    refine wpAny_Name ?_ hd
    rcases hk with hk | hk | hk
    · refine hide fun G_ g_ => ?_
      rcases Z.F.loc with ⟨mp, hn, hl⟩
      rcases hl i x v hv hr hk with ⟨u, e, k⟩
      refine g_ ?_
      clear g_ G_
      exact wpAny_loadName_local Z.F.kind hk hn e (bC (tk := s.toks) Z.H k)
    · obtain ⟨c, u, e, k1, k2⟩ := Z.F.cel i x v hv hr (.inl hk)
      exact wpAny_loadName_cell Z.F.kind hk e k1 (bC (tk := s.toks) Z.H k2)
    · obtain ⟨c, u, e, k1, k2⟩ := Z.F.cel i x v hv hr (.inr hk)
      exact wpAny_loadName_free Z.F.kind hk e k1 (bC (tk := s.toks) Z.H k2) hc
  exact key _ rfl
theorem e_bin {op : Operator} (ha : SiE W A fs env vis (eval a env) ca) (hb : SiE W A fs env vis (eval b env) cb) :
  SiE W A fs env vis (eval (.BinOp a op b pos) env) (fun r => bnd (ca r) fun x => bnd (cb r) fun y => bL0 op x y) := by
 intro s io m r Z
 rw [eval_BinOp]
 refine Si.bind (ha s io m r Z) fun u s₁ io₁ m₁ v y_ st H₁ k sm => ?_
 refine Si.bind (Si.holding (hb _ _ _ r (Z.step H₁ st))) fun u' s₂ io₂ m₂ v' y_ st₂ H₂ k₂ sm₂ => ?_
 exact .standAt (.operate (cT2 H₂ (VR.step st₂ k) k₂))
theorem e_not (ha : SiE W A fs env vis (eval a env) ca) : SiE W A fs env vis (eval (.UnaryOp .Not a pos) env) (fun r => bnd (ca r) fun x => bnd (eC x) fun b => ret (.bool (!b))) := by
 intro s io m r Z
 rw [arm_eval_UnaryOp]
 refine Si.bind (ha s io m r Z) fun u s₁ io₁ m₁ v y_ st H₁ k sm => .standAt (.holding ?_)
 refine Si.holding (t := truthy u >>= fun b => Pure.pure (Value.bool (!b))) ?_
 refine Si.bind (aG3 H₁ k) fun b s₂ io₂ m₂ b' y_ y_ H₂ k₂ y_ => ?_
 cases k₂
 exact .pure H₂ (.bool _)
theorem e_idx (R : AR A fs n) (ha : SiE W A fs env vis (eval a env) ca) (hb : SiE W A fs env vis (eval b env) cb) :
  SiE W A fs env vis (eval (.Subscript a b pos) env) (fun r => bnd (ca r) fun x => bnd (cb r) fun y => aQ0 x y) := by
 intro s io m r Z
 rw [arm_eval_Subscript]
 refine Si.bind (ha s io m r Z) fun u s₁ io₁ m₁ v y_ st H₁ k sm => ?_
 refine Si.bind (Si.holding (hb _ _ _ r (Z.step H₁ st))) fun u' s₂ io₂ m₂ v' y_ st₂ H₂ k₂ sm₂ => ?_
 exact .standAt (cQ5 H₂ R (VR.step st₂ k) k₂)
theorem bU {α β γ : Type} (x : Mn α) (f : α -> Mn β) (g : β -> Mn γ) : bnd (bnd x f) g = bnd x fun a => bnd (f a) g := by
 funext m
 show ((x m).bind f).bind g = (x m).bind fun a m => (f a m).bind g
 cases x m <;> rfl
theorem l_nil : SiL W A fs env vis (spliced (backTo pos (starEach [] env))) (fun y_ => ret []) := fun y_ y_ y_ y_ Z => .pure Z.H .nil
theorem cY7 {rest : List Expr} {cl : Lo -> Mn (List V)} (ha : SiE W A fs env vis (eval a env) ca) (hl : SiL W A fs env vis (spliced (backTo pos (starEach rest env))) cl) (he : starEach (a :: rest) env = (false, eval a env) :: starEach rest env) :
  SiL W A fs env vis (spliced (backTo pos (starEach (a :: rest) env))) (fun r => bnd (ca r) fun x => bnd (cl r) fun xs => ret (x :: xs)) := by
 intro s io m r Z
 rw [he]
 show Si W [] A fs (VsP W) (eval a env >>= fun v => (PySem.holding [v] (spliced (backTo pos (starEach rest env)))) >>= fun vs => Pure.pure (v :: vs)) s io m _
 refine Si.bind (ha s io m r Z) fun u s₁ io₁ m₁ v y_ st H₁ k sm => ?_
 refine Si.bind (Si.holding (hl _ _ _ r (Z.step H₁ st))) fun u' s₂ io₂ m₂ v' y_ st₂ H₂ k₂ sm₂ => ?_
 exact .pure H₂ (.cons (VR.step st₂ k) k₂)
theorem e_tup {es : List Expr} {j : Nat} {cl : Lo -> Mn (List V)} (hl : SiL W A fs env vis (spliced (backTo pos (starEach es env))) cl) (hn : ∀ r m vs m', cl r m = .ok vs m' -> vs.length <= lid) : SiE W A fs env vis (eval (.Tuple es j pos) env) (fun r => bnd (cl r) fun vs => ret (.tup vs)) := by
 intro s io m r Z
 rw [arm_eval_Tuple]
 refine .standAt (Si.bind (hl s io m r Z) fun u s₁ io₁ m₁ v e st H₁ k sm => ?_)
 exact fun y_ => wpAny_newTuple (cH1 (tk := s₁.toks) H₁ k) (by have := hn _ _ _ _ e; rw [<- k.length] at this; exact aK this)
theorem dB2 {es : List Expr} {cl : Lo -> Mn (List V)} (hl : SiL W A fs env vis (spliced (backTo pos (starEach es env))) cl) (hn : ∀ r m vs m', cl r m = .ok vs m' -> vs.length <= lid) : SiE W A fs env vis (eval (.List es pos) env) (fun r => bnd (cl r) fun vs => alloc (.list vs)) := by
 intro s io m r Z
 rw [arm_eval_List]
 refine .standAt (Si.bind (hl s io m r Z) fun u s₁ io₁ m₁ v e st H₁ k sm => ?_)
 exact fun y_ => wpAny_newList (aC8 (tk := s₁.toks) H₁ k (hn _ _ _ _ e)) (by have := hn _ _ _ _ e; rw [<- k.length] at this; exact aK this)
theorem b_one {op : BoolOp} (ha : SiE W A fs env vis (eval a env) ca) : SiE W A fs env vis (boolOp pos op (evalEach [a] env)) ca := ha
theorem dC7 {op : BoolOp} {c : Bool} {rest : List Expr} {cb : Lo -> Mn V} (hop : (op = .And /\ c = true) \/ (op = .Or /\ c = false)) (ha : SiE W A fs env vis (eval a env) ca) (hb : SiE W A fs env vis (boolOp pos op (evalEach (b :: rest) env)) cb) :
  SiE W A fs env vis (boolOp pos op (evalEach (a :: b :: rest) env)) (fun r => bnd (ca r) fun x => bnd (eC x) fun t => if t == c then cb r else ret x) := by
 intro s io m r Z
 rcases hop with ⟨rfl, rfl⟩ | ⟨rfl, rfl⟩ <;>
 refine Si.bind (ha s io m r Z) fun u s₁ io₁ m₁ v y_ st H₁ k sm => .standAt ?_ <;>
 refine Si.bind (Si.holding (aG3 H₁ k)) fun t s₂ io₂ m₂ t' y_ st₂ H₂ k₂ sm₂ => ?_ <;>
 cases k₂ <;> cases t'
 ·exact .pure H₂ (VR.step st₂ k)
 ·exact hb _ _ _ r ((Z.step H₁ st).step H₂ st₂)
 ·exact hb _ _ _ r ((Z.step H₁ st).step H₂ st₂)
 ·exact .pure H₂ (VR.step st₂ k)
noncomputable def SiC (W : Wd) (A : Around) (fs : List Env) (env : Env) (vis : List (Option Str)) (t : Value -> Sem Value) (c : V -> Lo -> Mn V) : Prop :=
 ∀ (s : Shared) (io : Io) (m : MH) (r : Lo) (x : V) (u : Value), Sit W fs env vis s io m r -> VR W s.heap io x u -> Si W [] A fs (VP W) (t u) s io m (c x r m)
noncomputable def dD2 (W : Wd) (A : Around) (fs : List Env) (env : Env) (vis : List (Option Str)) (t : Value -> Sem Bool) (c : V -> Lo -> Mn V) : Prop :=
 ∀ (s : Shared) (io : Io) (m : MH) (r : Lo) (x : V) (u : Value), Sit W fs env vis s io m r -> VR W s.heap io x u -> Si W [] A fs BP (t u) s io m (bnd (c x r) eC m)
theorem aM1 {op : CmpOp} (hb : behindInMarks op b = false) : markedEach [op] [b] (evalEach [b] env) = [eval b env] := by
 show [markedBehindIn op b (eval b env)] = _
 rw [markedBehindIn_of_false hb]
theorem c_one (ok : WOk W) (R : AR A fs n) {op : CmpOp} (hm : behindInMarks op b = false) (hb : SiE W A fs env vis (eval b env) cb) :
  SiC W A fs env vis (fun u => compareChain pos u [op] (markedEach [op] [b] (evalEach [b] env))) (fun x r => bnd (cb r) fun y => bnd (aJ1 op x y) fun c => ret (.bool c)) := by
 intro s io m r x u Z k
 show Si W [] A fs (VP W) (compareChain pos u [op] (markedEach [op] [b] (evalEach [b] env))) s io m _
 rw [aM1 hm]
 refine Si.bind (Si.holding (hb _ _ _ r Z)) fun u' s₂ io₂ m₂ v' y_ st₂ H₂ k₂ sm₂ => .standAt (.operate ?_)
 have := aR1 (own := []) ok H₂ R (op := op) (VR.step st₂ k) k₂
 intro hne
 refine wpAny_mono (this (Res.bind_ne hne)) (fun u s' p => ?_) fun y_ y_ p => p
 obtain ⟨v, m', io', e, a1, a2, a3, a4⟩ := p
 cases a3
 exact ⟨.bool v, m', io', by show (aJ1 op x v' m₂).bind _ = _; rw [e]; rfl, a1, a2, .bool v, a4⟩
theorem dC2 (ok : WOk W) (R : AR A fs n) {op : CmpOp} {op' : CmpOp} {ops : List CmpOp} {b' : Expr} {rest : List Expr} {cc : V -> Lo -> Mn V} (hb : SiE W A fs env vis (eval b env) cb)
  (hc : SiC W A fs env vis (fun u => compareChain pos u (op' :: ops) (markedEach (op' :: ops) (b' :: rest) (evalEach (b' :: rest) env))) cc) :
  SiC W A fs env vis (fun u => compareChain pos u (op :: op' :: ops) (markedEach (op :: op' :: ops) (b :: b' :: rest) (evalEach (b :: b' :: rest) env))) (fun x r => bnd (cb r) fun y => bnd (aJ1 op x y) fun c => if c then cc y r else ret (.bool false)) := by
 intro s io m r x u Z k
 show Si W [] A fs (VP W) (PySem.holding [u] (eval b env) >>= fun rv => PySem.standAt pos >>= fun y_ => PySem.holding [u, rv] (compareOp op u rv) >>= fun c => release [u, rv] [c] >>= fun y_ => PySem.holding [c, rv] (truthy c) >>= fun t => if t then compareChain pos rv (op' :: ops) (markedEach (op' :: ops) (b' :: rest) (evalEach (b' :: rest) env)) else Pure.pure c) s io m _
 refine Si.bind (Si.holding (hb _ _ _ r Z)) fun u' s₂ io₂ m₂ v' y_ st₂ H₂ k₂ sm₂ => .standAt ?_
 refine Si.bind (Si.holding (aR1 ok H₂ R (VR.step st₂ k) k₂)) fun u₃ s₃ io₃ m₃ v₃ y_ st₃ H₃ k₃ sm₃ => ?_
 cases k₃
 have : Si W [] A fs (VP W) (PySem.holding [.bool v₃, u'] (truthy (.bool v₃)) >>= fun t => if t then compareChain pos u' (op' :: ops) (markedEach (op' :: ops) (b' :: rest) (evalEach (b' :: rest) env)) else Pure.pure (.bool v₃)) s₃ io₃ m₃ ((if v₃ then cc v' r else ret (.bool false)) m₃) := by
  intro hne
  refine wpAny_bind (wpAny_holding (wpAny_truthy_bool ?_))
  cases v₃
  ·exact Si.pure (own := []) (A := A) (fs := fs) H₃ (.bool false) hne
  ·exact hc _ _ _ r v' u' ((Z.step H₂ st₂).step H₃ st₃) (VR.step st₃ k₂) hne
 exact fun hne => wpAny_bind (wpAny_release (this hne))
theorem t_one (ok : WOk W) (R : AR A fs n) {op : CmpOp} (hm : behindInMarks op b = false) (hb : SiE W A fs env vis (eval b env) cb) :
  dD2 W A fs env vis (fun u => testChain pos u [op] (markedEach [op] [b] (evalEach [b] env))) (fun x r => bnd (cb r) fun y => bnd (aJ1 op x y) fun c => ret (.bool c)) := by
 intro s io m r x u Z k
 show Si W [] A fs BP (testChain pos u [op] (markedEach [op] [b] (evalEach [b] env))) s io m _
 rw [aM1 hm, bU]
 refine Si.bind (Si.holding (hb _ _ _ r Z)) fun u' s₂ io₂ m₂ v' y_ st₂ H₂ k₂ sm₂ => .standAt ?_
 rw [bU]
 refine Si.bind (Si.operate (aR1 ok H₂ R (VR.step st₂ k) k₂)) fun u₃ s₃ io₃ m₃ v₃ y_ st₃ H₃ k₃ sm₃ => .holding ?_
 cases k₃
 exact fun y_ => wpAny_truthy_bool ⟨v₃, m₃, io₃, rfl, .refl, H₃, rfl, .refl _⟩
theorem cW4 (ok : WOk W) (R : AR A fs n) {op : CmpOp} {op' : CmpOp} {ops : List CmpOp} {b' : Expr} {rest : List Expr} {cc : V -> Lo -> Mn V} (hb : SiE W A fs env vis (eval b env) cb)
  (hc : dD2 W A fs env vis (fun u => testChain pos u (op' :: ops) (markedEach (op' :: ops) (b' :: rest) (evalEach (b' :: rest) env))) cc) :
  dD2 W A fs env vis (fun u => testChain pos u (op :: op' :: ops) (markedEach (op :: op' :: ops) (b :: b' :: rest) (evalEach (b :: b' :: rest) env))) (fun x r => bnd (cb r) fun y => bnd (aJ1 op x y) fun c => if c then cc y r else ret (.bool false)) := by
 intro s io m r x u Z k
 show Si W [] A fs BP (PySem.holding [u] (eval b env) >>= fun rv => PySem.standAt pos >>= fun y_ => PySem.holding [u, rv] (compareOp op u rv) >>= fun c => release [u, rv] [c] >>= fun y_ => PySem.holding [c, rv] (truthy c) >>= fun t => if t then testChain pos rv (op' :: ops) (markedEach (op' :: ops) (b' :: rest) (evalEach (b' :: rest) env)) else Pure.pure false) s io m _
 rw [bU]
 refine Si.bind (Si.holding (hb _ _ _ r Z)) fun u' s₂ io₂ m₂ v' y_ st₂ H₂ k₂ sm₂ => .standAt ?_
 rw [bU]
 refine Si.bind (Si.holding (aR1 ok H₂ R (VR.step st₂ k) k₂)) fun u₃ s₃ io₃ m₃ v₃ y_ st₃ H₃ k₃ sm₃ => ?_
 cases k₃
 have : Si W [] A fs BP (PySem.holding [.bool v₃, u'] (truthy (.bool v₃)) >>= fun t => if t then testChain pos u' (op' :: ops) (markedEach (op' :: ops) (b' :: rest) (evalEach (b' :: rest) env)) else Pure.pure false) s₃ io₃ m₃ (bnd (if v₃ then cc v' r else ret (.bool false)) eC m₃) := by
  intro hne
  refine wpAny_bind (wpAny_holding (wpAny_truthy_bool ?_))
  cases v₃
  ·exact Si.pure (own := []) (A := A) (fs := fs) (v := false) H₃ rfl hne
  ·exact hc _ _ _ r v' u' ((Z.step H₂ st₂).step H₃ st₃) (VR.step st₃ k₂) hne
 exact fun hne => wpAny_bind (wpAny_release (this hne))
theorem e_cmp {ops : List CmpOp} {bs : List Expr} {cc : V -> Lo -> Mn V} (ha : SiE W A fs env vis (eval a env) ca) (hc : SiC W A fs env vis (fun u => compareChain pos u ops (markedEach ops bs (evalEach bs env))) cc) :
  SiE W A fs env vis (eval (.Compare a ops bs pos) env) (fun r => bnd (ca r) fun x => cc x r) := by
 intro s io m r Z
 rw [arm_eval_Compare]
 exact Si.bind (ha s io m r Z) fun u s₁ io₁ m₁ v y_ st H₁ k sm => hc _ _ _ r v u (Z.step H₁ st) k
theorem t_cmp {ops : List CmpOp} {bs : List Expr} {cc : V -> Lo -> Mn V} {whole : Sem Value} (ha : SiE W A fs env vis (eval a env) ca) (hc : dD2 W A fs env vis (fun u => testChain pos u ops (markedEach ops bs (evalEach bs env))) cc) :
  SiB W A fs env vis (isTrue (.Compare a ops bs pos) env whole) (fun r => bnd (bnd (ca r) fun x => cc x r) eC) := by
 intro s io m r Z
 show Si W [] A fs BP _ s io m (bnd (bnd (ca r) fun x => cc x r) eC m)
 rw [bU]
 show Si W [] A fs BP (eval a env >>= fun u => testChain pos u ops (markedEach ops bs (evalEach bs env))) s io m _
 exact Si.bind (ha s io m r Z) fun u s₁ io₁ m₁ v y_ st H₁ k sm => hc _ _ _ r v u (Z.step H₁ st) k
theorem t_val (ha : SiE W A fs env vis (eval a env) ca) (hs : isTrue a env (eval a env) = (do let v <- eval a env; PySem.standAt a.pos; PySem.holding [v] (truthy v))) : SiB W A fs env vis (isTrue a env (eval a env)) (fun r => bnd (ca r) eC) := by
 intro s io m r Z
 rw [hs]
 exact Si.bind (ha s io m r Z) fun u s₁ io₁ m₁ v y_ st H₁ k sm => .standAt (.holding (aG3 H₁ k))
theorem t_not {ct : Lo -> Mn Bool} {whole : Sem Value} (ha : SiB W A fs env vis (isTrue a env (eval a env)) ct) : SiB W A fs env vis (isTrue (.UnaryOp .Not a pos) env whole) (fun r => bnd (ct r) fun b => ret (!b)) := by
 intro s io m r Z
 show Si W [] A fs BP (isTrue a env (eval a env) >>= fun b => Pure.pure (!b)) s io m _
 refine Si.bind (ha s io m r Z) fun u s₁ io₁ m₁ v y_ st H₁ k sm => ?_
 cases k
 exact .pure H₁ rfl
theorem t_nil {op : BoolOp} {c : Bool} (hop : (op = .And /\ c = true) \/ (op = .Or /\ c = false)) : SiB W A fs env vis (allTrue op [] env) (fun y_ => ret c) := by
 intro s io m r Z
 rcases hop with ⟨rfl, rfl⟩ | ⟨rfl, rfl⟩
 ·exact .pure (u := true) Z.H rfl
 ·exact .pure (u := false) Z.H rfl
theorem cW5 {op : BoolOp} {c : Bool} {rest : List Expr} {ct cts : Lo -> Mn Bool} (hop : (op = .And /\ c = true) \/ (op = .Or /\ c = false)) (ha : SiB W A fs env vis (isTrue a env (eval a env)) ct) (hb : SiB W A fs env vis (allTrue op rest env) cts) :
  SiB W A fs env vis (allTrue op (a :: rest) env) (fun r => bnd (ct r) fun b => if b == c then cts r else ret b) := by
 intro s io m r Z
 rcases hop with ⟨rfl, rfl⟩ | ⟨rfl, rfl⟩ <;>
 refine Si.bind (ha s io m r Z) fun t s₁ io₁ m₁ v y_ st H₁ k sm => ?_ <;>
 cases k <;> cases v
 ·exact .pure H₁ rfl
 ·exact hb _ _ _ r (Z.step H₁ st)
 ·exact hb _ _ _ r (Z.step H₁ st)
 ·exact .pure H₁ rfl
theorem t_all {op : BoolOp} {es : List Expr} {whole : Sem Value} {ct : Lo -> Mn Bool} (h : SiB W A fs env vis (allTrue op es env) ct) : SiB W A fs env vis (isTrue (.BoolOp op es pos) env whole) ct := h
noncomputable def SiO (W : Wd) (A : Around) (fs : List Env) (env : Env) (vis : List (Option Str)) (o : Option Expr) (c : Lo -> Mn V) : Prop := SiE W A fs env vis (valueOrNone (evalOpt o env)) c
theorem cX9 : SiO W A fs env vis none (fun y_ => ret .none) := fun y_ y_ y_ y_ Z => .pure Z.H .none
theorem cX8 (ha : SiE W A fs env vis (eval a env) ca) : SiO W A fs env vis (some a) ca := ha
noncomputable def SlP (W : Wd) (h : Heap) (io : Io) (p : V × V × V) (u : Value) : Prop := ∃ sl ul uh us, u = .ref sl /\ h.IsSliceOf sl ul uh us /\ VR W h io p.1 ul /\ VR W h io p.2.1 uh /\ VR W h io p.2.2 us
theorem cE8 {lo hi st : Option Expr} {cl ch cs : Lo -> Mn V} (hl : SiO W A fs env vis lo cl) (hh : SiO W A fs env vis hi ch) (hs : SiO W A fs env vis st cs) (Z : Sit W fs env vis s io m r) :
  Si W [] A fs (SlP W) (eval (.Slice lo hi st pos) env) s io m (bnd (cl r) (fun l => bnd (ch r) fun h => bnd (cs r) fun t => ret (l, h, t)) m) := by
 rw [arm_eval_Slice]
 refine Si.bind (hl _ _ _ r Z) fun ul s₁ io₁ m₁ vl y_ st₁ H₁ k₁ y_ => ?_
 have Z₁ := Z.step H₁ st₁
 refine Si.bind (Si.holding (hh _ _ _ r Z₁)) fun uh s₂ io₂ m₂ vh y_ st₂ H₂ k₂ y_ => ?_
 have Z₂ := Z₁.step H₂ st₂
 refine Si.bind (Si.holding (hs _ _ _ r Z₂)) fun us s₃ io₃ m₃ vs y_ st₃ H₃ k₃ y_ => ?_
 have st4 : Step [] (frs fs) s₃.heap io₃ m₃ (s₃.heap.push { cls := .type "slice", data := .fields #[ul, uh, us] }) io₃ m₃ := .of_keeps H₃ (aL _)
 exact fun y_ => wpAny_mono (Q := fun v s' => v = .ref s₃.heap.objs.size /\ s' = { s₃ with heap := s₃.heap.push { cls := .type "slice", data := .fields #[ul, uh, us] } }) (fun y_ y_ y_ => ⟨rfl, rfl⟩) (fun v s' q => by
  rcases q with ⟨rfl, rfl⟩
  exact ⟨_, m₃, io₃, rfl, st4, H₃.of_keeps (aL _), ⟨_, ul, uh, us, rfl, .new _ _ _ _, ((VR.step st₂ k₁).step st₃).step st4, (VR.step st₃ k₂).step st4, VR.step st4 k₃⟩, .refl _⟩) fun y_ y_ q => q
theorem cS0 {lo hi st : Option Expr} {cl ch cs : Lo -> Mn V} {pos' : Pos} (ha : SiE W A fs env vis (eval a env) ca) (hl : SiO W A fs env vis lo cl) (hh : SiO W A fs env vis hi ch) (hs : SiO W A fs env vis st cs) :
  SiE W A fs env vis (eval (.Subscript a (.Slice lo hi st pos') pos) env) (fun r => bnd (ca r) fun x => bnd (cl r) fun l => bnd (ch r) fun h => bnd (cs r) fun t => dI x l h t) := by
 intro s io m r Z
 rw [arm_eval_Subscript]
 refine Si.bind (ha s io m r Z) fun u s₁ io₁ m₁ v y_ st₁ H₁ k₁ y_ => ?_
 have e : (bnd (cl r) fun l => bnd (ch r) fun h => bnd (cs r) fun t => dI v l h t) = bnd (bnd (cl r) fun l => bnd (ch r) fun h => bnd (cs r) fun t => ret (l, h, t)) fun p => dI v p.1 p.2.1 p.2.2 := by
  simp only [bU]; rfl
 rw [e]
 refine Si.bind (Si.holding (cE8 hl hh hs (Z.step H₁ st₁))) fun u' s₂ io₂ m₂ p y_ st₂ H₂ k₂ sm₂ => .standAt ?_
 obtain ⟨sl, ul, uh, us, rfl, q1, q2, q3, q4⟩ := k₂
 exact bP3 H₂ (VR.step st₂ k₁) q2 q3 q4 q1
end
end Mini
namespace Mini
open PySem PySem.W
structure Gl (W : Wd) (K : Frag) : Prop where
 ok : WOk W
 X : K.In W.base
 top : ∃ mg mb, W.base.Ns mainGlobals mg /\ W.base.Ns builtinsNs mb /\ (∀ x : Str, x ≠ "__name__" -> mb x = bootBuiltins x) /\ ∃ pp loose, TopRead pp loose mg mb W.base
section
variable {W : Wd} {K : Frag} {fs : List Env} {env : Env} {vis : List (Option Str)} {s s' : Shared} {io io' : Io} {m m' : MH} {r : Lo} {fr : List Addr} {A : Around} {n : Nat} {pos p : Pos}
theorem HR.get (H : HR W s.heap io m) (gl : Gl W K) {a : Addr} {o : Obj} (h : K.lookup a = some o) : s.heap.get? a = some o := H.keep _ _ (gl.X _ _ h)
theorem bR4 {x : Str} {v : Value} {Q : Value -> Shared -> Prop} {E : Value -> Shared -> Prop} {M : Model} (gl : Gl W K) (Z : Sit W fs env vis s io m r) (e : nsIn K mainGlobals x = some (some v)) (hx : env.kindOf x = some .globalImplicit) (hd : (x == ("__debug__" : Str)) = false) (h : Q v s) : wpAny M A (eval (.Name x p) env) Q E s := by
 obtain ⟨mg, mb, g, b, y_⟩ := gl.top
 refine Calls.Name_function_global Z.F.kind hx (Calls.loadGlobal_global (mg := mg) ?_ (mg_of gl.X g e) h) hd
 rw [Z.F.glob]; exact g.keeps Z.H.keep
theorem fI {x : Str} {v : Value} {Q : Value -> Shared -> Prop} {E : Value -> Shared -> Prop} {M : Model} (gl : Gl W K) (Z : Sit W fs env vis s io m r) (e : nsIn K mainGlobals x = some none) (hv : bootBuiltins x = some v) (hn : (x == ("__name__" : Str)) = false) (hx : env.kindOf x = some .globalImplicit) (hd : (x == ("__debug__" : Str)) = false) (h : Q v s) : wpAny M A (eval (.Name x p) env) Q E s := by
 obtain ⟨mg, mb, g, b, hb, y_⟩ := gl.top
 have hn' : x ≠ "__name__" := fun q => by rw [q] at hn; simp at hn
 refine Calls.Name_function_global Z.F.kind hx (Calls.loadGlobal_builtin (mg := mg) (mb := mb) ?_ (mg_none_of gl.X g e) ?_ (by rw [hb x hn', hv]) h) hd
 ·rw [Z.F.glob]; exact g.keeps Z.H.keep
 ·rw [Z.F.blt]; exact b.keeps Z.H.keep
noncomputable def cP5 : Expr -> Bool
 | .Starred _ _ => true
 | _ => false
noncomputable def aS : List Expr -> Bool
 | [] => true
 | e :: r => !cP5 e && aS r
theorem eJ {e : Expr} {rest : List Expr} (h : aS (e :: rest) = true) : starEach (e :: rest) env = (false, eval e env) :: starEach rest env := by
 cases e <;> first | rfl | (exact absurd h Bool.false_ne_true)
theorem fR {e : Expr} {rest : List Expr} (h : aS (e :: rest) = true) : aS rest = true := by
 cases e <;> first | exact h | (exact absurd h Bool.false_ne_true)
theorem cU {es : List Expr} (h : aS es = true) : (backTo pos (starEach es env)).any (·.1) = false := by
 induction es with
 | nil => rfl
 | cons e rest ih => rw [eJ h]; exact ih (fR h)
theorem cM {M : Model} {E : Value -> Shared -> Prop} {f : Value} {es : List Expr} {Q : Args -> Shared -> Prop} (hs : aS es = true) (h : wpAny M A (spliced (backTo pos (starEach es env))) (fun vs s' => Q ⟨vs, []⟩ s') E s) :
  wpAny M A (evalArgs f true (backTo pos (starEach es env)) []) Q E s := by
 cases es with
 | nil =>
  unfold evalArgs
  show wpAny M A (spliced [] >>= _) Q E s
  refine wpAny_bind (wpAny_mono (show wpAny M A (spliced []) (fun vs s' => Q ⟨vs, []⟩ s') E s from h) (fun vs s' q => ?_) fun y_ y_ x => x)
  refine wpAny_bind (wpAny_pure ?_)
  refine wpAny_holding ?_
  exact wpAny_bind (wpAny_pure (wpAny_bind (wpAny_pure (wpAny_pure q))))
 | cons e rest =>
  rw [eJ hs] at h ⊢
  exact Calls.evalArgs_plain h
variable {es : List Expr} {cl : Lo -> Mn (List V)} {Fk : List V -> Mn V}
noncomputable def SiF (W : Wd) (A : Around) (fs : List Env) (f : Value) (Fk : List V -> Mn V) : Prop :=
 ∀ (s : Shared) (io : Io) (m : MH) (vs : List V) (us : List Value), HR W s.heap io m -> FF W s.heap io fs -> VRs W s.heap io vs us -> Si W [] A fs (VP W) (call f us) s io m (Fk vs m)
noncomputable def SiK (W : Wd) (A : Around) (fs : List Env) (f : Value) (Fk : List V -> Mn V) : Prop :=
 ∀ (s : Shared) (io : Io) (m : MH) (vs : List V) (us : List Value), HR W s.heap io m -> FF W s.heap io fs -> VRs W s.heap io vs us -> Fk vs m ≠ .bad ->
  codeAny (model W.prog W.w) A (.call f ⟨us, []⟩) (fun r s' => match r with | .ok (.ret v) => NP W [] (frs fs) s io m (VP W) (Fk vs m) v s' | .ok _ => False | .error e => NX e s') s
theorem SiK.f {f : Value} {Fk : List V -> Mn V} (x : SiK W A fs f Fk) : SiF W A fs f Fk := fun s io m vs us H G hu hne => wpAny_call (x s io m vs us H G hu hne)
noncomputable def born (A : Around) : Around := { A with depth := A.depth + 1, units := A.units + 1 }
theorem cS5 {x : Str} {id : String} (gl : Gl W K) (e : nsIn K mainGlobals x = some none) (hv : bootBuiltins x = some (.builtin id)) (hn : (x == ("__name__" : Str)) = false) (hx : env.kindOf x = some .globalImplicit) (hd : (x == ("__debug__" : Str)) = false) (hs : aS es = true)
  (hl : SiL W A fs env vis (spliced (backTo pos (starEach es env))) cl) (hf : SiF W A fs (.builtin id) Fk) : SiE W A fs env vis (eval (.Call (.Name x p) es [] pos) env) (fun r => bnd (cl r) fun vs => Fk vs) := by
 intro s io m r Z hne
 refine wpAny_Call_NameR (fI gl Z e hv hn hx hd (Calls.callWith_builtin (cU hs) (cM hs ?_)))
 refine wpAny_mono (hl s io m r Z (Res.bind_ne hne)) (fun us s' q => ?_) fun y_ y_ q => q
 obtain ⟨vs, m', io', e', st, H, k, sm⟩ := q
 have hne' : Fk vs m' ≠ .bad := fun q => hne (by show (cl r m).bind _ = _; rw [e']; exact q)
 have ee : bnd (cl r) (fun vs => Fk vs) m = Fk vs m' := by show (cl r m).bind _ = _; rw [e']; rfl
 show wpAny (model W.prog W.w) A (call (.builtin id) us) (NP W [] (frs fs) s io m (VP W) (bnd (cl r) (fun vs => Fk vs) m)) NX s'
 rw [ee]
 exact wpAny_mono (hf _ _ _ _ _ H (Z.G.step0 st) k hne') (fun y_ y_ z => z.mono st sm) fun y_ y_ z => z
theorem cS3 {x : Str} {id : String} (gl : Gl W K) (e : nsIn K mainGlobals x = some none) (hv : bootBuiltins x = some (.type id)) (hn : (x == ("__name__" : Str)) = false) (hx : env.kindOf x = some .globalImplicit) (hd : (x == ("__debug__" : Str)) = false) (hs : aS es = true)
  (hl : SiL W A fs env vis (spliced (backTo pos (starEach es env))) cl) (hf : SiF W A fs (.type id) Fk) : SiE W A fs env vis (eval (.Call (.Name x p) es [] pos) env) (fun r => bnd (cl r) fun vs => Fk vs) := by
 intro s io m r Z hne
 refine wpAny_Call_NameR (fI gl Z e hv hn hx hd (callWith_type (cU hs) (cM hs ?_)))
 refine wpAny_mono (hl s io m r Z (Res.bind_ne hne)) (fun us s' q => ?_) fun y_ y_ q => q
 obtain ⟨vs, m', io', e', st, H, k, sm⟩ := q
 have hne' : Fk vs m' ≠ .bad := fun q => hne (by show (cl r m).bind _ = _; rw [e']; exact q)
 have ee : bnd (cl r) (fun vs => Fk vs) m = Fk vs m' := by show (cl r m).bind _ = _; rw [e']; rfl
 show wpAny (model W.prog W.w) A (call (.type id) us) (NP W [] (frs fs) s io m (VP W) (bnd (cl r) (fun vs => Fk vs) m)) NX s'
 rw [ee]
 exact wpAny_mono (hf _ _ _ _ _ H (Z.G.step0 st) k hne') (fun y_ y_ z => z.mono st sm) fun y_ y_ z => z
theorem cS4 {x : Str} {a : Addr} {o : Obj} {fd : FuncData} (gl : Gl W K) (e : nsIn K mainGlobals x = some (some (.ref a))) (ho : K.lookup a = some o) (hdata : o.data = .func fd) (hx : env.kindOf x = some .globalImplicit) (hd : (x == ("__debug__" : Str)) = false) (hs : aS es = true)
  (hl : SiL W A fs env vis (spliced (backTo pos (starEach es env))) cl) (hf : SiF W A fs (.ref a) Fk) : SiE W A fs env vis (eval (.Call (.Name x p) es [] pos) env) (fun r => bnd (cl r) fun vs => Fk vs) := by
 intro s io m r Z hne
 refine wpAny_Call_NameR (bR4 gl Z e hx hd (Calls.callWith_function (o := o) (fd := fd) (cM hs ?_)))
 refine wpAny_mono (hl s io m r Z (Res.bind_ne hne)) (fun us s' q => ?_) fun y_ y_ q => q
 obtain ⟨vs, m', io', e', st, H, k, sm⟩ := q
 have hne' : Fk vs m' ≠ .bad := fun q => hne (by show (cl r m).bind _ = _; rw [e']; exact q)
 have ee : bnd (cl r) (fun vs => Fk vs) m = Fk vs m' := by show (cl r m).bind _ = _; rw [e']; rfl
 refine ⟨⟨H.get gl ho, hdata⟩, ?_⟩
 show wpAny (model W.prog W.w) A (call (.ref a) us) (NP W [] (frs fs) s io m (VP W) (bnd (cl r) (fun vs => Fk vs) m)) NX s'
 rw [ee]
 exact wpAny_mono (hf _ _ _ _ _ H (Z.G.step0 st) k hne') (fun y_ y_ z => z.mono st sm) fun y_ y_ z => z
end
end Mini
namespace Mini
open PySem PySem.W
noncomputable def cA (env : Env) : List Addr := env.locals :: env.cells.filterMap fun q => env.cells.lookup q.1
structure Stt (W : Wd) (fs : List Env) (env : Env) (vis : List (Option Str)) (s : Shared) (io : Io) (m : MH) (r : Lo) : Prop where
 H : HR W s.heap io m
 F : FR W s.heap io env vis r
 G : FF W s.heap io fs
 fr : env.frame = some env.locals
 dis : ∀ L ∈ frs fs, L ∉ cA env
inductive FlR (W : Wd) (h : Heap) (io : Io) : Fl -> Flow -> Prop
 | next : FlR W h io .next .next
 | cont : FlR W h io .cont .cont
 | ret {v : V} {u : Value} : VR W h io v u -> FlR W h io (.ret v) (.ret u)
noncomputable abbrev SP (W : Wd) (env : Env) (vis : List (Option Str)) : Heap -> Io -> Fl × Lo -> Flow -> Prop := fun h io p f => FlR W h io p.1 f /\ FR W h io env vis p.2
noncomputable abbrev RP (W : Wd) (env : Env) (vis : List (Option Str)) : Heap -> Io -> Lo -> Unit -> Prop := fun h io r y_ => FR W h io env vis r
section
variable {W : Wd} {fs : List Env} {env : Env} {vis : List (Option Str)} {s s' : Shared} {io io' : Io} {m m' : MH} {r r' : Lo} {fr own own' : List Addr} {A : Around} {n : Nat} {pos p : Pos}
theorem Step.wk {h h' : Heap} (x : Step own fr h io m h' io' m') (k : ∀ b ∈ own, b ∈ own') : Step own' fr h io m h' io' m' :=
 ⟨x.alive, x.solid, fun b o e f1 f2 => x.keep b o e f1 fun q => f2 (k b q), fun b o e f1 f2 => x.slots b o e f1 fun q => f2 (k b q), x.grow, x.dicts⟩
theorem Stt.sit (Z : Stt W fs env vis s io m r) : Sit W (env :: fs) env vis s io m r := by
 refine ⟨Z.H, Z.F, fun e he => ?_⟩
 rcases List.mem_cons.mp he with rfl | he
 ·obtain ⟨mp, ⟨o, es, ep, ho, hd, y_⟩, y_⟩ := Z.F.loc
  exact ⟨by rw [Z.F.kind]; simp, e.locals, o, es, ep, Z.fr, Z.F.fresh, Z.F.nofoot, ho, hd⟩
 ·exact Z.G e he
theorem Stt.step (Z : Stt W fs env vis s io m r) (H : HR W s'.heap io' m') (st : Step [] fr s.heap io m s'.heap io' m') : Stt W fs env vis s' io' m' r := ⟨H, Z.F.step0 Z.H st, Z.G.step0 st, Z.fr, Z.dis⟩
theorem Stt.stepO (Z : Stt W fs env vis s io m r) (H : HR W s'.heap io' m') (st : Step (cA env) fr s.heap io m s'.heap io' m') (F : FR W s'.heap io' env vis r') : Stt W fs env vis s' io' m' r' := ⟨H, F, Z.G.step st Z.dis, Z.fr, Z.dis⟩
theorem dO {o : Obj} {es : Array DictEntry} {k : Nat} (h : o.data = .dict es k) : ¬ c8 o := by
 rintro (⟨_, _, _, e⟩ | ⟨_, _, _, e⟩) <;> rw [h] at e <;> cases e
theorem aJ9 {o : Obj} {v : Option Value} (h : o.data = .cell v) : ¬ c8 o := by
 rintro (⟨_, _, _, e⟩ | ⟨_, _, _, e⟩) <;> rw [h] at e <;> cases e
theorem bO3 (Z : Stt W fs env vis s io m r) {i : Nat} {x : Str} {v : V} {u : Value} (hv : vis[i]? = some (some x)) (hk : env.kindOf x = some .local \/ env.kindOf x = some .cell) (k : VR W s.heap io v u) :
  Si W (cA env) A (env :: fs) (RP W env vis) (storeName env x u) s io m (.ok (r.set i (some v)) m) := by
 intro y_
 have hi : i < vis.length := (List.getElem?_eq_some_iff.mp hv).1
 have F := Z.F
 have row : ∀ (j : Nat) (y : Str) (w : V), vis[j]? = some (some y) -> (r.set i (some v))[j]? = some (some w) -> (y = x /\ w = v) \/ (y ≠ x /\ r[j]? = some (some w)) := by
  intro j y w h1 h2
  by_cases q : i = j
  ·subst q
   rw [List.getElem?_set_self (by rw [F.len]; exact hi)] at h2
   rw [hv] at h1
   cases h1; cases h2; exact .inl ⟨rfl, rfl⟩
  ·rw [List.getElem?_set_ne q] at h2
   refine .inr ⟨fun e => q (F.inj i j x hv (e ▸ h1)), h2⟩
 rcases hk with hk | hk
 ·refine hide fun G_ g_ => ?_
  rcases F.loc with ⟨mp, hn, hl⟩
  rcases id hn with ⟨oL, esL, epL, hoL, hdL, y_⟩
  refine g_ ?_
  clear g_ G_
  refine wpAny_storeName_local hk hn (fun h' hn' hs => ?_) (by rw [F.kind]; rfl)
  have kk : ∀ b o, b ≠ env.locals -> s.heap.get? b = some o -> h'.get? b = some o := fun b o q e => (hs.2 b q).trans e
  have lv : ∀ o, s.heap.get? env.locals = some o -> ¬ c8 o /\ ∃ o', h'.get? env.locals = some o' := fun o ho => by
   rw [hoL] at ho; cases ho
   obtain ⟨o', y_, y_, ho', y_⟩ := id hn'
   exact ⟨dO hdL, o', ho'⟩
  have st : Step (cA env) (frs (env :: fs)) s.heap io m h' io m := aA4 Z.H (L := env.locals) (by simp [cA]) kk lv F.nofoot
  have H' : HR W h' io m := Z.H.ofOwn (own := cA env) (L := env.locals) (by simp [cA]) kk lv F.nofoot F.fresh
  refine ⟨_, m, io, rfl, st, H', ?_, rfl, rfl⟩
  refine ⟨F.kind, F.glob, F.blt, F.nofoot, F.fresh, ⟨_, hn', fun j y w h1 h2 h3 => ?_⟩, fun j y w h1 h2 h3 => ?_, fun y c hy => ?_, F.celex, F.apart, F.inj, by simp [F.len]⟩
  ·rcases row j y w h1 h2 with ⟨rfl, rfl⟩ | ⟨q, h2⟩
   ·exact ⟨u, by simp, k.step st⟩
   ·obtain ⟨u', e, k'⟩ := hl j y w h1 h2 h3
    exact ⟨u', by simp [q, e], k'.step st⟩
  ·rcases row j y w h1 h2 with ⟨rfl, rfl⟩ | ⟨q, h2⟩
   ·rw [hk] at h3; simp at h3
   ·obtain ⟨c, u', e, k1, k2⟩ := F.cel j y w h1 h2 h3
    refine ⟨c, u', e, ?_, k2.step st⟩
    obtain ⟨oc, hoc, hdc⟩ := k1
    exact ⟨oc, kk c oc (F.cells y c e).2.2 hoc, hdc⟩
  ·obtain ⟨⟨o, oc, hoc, hdc⟩, k2, k3⟩ := F.cells y c hy
   exact ⟨⟨o, oc, kk c oc k3 hoc, hdc⟩, k2, k3⟩
 ·rcases F.celex i x hv (.inl hk) with ⟨c, hc⟩
  obtain ⟨⟨o0, oc, hoc, hdc⟩, c2, c3⟩ := F.cells x c hc
  have nf : ¬ dE io c := Z.H.nofoot_of_cell hoc hdc
  refine wpAny_storeName_cell F.kind hk hc ⟨oc, hoc, hdc⟩ fun h' hn' hs => ?_
  have kk : ∀ b o, b ≠ c -> s.heap.get? b = some o -> h'.get? b = some o := fun b o q e => (hs.2 b q).trans e
  have lv : ∀ o, s.heap.get? c = some o -> ¬ c8 o /\ ∃ o', h'.get? c = some o' := fun o ho => by
   rw [hoc] at ho; cases ho
   obtain ⟨o', ho', y_⟩ := id hn'
   exact ⟨aJ9 hdc, o', ho'⟩
  have hin : c ∈ cA env := by
   exact List.mem_cons_of_mem _ (List.mem_filterMap.mpr ⟨(x, c), mem_of_lookup hc, hc⟩)
  have st : Step (cA env) (frs (env :: fs)) s.heap io m h' io m := aA4 Z.H (L := c) hin kk lv nf
  have H' : HR W h' io m := Z.H.ofOwn (own := cA env) (L := c) hin kk lv nf c2
  refine ⟨_, m, io, rfl, st, H', ?_, rfl, rfl⟩
  obtain ⟨mp, hn, hl⟩ := F.loc
  have other : ∀ y c', env.cells.lookup y = some c' -> y ≠ x -> c' ≠ c := fun y c' hy q e => q (F.apart y x c (e ▸ hy) hc)
  refine ⟨F.kind, F.glob, F.blt, F.nofoot, F.fresh, ⟨mp, ?_, fun j y w h1 h2 h3 => ?_⟩, fun j y w h1 h2 h3 => ?_, fun y c' hy => ?_, F.celex, F.apart, F.inj, by simp [F.len]⟩
  ·exact hn.sameBut hs (Ne.symm c3)
  ·rcases row j y w h1 h2 with ⟨rfl, rfl⟩ | ⟨q, h2⟩
   ·rw [hk] at h3; simp at h3
   ·obtain ⟨u', e, k'⟩ := hl j y w h1 h2 h3
    exact ⟨u', e, k'.step st⟩
  ·rcases row j y w h1 h2 with ⟨rfl, rfl⟩ | ⟨q, h2⟩
   ·exact ⟨c, u, hc, hn', k.step st⟩
   ·obtain ⟨c', u', e, k1, k2⟩ := F.cel j y w h1 h2 h3
    refine ⟨c', u', e, ?_, k2.step st⟩
    obtain ⟨oc', hoc', hdc'⟩ := k1
    exact ⟨oc', kk c' oc' (other y c' e q) hoc', hdc'⟩
  ·obtain ⟨⟨o, oc', hoc', hdc'⟩, k2, k3⟩ := F.cells y c' hy
   by_cases q : c' = c
   ·subst q; exact ⟨⟨_, hn'⟩, k2, k3⟩
   ·exact ⟨⟨o, oc', kk c' oc' q hoc', hdc'⟩, k2, k3⟩
end
end Mini
namespace Mini
open PySem PySem.W
section
variable {prog : Program} {w : World} {A : Around} {E : Value -> Shared -> Prop} {s : Shared} {it d : Addr} {i ep : Nat} {o : Obj} {es : Array DictEntry}
theorem aV0 {Q : Value -> Shared -> Prop} (hd : (d == sysModules) = false) (ho : s.heap.get? d = some o) (hc : o.ExactDict) (hdat : o.data = .dict es ep)
  (hQ : Q (.ref s.heap.objs.size) { s with heap := s.heap.push { cls := .type "dict_keyiterator", data := .fields #[.ref d, .int 0 0, .int es.size 0, .int ep 0] } }) : wpAny (model prog w) A (pyIter (.ref d)) Q E s := by
 have hT : s.TypeIs (.ref d) "dict" := ⟨o, ho, hc.1⟩
 refine wpAny_pyIter_slot hT F.slot_dict_iter (wpAny_call_entry F.slot_dict_iter hT F.entry_dict_iter ?_ (F.args_dict_iter_1 _))
 unfold Builtin.«dict.__iter__»
 refine wpAny_bind ?_
 unfold Builtin.Dict.dictSlotNone
 refine wpAny_bind (wpAny_notOrdered_dict hT ?_)
 show wpAny _ _ (pure (Value.ref d)) _ _ s
 refine wpAny_pure ?_
 show wpAny _ _ (Builtin.Dict.showsAll d >>= _) _ _ s
 unfold Builtin.Dict.showsAll
 rw [if_neg (by rw [hd]; exact Bool.false_ne_true)]
 refine wpAny_bind (wpAny_pure (wpAny_bind (wpAny_dictEntries ho hdat (wpAny_bind (wpAny_dictEpoch ho hdat ?_)))))
 exact wpAny_bind (wpAny_newObj_type (wpAny_pure ⟨_, rfl, "dict_keyiterator", _, ⟨_, Heap.get?_push_size _ rfl, rfl⟩, F.slot_dict_keyiterator_next.lookup, hQ⟩))
theorem aU9 {Q : Option Value -> Shared -> Prop} (hit : s.heap.IsKeyIter it d i es.size ep) (ho : s.heap.get? d = some o) (hdat : o.data = .dict es ep) (hlt : i < es.size)
  (hQ : ∀ h', h'.IsKeyIter it d (i + 1) es.size ep -> Heap.SameBut it s.heap h' -> Q (some es[i].key) { s with heap := h' }) : wpAny (model prog w) A (pyNext (.ref it)) Q E s := by
 rcases id hit with ⟨oi, hoi, hci, hdi⟩
 unfold pyNext
 refine wpAny_bind (wpAny_attempt (wpAny_callSpecial?_slot (name := Str.ofString "__next__") hit.typeIs F.slot_dict_keyiterator_next
  (wpAny_call_entry F.slot_dict_keyiterator_next hit.typeIs F.entry_dict_keyiterator_next ?_ (F.args_dict_keyiterator_next_1 _))))
 refine wpAny_bind (wpAny_pure (wpAny_bind (wpAny_bind ?_)))
 first | refine wpAny_bind (wpAny_typeNameOfWhole_keyiter hit.typeIs (wpAny_pure ?_)) | refine wpAny_bind (wpAny_typeNameOf_keyiter hit.typeIs (wpAny_pure ?_))
 refine wpAny_bind (wpAny_fieldsOf hoi hdi ?_)
 have hown : Builtin.Dict_items.ownsTuple "dict_keyiterator" = false := by decide
 rw [if_neg (by rw [hown]; exact Bool.false_ne_true)]
 show wpAny _ _ (if (Value.ref d == Value.none) = true then _ else _) _ _ s
 rw [if_neg (show ¬ ((Value.ref d == Value.none) = true) from Bool.false_ne_true)]
 refine wpAny_bind (wpAny_pure (wpAny_bind (wpAny_dictEntries ho hdat ?_)))
 rw [if_neg (by simp)]
 refine wpAny_bind (wpAny_pure (wpAny_bind (wpAny_dictEpoch ho hdat ?_)))
 rw [if_neg (by simp)]
 refine wpAny_pure ?_
 dsimp only
 rw [if_neg (show ¬ ((i : Int) < 0) from Int.not_lt.mpr (Int.natCast_nonneg i)), Int.toNat_natCast, Array.getElem?_eq_getElem hlt]
 refine wpAny_bind ?_
 first | refine wpAny_bind (wpAny_typeNameOfWhole_keyiter hit.typeIs (wpAny_pure ?_)) | refine wpAny_bind (wpAny_typeNameOf_keyiter hit.typeIs (wpAny_pure ?_))
 refine wpAny_bind (wpAny_isOneOf_keyiter hit.typeIs ?_)
 show wpAny _ _ (setField (.ref it) 1 (rawInt ((i : Int) + 1)) >>= _) _ _ s
 refine wpAny_bind (wpAny_setField hoi hdi (by simp) ?_)
 have hit' : (s.heap.update it (Obj.mapFields (·.setIfInBounds 1 (rawInt ((i : Int) + 1))))).IsKeyIter it d (i + 1) es.size ep :=
  ⟨_, Heap.get?_update_self _ hoi (Obj.isFreed_of_fields (Obj.data_mapFields hdi _)), (Obj.cls_mapFields ..).trans hci, by rw [Obj.data_mapFields hdi]; simp [rawInt]⟩
 refine wpAny_bind (wpAny_holding ?_)
 refine wpAny_bind (wpAny_isOneOf_keyiter (s := { s with heap := s.heap.update it (Obj.mapFields (·.setIfInBounds 1 (rawInt ((i : Int) + 1)))) }) hit'.typeIs ?_)
 show wpAny _ _ (pure es[i].key) _ _ _
 exact wpAny_pure (wpAny_pure ⟨_, rfl, wpAny_pure (hQ _ hit' (Heap.SameBut.update ..))⟩)
theorem bE9 {Q : Option Value -> Shared -> Prop} (hh : A.handled = none) (hit : s.heap.IsKeyIter it d i es.size ep) (ho : s.heap.get? d = some o) (hdat : o.data = .dict es ep) (hge : es.size <= i)
  (hQ : ∀ h', Heap.ExtBut it s.heap h' -> Q none { s with heap := h' }) : wpAny (model prog w) A (pyNext (.ref it)) Q E s := by
 rcases id hit with ⟨oi, hoi, hci, hdi⟩
 unfold pyNext
 refine wpAny_bind (wpAny_attempt (wpAny_callSpecial?_slot (name := Str.ofString "__next__") hit.typeIs F.slot_dict_keyiterator_next
  (wpAny_call_entry F.slot_dict_keyiterator_next hit.typeIs F.entry_dict_keyiterator_next ?_ (F.args_dict_keyiterator_next_1 _))))
 refine wpAny_bind (wpAny_pure (wpAny_bind (wpAny_bind ?_)))
 first | refine wpAny_bind (wpAny_typeNameOfWhole_keyiter hit.typeIs (wpAny_pure ?_)) | refine wpAny_bind (wpAny_typeNameOf_keyiter hit.typeIs (wpAny_pure ?_))
 refine wpAny_bind (wpAny_fieldsOf hoi hdi ?_)
 have hown : Builtin.Dict_items.ownsTuple "dict_keyiterator" = false := by decide
 rw [if_neg (by rw [hown]; exact Bool.false_ne_true)]
 show wpAny _ _ (if (Value.ref d == Value.none) = true then _ else _) _ _ s
 rw [if_neg (show ¬ ((Value.ref d == Value.none) = true) from Bool.false_ne_true)]
 refine wpAny_bind (wpAny_pure (wpAny_bind (wpAny_dictEntries ho hdat ?_)))
 rw [if_neg (by simp)]
 refine wpAny_bind (wpAny_pure (wpAny_bind (wpAny_dictEpoch ho hdat ?_)))
 rw [if_neg (by simp)]
 refine wpAny_pure ?_
 dsimp only
 rw [if_neg (show ¬ ((i : Int) < 0) from Int.not_lt.mpr (Int.natCast_nonneg i)), Int.toNat_natCast, Array.getElem?_eq_none hge]
 refine wpAny_bind ?_
 first | refine wpAny_bind (wpAny_typeNameOfWhole_keyiter hit.typeIs (wpAny_pure ?_)) | refine wpAny_bind (wpAny_typeNameOf_keyiter hit.typeIs (wpAny_pure ?_))
 show wpAny _ _ (setField (.ref it) 0 .none >>= _) _ _ s
 refine wpAny_bind (wpAny_setField hoi hdi (by simp) ?_)
 show wpAny _ _ (newExc (.type "StopIteration") [] >>= _) _ _ _
 refine wpAny_bind ?_
 simp only [newExc, newTuple]
 refine wpAny_bind (wpAny_newObj_type ?_ (by size_fits))
 refine wpAny_bind (m := firstArgMember _ _) (wpAny_of_eq (a := Value.none) (by first | rfl | (simp only [firstArgMember]; rfl)) ?_)
 refine wpAny_newObj_type ?_ (by size_fits)
 unfold raiseNew
 refine wpAny_bind (wpAny_handled ?_)
 rw [show A.in1.handled = none from hh]
 refine wpAny_bind (wpAny_pure (wpAny_throw ?_))
 refine wpAny_bind (wpAny_isInstance (T := "StopIteration") (b := true) ⟨_, Heap.get?_push_size _ rfl, rfl⟩ isSubtype_stop ?_)
 exact wpAny_pure (hQ _ (((Heap.SameBut.update ..).extBut.push _).push _))
end
end Mini
namespace Mini
open PySem PySem.W
section
variable {W : Wd} {h h' : Heap} {fs : List Env} {env : Env} {vis : List (Option Str)} {s s' : Shared} {io io' io₀ : Io} {m m' m₀ : MH} {r r' : Lo} {fr own own' : List Addr} {A : Around} {n : Nat} {pos p : Pos}
noncomputable def Sol (h h' : Heap) : Prop := ∀ b o, h.get? b = some o -> c8 o -> h'.get? b = some o
theorem VR.sol (x : Sol h h') {v : V} {u : Value} (k : VR W h io v u) : VR W h' io v u := k.mono x fun y_ y_ e => e
theorem VRs.sol (x : Sol h h') {v : List V} {u : List Value} (k : VRs W h io v u) : VRs W h' io v u := k.mono x fun y_ y_ e => e
theorem ERs.sol (x : Sol h h') {kvs : List (Ky × V)} {es : List DictEntry} (e : ERs W h io kvs es) : ERs W h' io kvs es := e.mono x fun y_ y_ e => e
theorem FEs.sol (x : Sol h h') {fs : List (Nat × V)} {mA : Str -> Option Value} (e : FEs W h io fs mA) : FEs W h' io fs mA := e.mono x fun y_ y_ e => e
theorem OR.sol (x : Sol h h') {a d : Addr} {o : MObj} (k : OR W h io a d o) (ha : ∀ o, h.get? a = some o -> h'.get? a = some o) (hd : ∀ o, h.get? d = some o -> h'.get? d = some o) : OR W h' io a d o := by
 cases o with
 | list xs =>
  obtain ⟨e, vs, n, h1, h4, h5⟩ := k
  exact ⟨e, vs, n, ha _ h1, h4.sol x, h5⟩
 | dict kvs ep =>
  obtain ⟨e, o, es, n, h1, h2, h3, h4, h5⟩ := k
  exact ⟨e, o, es, n, ha _ h1, h2, h3, h4.sol x, h5⟩
 | inst c fs =>
  obtain ⟨e, mA, h1, h2, h3, h4⟩ := k
  exact ⟨e, mA, ha _ h1, h2.at hd, h3.sol x, h4⟩
theorem HR.sol (H : HR W h io m) (x : Sol h h') (hf : ∀ b o, dE io b -> h.get? b = some o -> h'.get? b = some o) (hb : ∀ b o, W.base.get? b = some o -> h'.get? b = some o) : HR W h' io m :=
 ⟨hb, H.len, fun n p o hi hm => (H.obj n p o hi hm).sol x (fun o => hf p.1 o ⟨p, List.mem_of_getElem? hi, .inl rfl⟩) fun o => hf p.2 o ⟨p, List.mem_of_getElem? hi, .inr rfl⟩, H.fresh, H.apart⟩
structure Side (W : Wd) (wr : List Addr) (h₀ h : Heap) (io : Io) (h' : Heap) : Prop where
 keep : ∀ b o, b ∉ wr -> h.get? b = some o -> h'.get? b = some o
 new : ∀ b ∈ wr, h₀.get? b = none
 foot : ∀ b ∈ wr, ¬ dE io b
 soft : ∀ b ∈ wr, ∀ o, h.get? b = some o -> ¬ c8 o
theorem Side.sol {wr : List Addr} {h₀ : Heap} (x : Side W wr h₀ h io h') : Sol h h' := fun b o e so => x.keep b o (fun q => x.soft b q o e so) e
theorem Side.step {wr : List Addr} {h₀ : Heap} (x : Side W wr h₀ h io h') (H : HR W h io m) (st : Step own fr h₀ io₀ m₀ h io m) : Step own fr h₀ io₀ m₀ h' io m := by
 have nw : ∀ b o, h₀.get? b = some o -> b ∉ wr := fun b o e q => by rw [x.new b q] at e; cases e
 refine ⟨fun b o e => ?_, fun b o e so => ?_, fun b o e f1 f2 f3 => x.keep _ _ (nw b o e) (st.keep b o e f1 f2 f3), fun b o e f1 f2 => ?_, st.grow, fun n p kvs ep hi hm => ?_⟩
 ·rcases st.alive b o e with ⟨o', e'⟩
  exact ⟨o', x.keep _ _ (nw b o e) e'⟩
 ·exact x.keep _ _ (nw b o e) (st.solid b o e so)
 ·rcases st.slots b o e f1 f2 with ⟨sl, e'⟩
  exact ⟨sl, x.keep _ _ (nw b o e) e'⟩
 ·obtain ⟨k', e', q1, q2, q3⟩ := st.dicts n p kvs ep hi hm
  refine ⟨k', e', q1, q2, fun q => ⟨?_, (q3 q).2⟩⟩
  have hi' := st.io_get hi
  rcases H.there hi' with ⟨o, ho⟩
  rw [<- (q3 q).1, ho]
  exact x.keep _ _ (fun w => x.foot _ w ⟨p, List.mem_of_getElem? hi', .inl rfl⟩) ho
theorem Side.hr {wr : List Addr} {h₀ : Heap} (x : Side W wr h₀ h io h') (H : HR W h io m) (hb : ∀ b o, W.base.get? b = some o -> h₀.get? b = some o) : HR W h' io m :=
 H.sol x.sol (fun b o f e => x.keep b o (fun q => x.foot b q f) e) fun b o e => x.keep b o (fun q => by have := hb b o e; rw [x.new b q] at this; cases this) (H.keep b o e)
theorem aH8 {target : Expr} {I : Addr} {o : Obj} {T : String} {ws : Array Value} {u : Value} {Q : Unit -> Shared -> Prop} {E : Value -> Shared -> Prop} {M : Model} (ho : s.heap.get? I = some o) (hc : o.cls = .type T) (hd : o.data = .fields ws)
  (hT : (["enumerate", "zip", "dict_itemiterator", "dict_reverseitemiterator", "odict_iterator", "itertools.zip_longest", "itertools.pairwise"].contains T) = false) (h : Q () s) : wpAny M A (letOwnedTupleGo target (.ref I) u) Q E s := by
 have key : ∀ a : Addr, wpAny M A (do
   let o <- load I
   match o.cls, o.data with
   | .type n, .fields vs =>
    if ["enumerate", "zip", "dict_itemiterator", "dict_reverseitemiterator", "odict_iterator", "itertools.zip_longest", "itertools.pairwise"].contains n && vs[0]? == some (rawInt a) then
     rule "for.unpacks-the-owned-tuple"
     updateField I 0 .none
   | _, _ => pure ()) Q E s := fun a => by
  refine wpAny_bind (wpAny_load ho ?_)
  rw [hc, hd]
  simp only [hT, Bool.false_and]
  exact wpAny_pure h
 unfold letOwnedTupleGo
 cases target <;> first | exact wpAny_pure h | skip
 all_goals
  cases u <;> first | exact wpAny_pure h | exact key _
structure Wk (W : Wd) (A : Around) (I : Addr) (wr : List Addr) (g : Gd) (vs : List V) (St : Nat -> Heap -> Io -> Prop) : Prop where
 soft : ∀ {i : Nat} {h : Heap} {io : Io}, St i h io -> ∀ b ∈ wr, ¬ dE io b /\ ∀ o, h.get? b = some o -> ¬ c8 o
 stay : ∀ {i : Nat} {h h' : Heap} {io io' : Io} {m m' : MH} {own fr : List Addr}, St i h io -> HR W h io m -> HR W h' io' m' -> Step own fr h io m h' io' m' -> (∀ b ∈ wr, b ∉ own /\ b ∉ fr) -> g.stays m = true -> g.stays m' = true -> St i h' io'
 item : ∀ {i : Nat} {s : Shared} {io : Io} {m : MH} {v : V} {Q : Option Value -> Shared -> Prop} {E : Value -> Shared -> Prop}, vs[i]? = some v -> St i s.heap io -> HR W s.heap io m -> g.stays m = true ->
  (∀ u h' tk, VR W s.heap io v u -> St (i + 1) h' io -> (∀ b o, b ∉ wr -> s.heap.get? b = some o -> h'.get? b = some o) -> Q (some u) { s with heap := h', toks := tk }) -> wpAny (model W.prog W.w) A (pyNext (.ref I)) Q E s
 alive : ∀ {i : Nat} {h : Heap} {io : Io}, St i h io -> ∀ b ∈ wr, ∃ o, h.get? b = some o
 self : ∀ {i : Nat} {s : Shared} {io : Io} {Q : Value -> Shared -> Prop} {E : Value -> Shared -> Prop}, St i s.heap io -> Q (.ref I) s -> wpAny (model W.prog W.w) A (pyIter (.ref I)) Q E s
 lot : ∀ {i : Nat} {s : Shared} {io : Io} {target : Expr} {u : Value} {Q : Unit -> Shared -> Prop} {E : Value -> Shared -> Prop}, St i s.heap io -> (∀ h', St i h' io -> (∀ b o, b ∉ wr -> s.heap.get? b = some o -> h'.get? b = some o) -> Q () { s with heap := h' }) -> wpAny (model W.prog W.w) A (letOwnedTupleGo target (.ref I) u) Q E s
 done : ∀ {s : Shared} {io : Io} {m : MH} {Q : Option Value -> Shared -> Prop} {E : Value -> Shared -> Prop}, St vs.length s.heap io -> HR W s.heap io m -> g.stays m = true ->
  (∀ h' tk, (∀ b o, b ∉ wr -> s.heap.get? b = some o -> h'.get? b = some o) -> Q none { s with heap := h', toks := tk }) -> wpAny (model W.prog W.w) A (pyNext (.ref I)) Q E s
theorem aE3 {C : Prop} (h : false = true) : C := by cases h
mutual
theorem cL9 : ∀ (x y : V), V.same x y = true -> x = y
 | .none, y, h => by cases y <;> first | rfl | (exact aE3 h)
 | .bool a, y, h => by cases y <;> first | (exact aE3 h) | (exact congrArg V.bool (eq_of_beq h))
 | .int a, y, h => by cases y <;> first | (exact aE3 h) | (exact congrArg V.int (eq_of_beq h))
 | .str a, y, h => by cases y <;> first | (exact aE3 h) | (exact congrArg V.str (eq_of_beq h))
 | .tup xs, y, h => by cases y <;> first | (exact aE3 h) | (exact congrArg V.tup (aA9 xs _ h))
 | .ref a, y, h => by cases y <;> first | (exact aE3 h) | (exact congrArg V.ref (eq_of_beq h))
 | .fn a, y, h => by cases y <;> first | (exact aE3 h) | (exact congrArg V.fn (eq_of_beq h))
 | .exc a, y, h => by cases y <;> first | (exact aE3 h) | (exact congrArg V.exc (eq_of_beq h))
 | .scr a, y, h => by cases y <;> first | (exact aE3 h) | (exact congrArg V.scr (eq_of_beq h))
theorem aA9 : ∀ (xs ys : List V), V.sames xs ys = true -> xs = ys
 | [], ys, h => by
  cases ys with
  | nil => rfl
  | cons y_ y_ => exact aE3 h
 | x :: xs, ys, h => by
  cases ys with
  | nil => exact aE3 h
  | cons y ys =>
   have h : (V.same x y && V.sames xs ys) = true := h
   rw [Bool.and_eq_true] at h
   rw [cL9 x y h.1, aA9 xs ys h.2]
end
theorem bP {o : Obj} {T : String} {vs : Array Value} (hc : o.cls = .type T) (hd : o.data = .fields vs) : ¬ c8 o := by
 rintro (⟨y_, y_, y_, e⟩ | ⟨C, y_, e, y_⟩)
 ·rw [hd] at e; cases e
 ·rw [hc] at e; cases e
set_option tactic.hygienic true in
theorem Wk.list {I a d : Addr} {k : Nat} {xs : List V} (hh : A.handled = none) : Wk W A I [I] (.list k xs) xs (fun i h io => h.IsListIter I a i /\ io[k]? = some (a, d) /\ ¬ dE io I) where
 soft := fun z_ b hb => by
  rcases z_ with ⟨⟨o, ho, hc, hd⟩, y_, nf⟩
  rw [List.mem_singleton.mp hb]
  exact ⟨nf, fun o' e => by rw [ho] at e; cases e; exact bP hc hd⟩
 stay := fun z_ H y_ st hb y_ y_ => by
  rcases z_ with ⟨⟨o, ho, hc, hd⟩, hi, nf⟩
  have q := hb I (.head _)
  exact ⟨⟨o, st.keep _ _ ho nf q.1 q.2, hc, hd⟩, st.io_get hi, st.nofoot ho nf⟩
 item := fun {i s io m v Q E} hv z_ H hg hQ => by
  rcases z_ with ⟨hit, hi, nf⟩
  simp only [Gd.stays] at hg
  split at hg
  ·rename_i ys hm
   have e := aA9 _ _ hg
   subst e
   refine hide fun G_ g_ => ?_
   rcases H.obj _ _ _ hi hm with ⟨y_, us, c, h1, h2, h3⟩
   rcases h2.get hv with ⟨u, hu, ku⟩
   refine g_ ?_
   clear g_ G_
   refine wpAny_pyNext_list_item hit ⟨_, h1, rfl, c, rfl⟩ (by simpa using hu) fun h' hit' hs => ?_
   exact hQ u h' s.toks ku ⟨hit', hi, nf⟩ fun b o hb e => (hs.2 b (by simpa using hb)).trans e
  ·cases hg
 alive := fun z_ b hb => by rcases z_ with ⟨⟨o, ho, y_⟩, y_⟩; rw [List.mem_singleton.mp hb]; exact ⟨o, ho⟩
 self := fun st hQ => wpAny_pyIter_listiter st.1 hQ
 lot := fun {i s io target u Q E} st hQ => by
  obtain ⟨⟨o, ho, hc, hd⟩, y_⟩ := id st
  exact aH8 ho hc hd (by decide) (hQ _ st fun y_ y_ y_ e => e)
 done := fun {s io m Q E} z_ H hg hQ => by
  rcases z_ with ⟨hit, hi, nf⟩
  simp only [Gd.stays] at hg
  split at hg
  ·rename_i ys hm
   have e := aA9 _ _ hg
   subst e
   obtain ⟨y_, us, c, h1, h2, h3⟩ := H.obj _ _ _ hi hm
   have hl := h2.length
   refine wpAny_pyNext_list_end hh hit ⟨_, h1, rfl, c, rfl⟩ (by simp at hl; simp [hl]) fun h' hs => ?_
   exact hQ h' s.toks fun b o hb e => hs b o (by simpa using hb) e
  ·cases hg
theorem Wk.of_walks {I : Addr} {fp : List Addr} {k : Nat} {P : Nat -> Value -> Prop} {St : Nat -> Heap -> Prop} {vs : List V} (hw : Walks W.prog W.w A I fp [I] k P St) (hk : k = vs.length)
  (hP : ∀ (i : Nat) (v : V) (u : Value) (h : Heap) (io : Io), vs[i]? = some v -> P i u -> VR W h io v u)
  (hI : ∀ i h, St i h -> ∃ o T ws, h.get? I = some o /\ o.cls = .type T /\ o.data = .fields ws /\ (["enumerate", "zip", "dict_itemiterator", "dict_reverseitemiterator", "odict_iterator", "itertools.zip_longest", "itertools.pairwise"].contains T) = false)
  (hfp : ∀ b ∈ fp, b = I \/ ∃ o, W.base.get? b = some o) : Wk W A I [I] .none vs (fun i h io => St i h /\ ¬ dE io I) where
 soft := fun z_ b hb => by
  rcases z_ with ⟨st, nf⟩
  rw [List.mem_singleton.mp hb]
  obtain ⟨o, T, ws, ho, hc, hd, hT⟩ := hI _ _ st
  exact ⟨nf, fun o' e => by rw [ho] at e; cases e; exact bP hc hd⟩
 stay := fun {i h h' io io' m m' own fr} z_ H H' x hb y_ y_ => by
  rcases z_ with ⟨st, nf⟩
  obtain ⟨o, T, ws, ho, hc, hd, hT⟩ := hI _ _ st
  have q := hb I (.head _)
  refine ⟨hw.frame i h h' st fun b hb o' e => ?_, x.nofoot ho nf⟩
  rcases hfp b hb with rfl | ⟨ob, k⟩
  ·exact x.keep _ _ e nf q.1 q.2
  ·rw [H.keep _ _ k] at e; cases e; exact H'.keep _ _ k
 item := fun {i s io m v Q E} hv z_ H hg hQ => by
  rcases z_ with ⟨st, nf⟩
  have hi : i < k := by rw [hk]; exact (List.getElem?_eq_some_iff.mp hv).1
  exact hw.item i s Q E hi st fun u h' tk p st' kk => hQ u h' tk (hP i v u _ _ hv p) ⟨st', nf⟩ kk
 alive := fun z_ b hb => by
  rcases z_ with ⟨st, y_⟩
  obtain ⟨o, y_, y_, ho, y_⟩ := hI _ _ st
  rw [List.mem_singleton.mp hb]; exact ⟨o, ho⟩
 self := fun {i s io Q E} st hQ => hw.self i s Q E st.1 hQ
 lot := fun {i s io target u Q E} st hQ => by
  obtain ⟨o, T, ws, ho, hc, hd, hT⟩ := hI _ _ st.1
  exact aH8 ho hc hd hT (hQ _ st fun y_ y_ y_ e => e)
 done := fun {s io m Q E} ⟨st, nf⟩ H hg hQ => hw.done s Q E (hk ▸ st) hQ
theorem ERs.keys {kvs : List (Ky × V)} {es : List DictEntry} (x : ERs W h io kvs es) : VRs W h io (kvs.map fun p => p.1.val) (es.map (·.key)) := by
 induction x using ERs.ind with
 | nil => exact .nil
 | cons h1 y_ y_ ih => exact .cons h1 ih
set_option tactic.hygienic true in
theorem aL3 {k e : Nat} (hg : (Gd.dict k e).stays m = true) : ∃ kvs, m[k]? = some (.dict kvs e) := by
 simp only [Gd.stays] at hg
 split at hg
 ·rename_i kvs e' hm
  rw [eq_of_beq hg]; exact ⟨kvs, hm⟩
 ·cases hg
theorem Wk.dict {I a d : Addr} {k e ep : Nat} {o : Obj} {es : Array DictEntry} {vs : List V} (hh : A.handled = none) (hd : o.data = .dict es ep) :
  Wk W A I [I] (.dict k e) vs (fun i h io => h.IsKeyIter I a i es.size ep /\ io[k]? = some (a, d) /\ h.get? a = some o /\ VRs W h io vs (es.toList.map (·.key)) /\ I ≠ a /\ ¬ dE io I) where
 soft := fun z_ b hb => by
  rcases z_ with ⟨⟨oi, hoi, hci, hdi⟩, y_, y_, y_, y_, nf⟩
  rw [List.mem_singleton.mp hb]
  exact ⟨nf, fun o' e => by rw [hoi] at e; cases e; exact bP hci hdi⟩
 stay := fun {i h h' io io' m m' own fr} z_ H H' st hb g1 g2 => by
  rcases z_ with ⟨⟨oi, hoi, hci, hdi⟩, hi, ha, hv, hn, nf⟩
  have q := hb I (.head _)
  rcases aL3 g1 with ⟨kvs, hm⟩
  rcases aL3 g2 with ⟨kvs', hm'⟩
  rcases st.dicts _ _ _ _ hi hm with ⟨ks, e', q1, y_, q3⟩
  rw [hm'] at q1; cases q1
  exact ⟨⟨oi, st.keep _ _ hoi nf q.1 q.2, hci, hdi⟩, st.io_get hi, (q3 rfl).1.trans ha, hv.step st, hn, st.nofoot hoi nf⟩
 item := fun {i s io m v Q E} hv z_ H hg hQ => by
  rcases z_ with ⟨hit, hi, ha, hx, hn, nf⟩
  obtain ⟨u, hu, ku⟩ := hx.get hv
  rw [List.getElem?_map, Array.getElem?_toList] at hu
  have hlt : i < es.size := by
   rcases Nat.lt_or_ge i es.size with q | q
   ·exact q
   ·rw [Array.getElem?_eq_none q] at hu; cases hu
  rw [Array.getElem?_eq_getElem hlt] at hu
  cases hu
  refine aU9 hit ha hd hlt fun h' hit' hs => ?_
  have kk : ∀ b o, b ∉ [I] -> s.heap.get? b = some o -> h'.get? b = some o := fun b o hb e => (hs.2 b (by simpa using hb)).trans e
  refine hQ _ h' s.toks ku ⟨hit', hi, kk _ _ (by simpa using Ne.symm hn) ha, hx.sol fun b o e so => ?_, hn, nf⟩ kk
  obtain ⟨oi, hoi, hci, hdi⟩ := hit
  exact kk b o (fun q => by rw [List.mem_singleton.mp q, hoi] at e; cases e; exact bP hci hdi so) e
 alive := fun z_ b hb => by rcases z_ with ⟨⟨o, ho, y_⟩, y_⟩; rw [List.mem_singleton.mp hb]; exact ⟨o, ho⟩
 self := fun st hQ => wpAny_pyIter_keyiter st.1 hQ
 lot := fun {i s io target u Q E} st hQ => by
  obtain ⟨⟨oi, hoi, hci, hdi⟩, y_⟩ := id st
  exact aH8 hoi hci hdi (by decide) (hQ _ st fun y_ y_ y_ e => e)
 done := fun {s io m Q E} z_ H hg hQ => by
  rcases z_ with ⟨hit, hi, ha, hx, hn, nf⟩
  have hl := hx.length
  refine bE9 hh hit ha hd (by simp at hl; omega) fun h' hs => ?_
  exact hQ h' s.toks fun b o hb e => hs b o (by simpa using hb) e
noncomputable def SrcP (W : Wd) (A : Around) (fs : List Env) (own : List Addr) (s : Shared) (io : Io) (m : MH) (p : List V × Gd) (t : Sem Value) : Prop :=
 ∀ (Q : Value -> Shared -> Prop) (E : Value -> Shared -> Prop), (∀ I wr St h' tk, Wk W A I wr p.2 p.1 St -> St 0 h' io -> (∀ b o, s.heap.get? b = some o -> h'.get? b = some o) -> (∀ b ∈ wr, s.heap.get? b = none) -> (p.2.stays m = true) -> Q (.ref I) { s with heap := h', toks := tk }) -> wpAny (model W.prog W.w) A t Q E s
theorem dD (H : HR W s.heap io m) : ¬ dE io s.heap.objs.size := fun f => by
 obtain ⟨o, e, y_⟩ := H.foot f
 rw [aR] at e; cases e
set_option tactic.hygienic true in
theorem cD0 (ok : WOk W) (hh : A.handled = none) (H : HR W s.heap io m) {v : V} {u : Value} (k : VR W s.heap io v u) {p : List V × Gd} {m' : MH} (hp : eA v m = .ok p m') : m' = m /\ SrcP W A fs own s io m p (pyIter u) := by
 induction k using VR.elim with
 | none => cases hp
 | bool b => cases hp
 | int i t => cases hp
 | fn k => cases hp
 | exc => cases hp
 | tup y_ y_ => cases hp
 | str x t hx =>
  cases hp
  refine ⟨rfl, fun Q E hQ => ?_⟩
  have key : ∀ (T : String) (hT : (["enumerate", "zip", "dict_itemiterator", "dict_reverseitemiterator", "odict_iterator", "itertools.zip_longest", "itertools.pairwise"].contains T) = false) (hw : Walks W.prog W.w A s.heap.objs.size [s.heap.objs.size] [s.heap.objs.size] x.cps.size (SignAt x) (fun i h => h.IsStrIter s.heap.objs.size T x t i)), Wk W A s.heap.objs.size [s.heap.objs.size] .none (x.cps.toList.map fun c => V.str ⟨#[c]⟩) (fun i h io => h.IsStrIter s.heap.objs.size T x t i /\ ¬ dE io s.heap.objs.size) := fun T hT hw => by
   refine Wk.of_walks hw (by simp) (fun i v u h io hv hP => ?_) (fun i h ⟨o, ho, hc, hd⟩ => ⟨o, T, _, ho, hc, hd, hT⟩) fun b hb => .inl (by simpa using hb)
   obtain ⟨c, t', e1, rfl⟩ := hP
   rw [List.getElem?_map, Array.getElem?_toList, e1] at hv
   cases hv
   exact .str _ _ (aS2 hx e1)
  cases ha : x.cps.all (· < 128)
  ·exact wpAny_pyIter_wide ha (hQ _ _ _ _ _ (key _ (by decide) (Walks.strWide hh _ x t)) ⟨⟨_, Heap.get?_push_size _ rfl, rfl, rfl⟩, dD H⟩ (aL _) (fun b hb => by rw [List.mem_singleton.mp hb]; exact aR _) rfl)
  ·exact wpAny_pyIter_ascii ha (hQ _ _ _ _ _ (key _ (by decide) (Walks.strAscii hh _ x t)) ⟨⟨_, Heap.get?_push_size _ rfl, rfl, rfl⟩, dD H⟩ (aL _) (fun b hb => by rw [List.mem_singleton.mp hb]; exact aR _) rfl)
 | @ref n a d hi =>
  simp only [eA] at hp
  split at hp
  ·rename_i xs hm
   cases hp
   obtain ⟨y_, us, c, h1, h2, h3⟩ := H.obj _ _ _ hi hm
   refine ⟨rfl, fun Q E hQ => wpAny_pyIter_list ⟨_, h1, rfl, c, rfl⟩ ?_⟩
   refine hQ _ _ _ _ _ (Wk.list (a := a) (d := d) hh) ⟨⟨_, Heap.get?_push_size _ rfl, rfl, rfl⟩, hi, dD H⟩ (aL _) (fun b hb => by rw [List.mem_singleton.mp hb]; exact aR _) ?_
   simp only [Gd.stays, hm]; exact fA xs
  ·rename_i kvs e hm
   cases hp
   obtain ⟨y_, o, es, c, h1, h2, h3, h4, h5, h6⟩ := H.obj _ _ _ hi hm
   refine ⟨rfl, fun Q E hQ => aV0 (H.notSys ok ⟨_, List.mem_of_getElem? hi, .inl rfl⟩) h1 h2 h3 ?_⟩
   refine hQ _ _ _ _ _ (Wk.dict (a := a) (d := d) (k := n) (e := e) hh h3) ⟨⟨_, Heap.get?_push_size _ rfl, rfl, rfl⟩, hi, aL _ _ _ h1, h4.keys.step (.of_keeps (own := []) (fr := []) H (aL _)), fun e => ?_, dD H⟩ (aL _) (fun b hb => by rw [List.mem_singleton.mp hb]; exact aR _) ?_
   ·have h1 : s.heap.get? a = some o := h1
    rw [<- e, aR] at h1; cases h1
   ·simp only [Gd.stays, hm]; exact beq_self_eq_true e
  ·cases hp
 | scr y_ y_ y_ y_ y_ => cases hp
end
end Mini
namespace Mini
open PySem PySem.W
section
variable {W : Wd} {K : Frag} {h h' : Heap} {fs : List Env} {env : Env} {vis : List (Option Str)} {s s' : Shared} {io io' io₀ : Io} {m m' m₀ : MH} {r r' : Lo} {fr own own' : List Addr} {A : Around} {n : Nat} {pos p : Pos}
noncomputable def SiS (W : Wd) (A : Around) (fs : List Env) (env : Env) (vis : List (Option Str)) (t : Sem Flow) (c : Lo -> Mn (Fl × Lo)) : Prop :=
 ∀ (s : Shared) (io : Io) (m : MH) (r : Lo), Stt W fs env vis s io m r -> Si W (cA env) A (env :: fs) (SP W env vis) t s io m (c r m)
theorem x_nil : SiS W A fs env vis (execs [] env) (fun r => ret (.next, r)) := fun y_ y_ y_ y_ Z => .pure (u := Flow.next) Z.H ⟨.next, Z.F⟩
theorem cU7 {st : Stmt} {rest : List Stmt} {c1 c2 : Lo -> Mn (Fl × Lo)} (h1 : SiS W A fs env vis (exec st env) c1) (h2 : SiS W A fs env vis (execs rest env) c2) :
  SiS W A fs env vis (execs (st :: rest) env) (fun r => bnd (c1 r) fun p => match p.1 with | .next => c2 p.2 | f => ret (f, p.2)) := by
 intro s io m r Z
 rw [execs_cons]
 refine Si.bind (h1 s io m r Z) fun f s₁ io₁ m₁ p y_ st H₁ k sm => ?_
 rcases p with ⟨q, r₁⟩
 rcases k with ⟨kf, kF⟩
 cases kf with
 | next => exact h2 _ _ _ _ (Z.stepO H₁ st kF)
 | cont => exact .pure H₁ ⟨.cont, kF⟩
 | ret kv => exact .pure H₁ ⟨.ret kv, kF⟩
theorem Si.bindE {α β α' β' : Type} {P : Heap -> Io -> α -> β -> Prop} {P' : Heap -> Io -> α' -> β' -> Prop} {t : Sem β} {k : β -> Sem β'} {R : Res α} {f : α -> Mn α'} (x : Si W [] A fs P t s io m R)
  (y : ∀ u s₁ io₁ m₁ v, R = .ok v m₁ -> Step [] (frs fs) s.heap io m s₁.heap io₁ m₁ -> HR W s₁.heap io₁ m₁ -> P s₁.heap io₁ v u -> Same s s₁ -> Si W own A fs P' (k u) s₁ io₁ m₁ (f v m₁)) :
  Si W own A fs P' (t >>= k) s io m (R.bind f) := by
 intro hne
 refine wpAny_bind (wpAny_mono (x (Res.bind_ne hne)) (fun u s₁ hp => ?_) fun e s₁ hp => ?_)
 ·obtain ⟨v, m₁, io₁, rfl, st, hr, hp, sm⟩ := hp
  have st' := st.wk (own' := own) fun y_ q => nomatch q
  exact wpAny_mono (y u s₁ io₁ m₁ v rfl st hr hp sm hne) (fun y_ y_ z => z.mono st' sm) fun y_ y_ z => z
 ·exact hp.elim
theorem x_ret {e : Expr} {c : Lo -> Mn V} (he : SiE W A (env :: fs) env vis (eval e env) c) : SiS W A fs env vis (exec (.Return (some e) pos) env) (fun r => bnd (c r) fun v => ret (.ret v, r)) := by
 intro s io m r Z
 rw [exec_Return_some]
 refine .standAt (Si.bindE (he s io m r Z.sit) fun u s₁ io₁ m₁ v y_ st H₁ k sm => ?_)
 exact .pure H₁ ⟨.ret k, Z.F.step0 Z.H st⟩
theorem cU4 : SiS W A fs env vis (exec (.Pass pos) env) (fun r => ret (.next, r)) := fun y_ y_ y_ y_ Z => .standAt (.pure Z.H ⟨.next, Z.F⟩)
theorem cU6 : SiS W A fs env vis (exec (.Continue pos) env) (fun r => ret (.cont, r)) := fun y_ y_ y_ y_ Z => .standAt (.pure Z.H ⟨.cont, Z.F⟩)
theorem x_if {test : Expr} {body orelse : List Stmt} {ct : Lo -> Mn Bool} {ca cb : Lo -> Mn (Fl × Lo)} (ht : SiB W A (env :: fs) env vis (isTrue test env (eval test env)) ct) (ha : SiS W A fs env vis (execs body env) ca) (hb : SiS W A fs env vis (execs orelse env) cb) :
  SiS W A fs env vis (exec (.If test body orelse pos) env) (fun r => bnd (ct r) fun t => if t then ca r else cb r) := by
 intro s io m r Z
 rw [exec_If]
 refine .standAt (Si.bindE (ht s io m r Z.sit) fun u s₁ io₁ m₁ v y_ st H₁ k sm => ?_)
 cases k
 cases v
 ·exact hb _ _ _ r (Z.step H₁ st)
 ·exact ha _ _ _ r (Z.step H₁ st)
theorem x_exp {e : Expr} {c : Lo -> Mn V} (hs : swapsWith e none pos.line env = Pure.pure false) (he : SiE W A (env :: fs) env vis (eval e env) c) : SiS W A fs env vis (exec (.Expr e pos) env) (fun r => bnd (c r) fun y_ => ret (.next, r)) := by
 intro s io m r Z
 rw [exec_Expr env e pos (by unfold interactive; rw [Z.F.kind]; rfl) hs]
 refine .standAt (Si.bindE (he s io m r Z.sit) fun u s₁ io₁ m₁ v y_ st H₁ k sm => ?_)
 exact fun y_ => wpAny_dropValue ⟨_, m₁, io₁, rfl, .refl, H₁, ⟨.next, Z.F.step0 Z.H st⟩, .refl _⟩
noncomputable def SiA (W : Wd) (A : Around) (fs : List Env) (env : Env) (vis : List (Option Str)) (target : Expr) (c : V -> Lo -> Mn Lo) : Prop :=
 ∀ (s : Shared) (io : Io) (m : MH) (r : Lo) (v : V) (u : Value), Stt W fs env vis s io m r -> VR W s.heap io v u -> Si W (cA env) A (env :: fs) (RP W env vis) (assign target env u) s io m (c v r m)
theorem Si.bindName {x : Str} {u : Value} {α : Type} {P : Heap -> Io -> α -> Unit -> Prop} {R : Res α} (h : Si W own A fs P (storeName env x u) s io m R) : Si W own A fs P (PySem.bindName env x u) s io m R := fun hne => wpAny_bindName (h hne)
theorem aY1 {i : Nat} {x : Str} (hv : vis[i]? = some (some x)) (hk : env.kindOf x = some .local \/ env.kindOf x = some .cell) : SiA W A fs env vis (.Name x pos) (fun v r m => .ok (r.set i (some v)) m) :=
 fun y_ y_ y_ y_ y_ y_ Z k => .standAt (.bindName (bO3 Z hv hk k))
theorem bL1 {target value : Expr} {c : Lo -> Mn V} {ca : V -> Lo -> Mn Lo} (he : SiE W A (env :: fs) env vis (eval value env) c) (ha : SiA W A fs env vis target ca) (hs : swapsWithSole [target] value pos.line env = Pure.pure false) (hw : swappedStores [target] value env = Pure.pure none) (hst : (assignEach [target] env).map (·.2) = [assign target env]) :
  SiS W A fs env vis (exec (.Assign [target] value pos) env) (fun r => bnd (c r) fun v => bnd (ca v r) fun r' => ret (.next, r')) := by
 intro s io m r Z hne
 refine wpAny_Assign_stores ?_ hs hw
 rw [hst]
 refine wpAny_mono (he s io m r Z.sit (Res.bind_ne hne)) (fun u s₁ q => ?_) fun e s₁ hp => ?_
 ·obtain ⟨v, m₁, io₁, e1, st, H₁, k, sm⟩ := q
  have ee : bnd (c r) (fun v => bnd (ca v r) fun r' => ret ((Fl.next, r') : Fl × Lo)) m = (ca v r m₁).bind fun r' => ret ((Fl.next, r') : Fl × Lo) := by show (c r m).bind _ = _; rw [e1]; rfl
  dsimp only at hne ⊢
  rw [ee] at hne ⊢
  have st' := st.wk (own' := cA env) fun y_ q => nomatch q
  refine wpAny_mono (ha s₁ io₁ m₁ r v u (Z.step H₁ st) k (Res.bind_ne hne)) (fun y_ s₂ q => ?_) fun y_ y_ q => q
  obtain ⟨r₂, m₂, io₂, e2, st2, H2, k2, sm2⟩ := q
  exact ⟨(.next, r₂), m₂, io₂, by rw [e2]; rfl, st'.trans st2, H2, ⟨.next, k2⟩, sm.trans sm2⟩
 ·exact hp.elim
noncomputable def ItP (W : Wd) (A : Around) (h₀ : Heap) : Heap -> Io -> List V × Gd -> Value -> Prop := fun h io p u => ∃ I wr St, u = .ref I /\ Wk W A I wr p.2 p.1 St /\ St 0 h io /\ ∀ b ∈ wr, h₀.get? b = none
noncomputable def SiSrc (W : Wd) (A : Around) (fs : List Env) (env : Env) (vis : List (Option Str)) (iter : Expr) (c : Lo -> Mn (List V × Gd)) : Prop :=
 ∀ (s : Shared) (io : Io) (m : MH) (r : Lo), Sit W fs env vis s io m r -> c r m ≠ .bad -> wpAny (model W.prog W.w) A (eval iter env) (fun x s₁ => wpAny (model W.prog W.w) A (pyIter x) (fun it s₂ => NP W [] (frs fs) s io m (ItP W A s.heap) (c r m) it s₂) NX s₁) NX s
theorem cK {h₀ : Heap} (st : Step own fr h₀ io₀ m₀ h io m) {b : Addr} (e : h.get? b = none) : h₀.get? b = none := by
 cases q : h₀.get? b with
 | none => rfl
 | some o => rcases st.alive b o q with ⟨o', e'⟩; rw [e] at e'; cases e'
theorem bZ7 {iter : Expr} {c : Lo -> Mn V} (ok : WOk W) (hh : A.handled = none) (he : SiE W A fs env vis (eval iter env) c) : SiSrc W A fs env vis iter (fun r => bnd (c r) eA) := by
 intro s io m r Z hne
 refine wpAny_mono (he s io m r Z (Res.bind_ne hne)) (fun u s₁ q => ?_) fun y_ y_ q => q
 obtain ⟨v, m₁, io₁, e1, st, H₁, k, sm⟩ := q
 have ee : bnd (c r) eA m = eA v m₁ := by show (c r m).bind _ = _; rw [e1]; rfl
 dsimp only at hne ⊢
 rw [ee] at hne ⊢
 cases hq : eA v m₁ with
 | bad => exact absurd hq hne
 | exc c' m' => unfold eA at hq; split at hq <;> first | cases hq | (split at hq <;> cases hq)
 | ok p m' =>
  rcases cD0 (fs := fs) (own := []) ok hh H₁ k hq with ⟨rfl, key⟩
  refine key _ _ fun I wr St h' tk hw h0 hk hn hg => ?_
  have st2 : Step [] (frs fs) s₁.heap io₁ m' h' io₁ m' := .of_keeps H₁ hk
  exact ⟨p, m', io₁, rfl, st.trans st2, H₁.of_keeps hk, ⟨I, wr, St, rfl, hw, h0, fun b hb => cK st (hn b hb)⟩, sm⟩
theorem FR.sideN {wr : List Addr} {h₀ : Heap} (F : FR W h io env vis r) (x : Side W wr h₀ h io h') (hL : env.locals ∉ wr) (hc : ∀ y c, env.cells.lookup y = some c -> c ∉ wr) : FR W h' io env vis r := by
 obtain ⟨mp, hn, hl⟩ := F.loc
 have sc : ∀ y c v, env.cells.lookup y = some c -> h.IsCell c v -> h'.IsCell c v := fun y c v hy ⟨o, ho, hd⟩ => ⟨o, x.keep _ _ (hc y c hy) ho, hd⟩
 refine ⟨F.kind, F.glob, F.blt, F.nofoot, F.fresh, ⟨mp, ?_, fun i y v h1 h2 h3 => ?_⟩, fun i y v h1 h2 h3 => ?_, fun y c hy => ?_, F.celex, F.apart, F.inj, F.len⟩
 ·obtain ⟨o, es, ep, ho, hd, q⟩ := hn
  exact ⟨o, es, ep, x.keep _ _ hL ho, hd, q⟩
 ·obtain ⟨u, e, k⟩ := hl i y v h1 h2 h3
  exact ⟨u, e, k.sol x.sol⟩
 ·obtain ⟨c, u, e, k1, k2⟩ := F.cel i y v h1 h2 h3
  exact ⟨c, u, e, sc y c _ e k1, k2.sol x.sol⟩
 ·obtain ⟨⟨o, k1⟩, k2, k3⟩ := F.cells y c hy
  exact ⟨⟨o, sc y c _ hy k1⟩, k2, k3⟩
theorem FR.side {wr : List Addr} {h₀ : Heap} (F : FR W h io env vis r) (x : Side W wr h₀ h io h') (hL : ∃ o, h₀.get? env.locals = some o) (hc : ∀ y c, env.cells.lookup y = some c -> ∃ o, h₀.get? c = some o) : FR W h' io env vis r := by
 have nw : ∀ b, (∃ o, h₀.get? b = some o) -> b ∉ wr := fun b z_ q => by rcases z_ with ⟨o, e⟩; rw [x.new b q] at e; cases e
 obtain ⟨mp, hn, hl⟩ := F.loc
 have sc : ∀ y c v, env.cells.lookup y = some c -> h.IsCell c v -> h'.IsCell c v := fun y c v hy ⟨o, ho, hd⟩ => ⟨o, x.keep _ _ (nw c (hc y c hy)) ho, hd⟩
 refine ⟨F.kind, F.glob, F.blt, F.nofoot, F.fresh, ⟨mp, ?_, fun i y v h1 h2 h3 => ?_⟩, fun i y v h1 h2 h3 => ?_, fun y c hy => ?_, F.celex, F.apart, F.inj, F.len⟩
 ·obtain ⟨o, es, ep, ho, hd, q⟩ := hn
  exact ⟨o, es, ep, x.keep _ _ (nw _ hL) ho, hd, q⟩
 ·obtain ⟨u, e, k⟩ := hl i y v h1 h2 h3
  exact ⟨u, e, k.sol x.sol⟩
 ·obtain ⟨c, u, e, k1, k2⟩ := F.cel i y v h1 h2 h3
  exact ⟨c, u, e, sc y c _ e k1, k2.sol x.sol⟩
 ·obtain ⟨⟨o, k1⟩, k2, k3⟩ := F.cells y c hy
  exact ⟨⟨o, sc y c _ hy k1⟩, k2, k3⟩
theorem dA3 {g : Gd} {step : V -> Lo -> Mn (Fl × Lo)} {v : V} {vs : List V} {r : Lo} {m : MH} (h : g.stays m = true) : aM6 g step (v :: vs) r m = (step v r m).bind (fun p => match p.1 with | .ret x => ret (.ret x, p.2) | _ => aM6 g step vs p.2) := if_pos h
theorem dA2 {g : Gd} {step : V -> Lo -> Mn (Fl × Lo)} {r : Lo} {m : MH} (h : g.stays m = true) : aM6 g step [] r m = .ok (.next, r) m := if_pos h
theorem aM5 {g : Gd} {step : V -> Lo -> Mn (Fl × Lo)} {vs : List V} (h : aM6 g step vs r m ≠ .bad) : g.stays m = true := by
 cases q : g.stays m with
 | true => rfl
 | false =>
  have z : ¬ g.stays m = true := by rw [q]; exact Bool.false_ne_true
  cases vs with
  | nil => exact absurd (if_neg z) h
  | cons y_ y_ => exact absurd (if_neg z) h
inductive FInv (W : Wd) (fs : List Env) (env : Env) (vis : List (Option Str)) (s : Shared) (io : Io) (m : MH) (St : Nat -> Heap -> Io -> Prop) (g : Gd) (f : V -> Lo -> Mn (Fl × Lo)) (vs : List V) (R : Res (Fl × Lo)) (k : Nat) (s' : Shared) : Prop
 | mk (i : Nat) (r' : Lo) (io' : Io) (m' : MH) : k = vs.length - i -> i <= vs.length -> Step (cA env) (frs (env :: fs)) s.heap io m s'.heap io' m' -> HR W s'.heap io' m' -> FR W s'.heap io' env vis r' -> St i s'.heap io' -> Same s s' -> aM6 g f (vs.drop i) r' m' = R -> FInv W fs env vis s io m St g f vs R k s'
structure WkF (W : Wd) (A : Around) (I : Addr) (wr : List Addr) (g : Gd) (vs : List V) (St : Nat -> Heap -> Io -> Prop) (tg : Expr) : Prop where
 soft : ∀ {i : Nat} {h : Heap} {io : Io}, St i h io -> ∀ b ∈ wr, ¬ dE io b /\ ∀ o, h.get? b = some o -> ¬ c8 o
 stay : ∀ {i : Nat} {h h' : Heap} {io io' : Io} {m m' : MH} {own fr : List Addr}, St i h io -> HR W h io m -> HR W h' io' m' -> Step own fr h io m h' io' m' -> (∀ b ∈ wr, b ∉ own /\ b ∉ fr) -> g.stays m = true -> g.stays m' = true -> St i h' io'
 next : ∀ {i : Nat} {s : Shared} {io : Io} {m : MH} {v : V} {Q : Option Value -> Shared -> Prop} {E : Value -> Shared -> Prop}, vs[i]? = some v -> St i s.heap io -> HR W s.heap io m -> g.stays m = true ->
  (∀ u h₁ tk, (∀ {Q' : Unit -> Shared -> Prop} {E' : Value -> Shared -> Prop}, (∀ h₂, VR W h₂ io v u -> St (i + 1) h₂ io -> (∀ b o, b ∉ wr -> s.heap.get? b = some o -> h₂.get? b = some o) -> Q' () { s with heap := h₂, toks := tk }) -> wpAny (model W.prog W.w) A (letOwnedTupleGo tg (.ref I) u) Q' E' { s with heap := h₁, toks := tk }) -> Q (some u) { s with heap := h₁, toks := tk }) -> wpAny (model W.prog W.w) A (pyNext (.ref I)) Q E s
 done : ∀ {s : Shared} {io : Io} {m : MH} {Q : Option Value -> Shared -> Prop} {E : Value -> Shared -> Prop}, St vs.length s.heap io -> HR W s.heap io m -> g.stays m = true ->
  (∀ h' tk, (∀ b o, b ∉ wr -> s.heap.get? b = some o -> h'.get? b = some o) -> Q none { s with heap := h', toks := tk }) -> wpAny (model W.prog W.w) A (pyNext (.ref I)) Q E s
theorem Wk.forF {I : Addr} {wr : List Addr} {g : Gd} {vs : List V} {St : Nat -> Heap -> Io -> Prop} {tg : Expr} (hw : Wk W A I wr g vs St) : WkF W A I wr g vs St tg where
 soft := hw.soft
 stay := hw.stay
 next := fun {i s io m v Q E} hv hst H hg hQ => hw.item hv hst H hg fun u h₁ tk ku hst₁ kk => hQ u h₁ tk fun k => hw.lot (s := { s with heap := h₁, toks := tk }) hst₁ fun h₂ hst₂ kk₂ => by
  have kk' : ∀ b o, b ∉ wr -> s.heap.get? b = some o -> h₂.get? b = some o := fun b o hb e => kk₂ b o hb (kk b o hb e)
  exact k h₂ (ku.sol fun b o e so => kk' b o (fun q => (hw.soft hst b q).2 o e so) e) hst₂ kk'
 done := hw.done
noncomputable def ItF (W : Wd) (A : Around) (tg : Expr) (h₀ : Heap) : Heap -> Io -> List V × Gd -> Value -> Prop := fun h io p u => ∃ I wr St, u = .ref I /\ WkF W A I wr p.2 p.1 St tg /\ St 0 h io /\ ∀ b ∈ wr, h₀.get? b = none
noncomputable def bC3 (W : Wd) (A : Around) (fs : List Env) (env : Env) (vis : List (Option Str)) (tg iter : Expr) (c : Lo -> Mn (List V × Gd)) : Prop :=
 ∀ (s : Shared) (io : Io) (m : MH) (r : Lo), Sit W fs env vis s io m r -> c r m ≠ .bad -> wpAny (model W.prog W.w) A (eval iter env) (fun x s₁ => wpAny (model W.prog W.w) A (pyIter x) (fun it s₂ => NP W [] (frs fs) s io m (ItF W A tg s.heap) (c r m) it s₂) NX s₁) NX s
theorem SiSrc.forF {iter tg : Expr} {c : Lo -> Mn (List V × Gd)} (h : SiSrc W A fs env vis iter c) : bC3 W A fs env vis tg iter c := fun s io m r Z hne => by
 refine wpAny_mono (h s io m r Z hne) (fun x s₁ q => wpAny_mono q (fun it s₂ q => ?_) fun y_ y_ q => q) fun y_ y_ q => q
 rcases q with ⟨p, m₂, io₂, e2, st₂, H₂, ⟨I, wr, St, e, hw, h0, hnew⟩, sm₂⟩
 exact ⟨p, m₂, io₂, e2, st₂, H₂, ⟨I, wr, St, e, hw.forF, h0, hnew⟩, sm₂⟩
theorem cU5 (hA : A.frames = some (env :: fs)) {target iter : Expr} {body : List Stmt} {c : Lo -> Mn (List V × Gd)} {ca : V -> Lo -> Mn Lo} {cb : Lo -> Mn (Fl × Lo)} (hsrc : bC3 W A (env :: fs) env vis target iter c) (ha : SiA W A fs env vis target ca) (hb : SiS W A fs env vis (execs body env) cb) (hf : ∀ x, foldedSetIterable iter env x = Pure.pure x) :
  SiS W A fs env vis (exec (.For target iter body [] pos) env) (fun r => bnd (c r) fun p => aM6 p.2 (fun v r' => bnd (ca v r') fun r'' => cb r'') p.1 r) := by
 intro s io m r Z hne
 refine wpAny_For (wpAny_mono (hsrc s io m r Z.sit (Res.bind_ne hne)) (fun x s₁ q => wpAny_mono q (fun it s₂ q => ?_) fun e s₁ q => ?_) fun e s₁ q => ?_) hf
 rotate_left
 ·exact q.elim
 ·exact q.elim
 obtain ⟨⟨vs, g⟩, m₂, io₂, e2, st₂, H₂, ⟨I, wr, St, rfl, hw, h0, hnew⟩, sm₂⟩ := q
 have ee : bnd (c r) (fun p => aM6 p.2 (fun v r' => bnd (ca v r') fun r'' => cb r'') p.1 r) m = aM6 g (fun v r' => bnd (ca v r') fun r'' => cb r'') vs r m₂ := by show (c r m).bind _ = _; rw [e2]; rfl
 dsimp only at hne ⊢
 rw [ee] at hne ⊢
 have hL : ∃ o, s.heap.get? env.locals = some o := by rcases Z.F.loc with ⟨y_, ⟨o, y_, y_, ho, y_⟩, y_⟩; exact ⟨o, ho⟩
 have hC : ∀ y c, env.cells.lookup y = some c -> ∃ o, s.heap.get? c = some o := fun y c hy => by rcases Z.F.cells y c hy with ⟨⟨y_, o, ho, y_⟩, y_⟩; exact ⟨o, ho⟩
 have hOwn : ∀ b ∈ cA env, ∃ o, s.heap.get? b = some o := fun b hb => by
  rcases List.mem_cons.mp hb with rfl | hb
  ·exact hL
  ·obtain ⟨⟨y, c'⟩, hm, hq⟩ := List.mem_filterMap.mp hb
   exact hC y b hq
 have hFr : ∀ b ∈ frs (env :: fs), ∃ o, s.heap.get? b = some o := fun b hb => by
  refine hide fun G_ g_ => ?_
  rcases List.mem_filterMap.mp hb with ⟨e, he, hf⟩
  rcases Z.sit.G e he with ⟨y_, L, o, y_, y_, h1, y_, y_, h4, y_⟩
  refine g_ ?_
  clear g_ G_
  rw [h1] at hf; cases hf; exact ⟨o, h4⟩
 have hwr : ∀ b ∈ wr, b ∉ cA env /\ b ∉ frs (env :: fs) := fun b hb => ⟨fun q => (by rcases hOwn b q with ⟨o, e⟩; rw [hnew b hb] at e; cases e), fun q => (by rcases hFr b q with ⟨o, e⟩; rw [hnew b hb] at e; cases e)⟩
 have hbase : ∀ b o, W.base.get? b = some o -> s.heap.get? b = some o := Z.H.keep
 refine codeAny_forLoop_any (I := FInv W fs env vis s io m St g (fun v r' => bnd (ca v r') fun r'' => cb r'') vs (aM6 g (fun v r' => bnd (ca v r') fun r'' => cb r'') vs r m₂)) (fun k s' hI => ?_) vs.length ⟨0, r, io₂, m₂, by simp, Nat.zero_le _, st₂.wk (fun y_ q => nomatch q), H₂, Z.F.step0 Z.H st₂, h0, sm₂, by simp⟩
 obtain ⟨i, r', io', m', hk, hi, st, H, F, hst, sm, he⟩ := hI
 have hne' : aM6 g (fun v r' => bnd (ca v r') fun r'' => cb r'') (vs.drop i) r' m' ≠ .bad := by rw [he]; exact hne
 have hg := aM5 hne'
 have sft := hw.soft hst
 by_cases hlt : i < vs.length
 ·have hv : vs[i]? = some vs[i] := List.getElem?_eq_getElem hlt
  have hd : vs.drop i = vs[i] :: vs.drop (i + 1) := List.drop_eq_getElem_cons hlt
  refine hw.next hv hst H hg fun u h₁ tk hgo => hgo fun h₂ ku2 hst₂ kk => ?_
  have sd : Side W wr s.heap s'.heap io' h₂ := ⟨kk, hnew, fun b hb => (sft b hb).1, fun b hb => (sft b hb).2⟩
  have H2 := sd.hr H hbase
  have st2 := sd.step H st
  have F2 := F.side sd hL hC
  have Z2 : Stt W fs env vis { s' with heap := h₂, toks := tk } io' m' r' := ⟨H2, F2, Z.G.step st2 Z.dis, Z.fr, Z.dis⟩
  rw [hd] at he hne'
  rw [dA3 hg] at he hne'
  have hne1 : ca vs[i] r' m' ≠ .bad := fun q => hne' (by show ((ca vs[i] r' m').bind cb).bind _ = _; rw [q]; rfl)
  refine wpAny_mono (ha _ io' m' r' vs[i] u Z2 ku2 hne1) (fun y_ s₃ q => ?_) fun e s₃ q => ?_
  rotate_left
  ·exact q.elim
  obtain ⟨r₃, m₃, io₃, e3, st3, H3, F3, sm3⟩ := q
  have st3' := st2.trans st3
  have Z3 : Stt W fs env vis s₃ io₃ m₃ r₃ := ⟨H3, F3, Z.G.step st3' Z.dis, Z.fr, Z.dis⟩
  have e4 : bnd (ca vs[i] r') (fun r'' => cb r'') m' = cb r₃ m₃ := by show (ca vs[i] r' m').bind _ = _; rw [e3]; rfl
  rw [e4] at he hne'
  have hne2 : cb r₃ m₃ ≠ .bad := fun q => hne' (by rw [q]; rfl)
  refine wpAny_mono (hb s₃ io₃ m₃ r₃ Z3 hne2) (fun f s₄ q => ?_) fun e s₄ q => ?_
  rotate_left
  ·exact q.elim
  obtain ⟨⟨fl, r₄⟩, m₄, io₄, e5, st4, H4, ⟨kf, F4⟩, sm4⟩ := q
  rw [e5] at he hne'
  have st4' := st3'.trans st4
  have go : aM6 g (fun v r' => bnd (ca v r') fun r'' => cb r'') (vs.drop (i + 1)) r₄ m₄ = aM6 g (fun v r' => bnd (ca v r') fun r'' => cb r'') vs r m₂ -> ∃ k', k' < k /\ FInv W fs env vis s io m St g (fun v r' => bnd (ca v r') fun r'' => cb r'') vs (aM6 g (fun v r' => bnd (ca v r') fun r'' => cb r'') vs r m₂) k' s₄ := fun q => by
   have hg4 : g.stays m₄ = true := aM5 (by rw [q]; exact hne)
   exact ⟨vs.length - (i + 1), hk ▸ Nat.sub_succ_lt_self _ _ hlt, i + 1, r₄, io₄, m₄, rfl, hlt, st4', H4, F4, hw.stay hst₂ H2 H4 (st3.trans st4) hwr hg hg4, sm.trans (Same.trans ⟨rfl, rfl⟩ (sm3.trans sm4)), q⟩
  cases kf with
  | next => exact go he
  | cont => exact go he
  | ret kv => exact ⟨_, m₄, io₄, he.symm, st4', H4, ⟨.ret kv, F4⟩, sm.trans (Same.trans ⟨rfl, rfl⟩ (sm3.trans sm4))⟩
 ·have hi' : i = vs.length := by omega
  subst hi'
  refine hw.done hst H hg fun h₁ tk kk => ?_
  have sd : Side W wr s.heap s'.heap io' h₁ := ⟨kk, hnew, fun b hb => (sft b hb).1, fun b hb => (sft b hb).2⟩
  rw [List.drop_length] at he
  rw [dA2 hg] at he
  exact wpAny_execs_nil ⟨_, m', io', he.symm, sd.step H st, sd.hr H hbase, ⟨.next, F.side sd hL hC⟩, sm.trans ⟨rfl, rfl⟩⟩
end
end Mini
namespace Mini
open PySem PySem.W
section
variable {W : Wd} {fs : List Env} {env : Env} {vis : List (Option Str)} {s s' : Shared} {io io' : Io} {m m' : MH} {r r' : Lo} {A : Around} {n : Nat} {pos p : Pos}
noncomputable def Tgs (env : Env) (vis : List (Option Str)) : List Nat -> List Expr -> Prop
 | [], es => es = []
 | i :: is, es => ∃ x p es', es = .Name x p :: es' /\ vis[i]? = some (some x) /\ (env.kindOf x = some .local \/ env.kindOf x = some .cell) /\ Tgs env vis is es'
theorem Tgs.len : ∀ {is : List Nat} {es : List Expr}, Tgs env vis is es -> (assignEach es env).length = is.length /\ (assignEach es env).findIdx? (·.1) = none
 | [], _, h => by cases h; exact ⟨rfl, rfl⟩
 | i :: is, _, z => by
  rcases z with ⟨x, p, es', e, y_, y_, t⟩
  subst e
  rcases t.len with ⟨h1, h2⟩
  have e : assignEach (.Name x p :: es') env = (false, assign (.Name x p) env) :: assignEach es' env := rfl
  rw [e, List.findIdx?_cons, h2]
  exact ⟨by simp [h1], rfl⟩
theorem aG8 : ∀ {is : List Nat} {vs : List V} {r r' : Lo}, eN is vs r = some r' -> is.length = vs.length
 | [], [], _, _, _ => rfl
 | [], _ :: _, _, _, h => by cases h
 | _ :: _, [], _, _, h => by cases h
 | i :: is, v :: vs, r, r', h => congrArg Nat.succ (aG8 (show eN is vs (r.set i (some v)) = some r' from h))
theorem bR6 : ∀ {is : List Nat} {elts : List Expr}, Tgs env vis is elts -> ∀ {vs : List V} {us : List Value} {s : Shared} {io : Io} {m : MH} {r : Lo}, Stt W fs env vis s io m r -> VRs W s.heap io vs us ->
  Si W (cA env) A (env :: fs) (RP W env vis) (assignInOrder ((assignEach elts env).map (·.2)) us) s io m (ofO (eN is vs r) m)
 | [], _, h, vs, us, s, io, m, r, Z, k => by
  cases h
  induction k using VRs.elim with
  | nil => exact Si.pure (P := RP W env vis) Z.H Z.F
  | cons y_ y_ => exact Si.bad
 | i :: is, _, z, vs, us, s, io, m, r, Z, k => by
  rcases z with ⟨x, p, es', e, hv, hk, t⟩
  subst e
  induction k using VRs.elim with
  | nil => exact Si.bad
  | @cons v u vs us k1 k2 =>
   refine Si.bind (R := (.ok (r.set i (some v)) m : Res Lo)) (f := fun r' m' => ofO (eN is vs r') m') (.holding (aY1 (pos := p) hv hk _ _ _ _ _ _ Z k1)) fun y_ s₁ io₁ m₁ r₁ e st H kF sm => ?_
   cases e
   exact bR6 t (Z.stepO H st kF) (k2.step st)
theorem cJ2 (hh : A.handled = none) {is : List Nat} {elts : List Expr} {x1 : Nat} (ht : Tgs env vis is elts) : SiA W A fs env vis (.Tuple elts x1 pos) (fun v r => aJ6 (.many is) v r) := by
 intro s io m r v u Z k
 induction k using VR.elim with
 | @tup a vs c xs h1 h4 =>
  show Si W (cA env) A (env :: fs) (RP W env vis) _ s io m (ofO (eN is xs r) m)
  intro hne
  have hl : is.length = xs.length := by
   cases q : eN is xs r with
   | none => rw [q] at hne; exact absurd rfl hne
   | some r' => exact aG8 q
  refine wpAny_assign_Tuple hh ⟨_, h1, rfl, c, rfl⟩ (by rw [ht.len.1, hl]; have := h4.length; simpa using this.symm) ht.len.2 fun h' hx => ?_
  have hk : ∀ b o, s.heap.get? b = some o -> h'.get? b = some o := fun b o e => hx b o (fun q => by rw [q, aR] at e; cases e) e
  have st : Step (cA env) (frs (env :: fs)) s.heap io m h' io m := .of_keeps Z.H hk
  have st0 : Step [] (frs (env :: fs)) s.heap io m h' io m := .of_keeps Z.H hk
  have Z' : Stt W fs env vis { s with heap := h' } io m r := Z.step (Z.H.of_keeps hk) st0
  exact wpAny_mono (bR6 ht Z' (h4.step st) hne) (fun y_ y_ z => z.mono st ⟨rfl, rfl⟩) fun y_ y_ z => z
 | _ => exact Si.bad
end
end Mini
namespace Mini
open PySem PySem.W
section
variable {W : Wd} {K : Frag} {h h' : Heap} {fs : List Env} {env : Env} {vis : List (Option Str)} {s s' : Shared} {io io' io₀ : Io} {m m' m₀ : MH} {r r' : Lo} {fr own own' : List Addr} {A : Around} {n : Nat} {pos p : Pos}
inductive WInv (W : Wd) (fs : List Env) (env : Env) (vis : List (Option Str)) (s : Shared) (io : Io) (m : MH) (ct : Lo -> Mn Bool) (cb : Lo -> Mn (Fl × Lo)) (R : Res (Fl × Lo)) (k : Nat) (s' : Shared) : Prop
 | mk (r' : Lo) (io' : Io) (m' : MH) : Step (cA env) (frs (env :: fs)) s.heap io m s'.heap io' m' -> HR W s'.heap io' m' -> FR W s'.heap io' env vis r' -> Same s s' -> aF9 ct cb k r' m' = R -> WInv W fs env vis s io m ct cb R k s'
theorem cK1 {test : Expr} {body : List Stmt} {ct : Lo -> Mn Bool} {cb : Lo -> Mn (Fl × Lo)} {fuel : Nat} (ht : SiB W A (env :: fs) env vis (isTrue test env (eval test env)) ct) (hb : SiS W A fs env vis (execs body env) cb) :
  SiS W A fs env vis (exec (.While test body [] pos) env) (fun r => aF9 ct cb fuel r) := by
 intro s io m r Z hne
 dsimp only at hne ⊢
 refine wpAny_While ?_
 refine codeAny_whileLoop (I := WInv W fs env vis s io m ct cb (aF9 ct cb fuel r m)) (fun k s' hI => ?_) fuel ⟨r, io, m, .refl, Z.H, Z.F, .refl _, rfl⟩
 obtain ⟨r', io', m', st, H, F, sm, he⟩ := hI
 rw [<- he] at hne
 cases k with
 | zero => exact absurd rfl hne
 | succ k =>
  simp only [aF9] at he hne
  have Z' : Stt W fs env vis s' io' m' r' := Z.stepO H st F
  have hne1 : ct r' m' ≠ .bad := fun q => hne (by show ((ct r' m').nox).bind _ = _; rw [q]; rfl)
  refine wpAny_mono (ht s' io' m' r' Z'.sit hne1) (fun b s₂ q => ?_) fun e s₂ q => ?_
  rotate_left
  ·exact q.elim
  obtain ⟨b', m₂, io₂, e2, st2, H2, rfl, sm2⟩ := q
  have Z2 := Z'.step H2 st2
  have st2' := st.trans (st2.wk (own' := cA env) fun y_ q => nomatch q)
  have e3 : ∀ f : Bool -> Mn (Fl × Lo), bnd (fun m => (ct r' m).nox) f m' = f b' m₂ := fun f => by show ((ct r' m').nox).bind _ = _; rw [e2]; rfl
  rw [e3] at he hne
  cases b' with
  | false => exact wpAny_execs_nil ⟨(.next, r'), m₂, io₂, he.symm, st2', H2, ⟨.next, Z2.F⟩, sm.trans sm2⟩
  | true =>
   simp only [if_true] at he hne ⊢
   have hne2 : cb r' m₂ ≠ .bad := fun q => hne (by show ((cb r' m₂).nox).bind _ = _; rw [q]; rfl)
   refine wpAny_mono (hb s₂ io₂ m₂ r' Z2 hne2) (fun f s₄ q => ?_) fun e s₄ q => ?_
   rotate_left
   ·exact q.elim
   obtain ⟨⟨fl, r₄⟩, m₄, io₄, e5, st4, H4, ⟨kf, F4⟩, sm4⟩ := q
   have e6 : ∀ f : Fl × Lo -> Mn (Fl × Lo), bnd (fun m => (cb r' m).nox) f m₂ = f (fl, r₄) m₄ := fun f => by show ((cb r' m₂).nox).bind _ = _; rw [e5]; rfl
   rw [e6] at he hne
   have st4' := st2'.trans st4
   have sm4' := (sm.trans sm2).trans sm4
   cases kf with
   | next => exact ⟨k, Nat.lt_succ_self _, r₄, io₄, m₄, st4', H4, F4, sm4', he⟩
   | cont => exact ⟨k, Nat.lt_succ_self _, r₄, io₄, m₄, st4', H4, F4, sm4', he⟩
   | ret kv => exact ⟨_, m₄, io₄, he.symm, st4', H4, ⟨.ret kv, F4⟩, sm4'⟩
theorem Wk.range {I : Addr} {a c : Int} {k : Nat} {vs : List V} (hh : A.handled = none) (hk : k = vs.length) (hv : ∀ (i : Nat) (v : V), vs[i]? = some v -> v = .int (a + i * c)) : Wk W A I [I] .none vs (fun i h io => IsRangeIter h I (a + (i : Nat) * c) ((k : Int) - (i : Nat)) c /\ ¬ dE io I) :=
 Wk.of_walks (Walks.range hh I a c k) hk (fun i v u h io e ⟨t, q⟩ => by rw [hv i v e, q]; exact .int _ _) (fun i h ht => ⟨_, _, _, ht, rfl, rfl, by decide⟩) fun b hb => .inl (by simpa using hb)
theorem aL5 {f : Nat -> V} {k i : Nat} {v : V} (h : ((List.range k).map f)[i]? = some v) : v = f i := by
 rw [List.getElem?_map] at h
 cases q : (List.range k)[i]? with
 | none => rw [q] at h; cases h
 | some j =>
  rw [q] at h
  have hk : j = i := by
   rcases List.getElem?_eq_some_iff.mp q with ⟨hlt, e⟩
   simp at e; omega
  cases h; rw [hk]
set_option tactic.hygienic true in
theorem aH3 {a b c : Int} (hc : 0 < c) : Builtin.Range.rangeSize a b c = (((b - a + c - 1) / c).toNat : Int) := by
 unfold Builtin.Range.rangeSize
 simp only [show c > 0 from hc, if_true]
 have e : (b - a + c - 1) / c = (b - a - 1) / c + 1 := by
  have : b - a + c - 1 = (b - a - 1) + 1 * c := by omega
  rw [this, Int.add_mul_ediv_right _ _ (by omega)]
 split
 ·have : 0 <= (b - a - 1) / c := Int.ediv_nonneg (by omega) (by omega)
  omega
 ·rename_i hle
  have h2 : (b - a - 1) / c < 0 := Int.ediv_neg_of_neg_of_pos (by omega) hc
  omega
theorem fitL {i : Int} (h1 : -(2 ^ 40) <= i) (h2 : i <= 2 ^ 40) : Builtin.Range.rangeFitsLong i = true := by
 unfold Builtin.Range.rangeFitsLong
 rw [Bool.and_eq_true]
 exact ⟨decide_eq_true (Int.le_trans (by decide) h1), decide_eq_true (Int.lt_of_le_of_lt h2 (by decide))⟩
theorem near {a : Int} (h : a.natAbs < 2 ^ 31) : -(2 ^ 31) <= a /\ a <= 2 ^ 31 := by omega
theorem cF0 {x c : Int} (hx : 0 <= x) (h : x <= 2 ^ 32) (hc : 0 < c) : -(2 ^ 40) <= x / c + 1 /\ x / c + 1 <= 2 ^ 40 := by
 have h1 : 0 <= x / c := Int.ediv_nonneg hx (Int.le_of_lt hc)
 have h2 : x / c <= x := Int.ediv_le_self _ hx
 clear hc
 omega
theorem gap {a b : Int} (a1 : -(2 ^ 31) <= a) (b2 : b <= 2 ^ 31) (h : a < b) : 0 <= b - a - 1 /\ b - a - 1 <= 2 ^ 32 := by omega
theorem bS5 {b c : Int} (b1 : -(2 ^ 31) <= b) (b2 : b <= 2 ^ 31) (c1 : -(2 ^ 31) <= c) (c2 : c <= 2 ^ 31) : -(2 ^ 40) <= b + (c - 1) /\ b + (c - 1) <= 2 ^ 40 := by omega
theorem aH2 {a b c : Int} (ha : a.natAbs < 2 ^ 31) (hb : b.natAbs < 2 ^ 31) (hc : c.natAbs < 2 ^ 31) (h0 : 0 < c) : Builtin.Range.small a b c = true := by
 rcases near ha with ⟨a1, a2⟩
 rcases near hb with ⟨b1, b2⟩
 rcases near hc with ⟨c1, c2⟩
 have far : ∀ {i : Int}, -(2 ^ 31) <= i -> i <= 2 ^ 31 -> Builtin.Range.rangeFitsLong i = true := fun h1 h2 => fitL (Int.le_trans (by decide) h1) (Int.le_trans h2 (by decide))
 have hs : Builtin.Range.rangeFitsLong (Builtin.Range.rangeSize a b c) = true := by
  unfold Builtin.Range.rangeSize
  rw [if_pos h0]
  by_cases h : a < b
  ·rw [if_pos h]
   have g := gap a1 b2 h
   have d := cF0 g.1 g.2 h0
   exact fitL d.1 d.2
  ·rw [if_neg h]; rfl
 have l := bS5 b1 b2 c1 c2
 unfold Builtin.Range.small
 rw [far a1 a2, far b1 b2, far c1 c2, hs, if_pos h0, fitL l.1 l.2, Bool.or_true]; rfl
theorem fL {vs : List V} {us : List Value} {l : List V} {m : MH} (H : HR W s.heap io m) (k : VRs W s.heap io vs us) (hr : dR vs = some l) {Q : Value -> Shared -> Prop} {E : Value -> Shared -> Prop}
  (hQ : ∀ (a b c : Int) (o : Obj) (tk : Nat) (t u v : Tok), a.natAbs < 2 ^ 31 -> b.natAbs < 2 ^ 31 -> c.natAbs < 2 ^ 31 -> 0 < c -> (l.length : Int) = Builtin.Range.rangeSize a b c -> (∀ (i : Nat) (v : V), l[i]? = some v -> v = .int (a + i * c)) -> IsRange (s.heap.push o) s.heap.objs.size a b c t u v -> Q (.ref s.heap.objs.size) { s with heap := s.heap.push o, toks := tk }) :
  wpAny (model W.prog W.w) A (call (.type "range") us) Q E s := by
 have e30 : (2 : Nat) ^ 30 < 2 ^ 31 := by decide
 have one : ∀ n : Int, vs = [.int n] -> wpAny (model W.prog W.w) A (call (.type "range") us) Q E s := fun n e => by
  subst e
  have hr : (if n.natAbs < 2 ^ 30 then some (fH 0 n) else Option.none) = some l := hr
  by_cases hlt : n.natAbs < 2 ^ 30
  ·rw [if_pos hlt] at hr
   cases hr
   refine VRs.dCons k fun y_ y_ k1 k2 => ?_
   cases k2
   cases k1
   refine call_range_1 (hQ 0 _ 1 _ _ _ _ _ (by decide) (Nat.lt_trans hlt e30) (by decide) (by decide) ?_ (fun i v e => ?_) (.new _ _ _ _ _ _ _))
   ·rw [aH3 (by decide)]; simp [fH]
   ·rw [aL5 e, Int.mul_one]
  ·rw [if_neg hlt] at hr; cases hr
 have two : ∀ a b : Int, vs = [.int a, .int b] -> wpAny (model W.prog W.w) A (call (.type "range") us) Q E s := fun a b e => by
  subst e
  have hr : (if (decide (a.natAbs < 2 ^ 30) && decide (b.natAbs < 2 ^ 30)) = true then some (fH a b) else Option.none) = some l := hr
  by_cases hlt : (decide (a.natAbs < 2 ^ 30) && decide (b.natAbs < 2 ^ 30)) = true
  ·rw [if_pos hlt] at hr
   cases hr
   have h1 := of_decide_eq_true (Bool.and_eq_true_iff.mp hlt).1
   have h2 := of_decide_eq_true (Bool.and_eq_true_iff.mp hlt).2
   refine VRs.dCons k fun y_ y_ k1 k2 => ?_
   refine VRs.dCons k2 fun y_ y_ k2 k3 => ?_
   cases k3; cases k1; cases k2
   refine call_range_2 (hQ _ _ 1 _ _ _ _ _ (Nat.lt_trans h1 e30) (Nat.lt_trans h2 e30) (by decide) (by decide) ?_ (fun i v e => ?_) (.new _ _ _ _ _ _ _))
   ·rw [aH3 (by decide)]; simp [fH]
   ·rw [aL5 e, Int.mul_one]
  ·rw [if_neg hlt] at hr; cases hr
 clear hQ
 cases vs with
 | nil => cases hr
 | cons a vs =>
  cases vs with
  | nil =>
   cases a with
   | int n => exact one n rfl
   | _ => cases hr
  | cons b vs =>
   cases vs with
   | nil =>
    cases a with
    | int a =>
     cases b with
     | int b => exact two a b rfl
     | _ => cases hr
    | _ => cases hr
   | cons c vs => cases a <;> first | cases hr | (cases b <;> cases hr)
theorem bO4 {x : Str} {es : List Expr} {cl : Lo -> Mn (List V)} (hh : A.handled = none) (gl : Gl W K) (e : nsIn K mainGlobals x = some none) (hv : bootBuiltins x = some (.type "range")) (hn : (x == ("__name__" : Str)) = false) (hx : env.kindOf x = some .globalImplicit) (hd : (x == ("__debug__" : Str)) = false) (hs : aS es = true)
  (hl : SiL W A fs env vis (spliced (backTo pos (starEach es env))) cl) : SiSrc W A fs env vis (.Call (.Name x p) es [] pos) (fun r => bnd (cl r) fun vs => match dR vs with | some l => ret (l, .none) | none => bad) := by
 intro s io m r Z hne
 dsimp only at hne ⊢
 refine wpAny_Call_NameR (fI gl Z e hv hn hx hd (callWith_type (cU hs) (cM hs ?_)))
 refine wpAny_mono (hl s io m r Z (Res.bind_ne hne)) (fun us s₁ q => ?_) fun y_ y_ q => q
 obtain ⟨vs, m₁, io₁, e1, st, H, k, sm⟩ := q
 have ee : bnd (cl r) (fun vs => match dR vs with | some l => ret (l, Gd.none) | none => bad) m = (match dR vs with | some l => ret (l, Gd.none) | none => bad) m₁ := by show (cl r m).bind _ = _; rw [e1]; rfl
 rw [ee] at hne ⊢
 show wpAny (model W.prog W.w) A (call (.type "range") us) _ _ s₁
 have fin : ∀ (a b c : Int) (o : Obj) (tk : Nat) (t u v : Tok) (l : List V), a.natAbs < 2 ^ 31 -> b.natAbs < 2 ^ 31 -> c.natAbs < 2 ^ 31 -> 0 < c -> (l.length : Int) = Builtin.Range.rangeSize a b c -> (∀ (i : Nat) (v : V), l[i]? = some v -> v = .int (a + i * c)) -> IsRange (s₁.heap.push o) s₁.heap.objs.size a b c t u v ->
   wpAny (model W.prog W.w) A (pyIter (.ref s₁.heap.objs.size)) (fun it s₂ => NP W [] (frs fs) s io m (ItP W A s.heap) (.ok (l, Gd.none) m₁) it s₂) NX { s₁ with heap := s₁.heap.push o, toks := tk } := by
  intro a b c o tk t u v l ha hb hc h0 hsz hle hr
  have st1 : Step [] (frs fs) s₁.heap io₁ m₁ (s₁.heap.push o) io₁ m₁ := .of_keeps H (aL _)
  have H1 : HR W (s₁.heap.push o) io₁ m₁ := H.of_keeps (aL _)
  refine wpAny_pyIter_range hr (aH2 ha hb hc h0) ?_
  have st2 : Step [] (frs fs) (s₁.heap.push o) io₁ m₁ _ io₁ m₁ := .of_keeps H1 (aL { cls := .type "range_iterator", data := .fields #[rawInt a, rawInt (Builtin.Range.rangeSize a b c), rawInt c] })
  refine ⟨(l, .none), m₁, io₁, rfl, (st.trans st1).trans st2, H1.of_keeps (aL _), ⟨_, _, _, rfl, Wk.range (a := a) (c := c) (k := l.length) hh rfl hle, ⟨?_, ?_⟩, fun b hb => ?_⟩, sm⟩
  ·have := Heap.get?_push_size (h := s₁.heap.push o) (o := { cls := .type "range_iterator", data := .fields #[rawInt a, rawInt (Builtin.Range.rangeSize a b c), rawInt c] }) rfl
   rw [<- hsz] at this ⊢
   simpa [IsRangeIter] using this
  ·exact dD (s := { s₁ with heap := s₁.heap.push o }) H1
  ·rw [List.mem_singleton.mp hb]
   exact cK (st.trans st1) (aR _)
 cases hr : dR vs with
 | none => rw [hr] at hne; exact absurd rfl hne
 | some l => exact fL H k hr fun a b c o tk t u v ha hb hc h0 hsz hle hr => fin a b c o tk t u v l ha hb hc h0 hsz hle hr
end
end Mini
namespace Mini
open PySem PySem.W
section
variable {W : Wd} {K : Frag} {h h' : Heap} {fs : List Env} {env : Env} {vis : List (Option Str)} {s s' : Shared} {io io' io₀ : Io} {m m' m₀ : MH} {r r' : Lo} {fr own own' : List Addr} {A : Around} {n : Nat} {pos p : Pos}
theorem aW6 : ∀ (k : Nat) (l : List V), (aW8 k l).length = l.length
 | _, [] => rfl
 | k, _ :: l => congrArg Nat.succ (aW6 (k + 1) l)
theorem aW7 : ∀ {k i : Nat} {l : List V} {v : V}, (aW8 k l)[i]? = some v -> ∃ x, l[i]? = some x /\ v = .tup [.int ((k + i : Nat) : Int), x]
 | _, _, [], _, h => by cases h
 | k, 0, x :: l, v, h => ⟨x, rfl, (Option.some.inj h).symm⟩
 | k, i + 1, x :: l, v, h => by
  rcases aW7 (k := k + 1) (i := i) (l := l) h with ⟨y, h1, h2⟩
  exact ⟨y, h1, by rw [h2, Nat.add_right_comm]; rfl⟩
theorem aL2 {k : Nat} {xs : List V} (hg : (Gd.list k xs).stays m = true) : m[k]? = some (.list xs) := by
 unfold Gd.stays at hg
 dsimp only at hg
 cases q : m[k]? with
 | none => rw [q] at hg; cases hg
 | some o =>
  rw [q] at hg
  cases o with
  | list ys => rw [aA9 _ _ hg]
  | _ => cases hg
structure EnSt (e it l d : Addr) (k i : Nat) (h : Heap) (io : Io) : Prop where
 en : ∃ old, IsEnum h e it (i : Int) old
 li : h.IsListIter it l i
 at_ : io[k]? = some (l, d)
 ne : ¬ dE io e
 ni : ¬ dE io it
 ei : e ≠ it
theorem Wk.enum {e it l d : Addr} {k : Nat} {xs : List V} {es : List Expr} {x1 : Nat} (hh : A.handled = none) : WkF W A e [e, it] (.list k xs) (aW8 0 xs) (fun i h io => EnSt e it l d k i h io) (.Tuple es x1 pos) where
 soft := fun z_ b hb => by
  rcases z_ with ⟨⟨old, he⟩, ⟨o, ho, hc, hd⟩, y_, ne, ni, y_⟩
  rcases List.mem_cons.mp hb with rfl | hb
  ·exact ⟨ne, fun o' q => by rw [he] at q; cases q; exact bP rfl rfl⟩
  ·rw [List.mem_singleton.mp hb]
   exact ⟨ni, fun o' q => by rw [ho] at q; cases q; exact bP hc hd⟩
 stay := fun z_ H y_ st hb y_ y_ => by
  rcases z_ with ⟨⟨old, he⟩, ⟨o, ho, hc, hd⟩, hi, ne, ni, ei⟩
  have q1 := hb e (.head _)
  have q2 := hb it (.tail _ (.head _))
  exact ⟨⟨old, st.keep _ _ he ne q1.1 q1.2⟩, ⟨o, st.keep _ _ ho ni q2.1 q2.2, hc, hd⟩, st.io_get hi, st.nofoot he ne, st.nofoot ho ni, ei⟩
 next := fun {i s io m v Q E} hv z_ H hg hQ => by
  rcases z_ with ⟨⟨old, he⟩, hit, hi, ne, ni, ei⟩
  have hm := aL2 hg
  rcases H.obj _ _ _ hi hm with ⟨y_, us, c, h1, h2, h3⟩
  rcases aW7 hv with ⟨x, hx, rfl⟩
  rcases h2.get hx with ⟨u, hu, ku⟩
  rcases id hit with ⟨oi, hoi, hci, hdi⟩
  refine wpAny_pyNext_enum_item he hit ⟨_, h1, rfl, c, rfl⟩ (by rw [<- Array.getElem?_toList]; exact hu) ei fun h₁ ho hit₁ hT hsz hk => ?_
  refine hQ _ h₁ (s.toks + 1) fun k => wpAny_letOwnedTupleGo_enum ho fun h₂ he₂ hs₂ => ?_
  have hs₂ : Heap.SameBut e h₁ h₂ := hs₂
  have helt : e < s.heap.objs.size := Heap.lt_size he
  have hk2 : ∀ b o, b ∉ [e, it] -> s.heap.get? b = some o -> h₂.get? b = some o := fun b o hb q => (hs₂.2 b fun z => hb (by rw [z]; exact .head _)).trans (hk b o (fun z => hb (by rw [z]; exact .head _)) (fun z => hb (by rw [z]; exact .tail _ (.head _))) q)
  have sol : ∀ b o, s.heap.get? b = some o -> c8 o -> h₂.get? b = some o := fun b o q so => hk2 b o (fun z => by
   rcases List.mem_cons.mp z with rfl | z
   ·rw [he] at q; cases q; exact bP rfl rfl so
   ·rw [List.mem_singleton.mp z, hoi] at q; cases q; exact bP hci hdi so) q
  refine k h₂ (VR.tup (vs := #[.int (i : Int) s.toks, u]) (n := 0) ((hs₂.2 _ (Nat.ne_of_gt helt)).trans hT) (.cons ?_ (.cons (ku.sol sol) .nil))) ⟨⟨u, ?_⟩, ?_, hi, ne, ni, ei⟩ hk2
  ·rw [Nat.zero_add]; exact .int _ _
  ·have : IsEnum h₂ e it ((i : Int) + 1) u := he₂
   exact this
  ·rcases hit₁ with ⟨o2, g1, g2, g3⟩
   exact ⟨o2, (hs₂.2 it fun z => ei z.symm).trans g1, g2, g3⟩
 done := fun {s io m Q E} z_ H hg hQ => by
  rcases z_ with ⟨⟨old, he⟩, hit, hi, ne, ni, ei⟩
  have hm := aL2 hg
  rcases H.obj _ _ _ hi hm with ⟨y_, us, c, h1, h2, h3⟩
  have hl := h2.length
  refine wpAny_pyNext_enum_end hh he hit ⟨_, h1, rfl, c, rfl⟩ (Array.getElem?_eq_none (by rw [aW6]; simp at hl; omega)) fun h' hx => hQ h' s.toks fun b o hb q => hx b o (fun z => hb (by rw [z]; exact .tail _ (.head _))) q
theorem bZ8 {x : Str} {es : List Expr} {cl : Lo -> Mn (List V)} {ts : List Expr} {x1 : Nat} {tp : Pos} (hh : A.handled = none) (gl : Gl W K) (e : nsIn K mainGlobals x = some none) (hv : bootBuiltins x = some (.type "enumerate")) (hn : (x == ("__name__" : Str)) = false) (hx : env.kindOf x = some .globalImplicit) (hd : (x == ("__debug__" : Str)) = false) (hs : aS es = true)
  (hl : SiL W A fs env vis (spliced (backTo pos (starEach es env))) cl) : bC3 W A fs env vis (.Tuple ts x1 tp) (.Call (.Name x p) es [] pos) (fun r => bnd (cl r) (fC .enum)) := by
 intro s io m r Z hne
 dsimp only at hne ⊢
 refine wpAny_Call_NameR (fI gl Z e hv hn hx hd (callWith_type (cU hs) (cM hs ?_)))
 refine wpAny_mono (hl s io m r Z (Res.bind_ne hne)) (fun us s₁ q => ?_) fun y_ y_ q => q
 obtain ⟨vs, m₁, io₁, e1, st, H, k, sm⟩ := q
 have ee : bnd (cl r) (fC .enum) m = fC .enum vs m₁ := by show (cl r m).bind _ = _; rw [e1]; rfl
 rw [ee] at hne ⊢
 show wpAny (model W.prog W.w) A (call (.type "enumerate") us) _ _ s₁
 induction k using VRs.elim with
 | nil => exact absurd rfl hne
 | @cons v u vs us k1 k2 =>
  induction k2 using VRs.elim with
  | cons y_ y_ => exact absurd rfl hne
  | nil =>
   induction k1 using VR.elim with
   | @ref q a d hi =>
    have key : ∀ o, m₁[q]? = o -> fC .enum [.ref q] m₁ = (match (generalizing := false) o with | some (.list xs) => .ok (aW8 0 xs, .list q xs) m₁ | _ => .bad) := fun o ho => by subst ho; rfl
    cases hm : m₁[q]? with
    | none => exact absurd (key _ hm) hne
    | some o =>
     cases o with
     | list xs =>
      rw [key _ hm]
      obtain ⟨y_, ws, c, h1, h2, h3⟩ := H.obj _ _ _ hi hm
      refine call_enumerate_list ⟨_, h1, rfl, c, rfl⟩ fun h' he hit hz hk => wpAny_pyIter_enum he ?_
      have st1 : Step [] (frs fs) s₁.heap io₁ m₁ h' io₁ m₁ := .of_keeps H hk
      have H1 : HR W h' io₁ m₁ := H.of_keeps hk
      have dead : ∀ b, s₁.heap.objs.size <= b -> s₁.heap.get? b = none := fun b hb => by
       cases z : s₁.heap.get? b with
       | none => rfl
       | some o => exact absurd (Heap.lt_size z) (Nat.not_lt.mpr hb)
      have nf : ∀ b, s₁.heap.objs.size <= b -> ¬ dE io₁ b := fun b hb f => by
       rcases H.foot f with ⟨o, z, y_⟩
       rw [dead b hb] at z; cases z
      refine ⟨(aW8 0 xs, .list q xs), m₁, io₁, rfl, st.trans st1, H1, ⟨_, _, _, rfl, Wk.enum (l := a) (d := d) hh, ⟨⟨_, he⟩, hit, hi, nf _ (Nat.le_succ _), nf _ (Nat.le_refl _), Nat.succ_ne_self _⟩, fun b hb => ?_⟩, sm⟩
      rcases List.mem_cons.mp hb with rfl | hb
      ·exact cK st (dead _ (Nat.le_succ _))
      ·rw [List.mem_singleton.mp hb]; exact cK st (dead _ (Nat.le_refl _))
     | _ => exact absurd (key _ hm) hne
   | _ => exact absurd rfl hne
end
end Mini
namespace Mini
open PySem PySem.W
theorem aF7 {names : List Str} {us : List Value} (h : us.length = names.length) : ∀ n ∈ names, ((names.zip us).lookup n).isNone = false := by
 induction names generalizing us with
 | nil => intro n hn; cases hn
 | cons a as ih =>
  cases us with
  | nil => cases h
  | cons u us =>
   intro n hn
   simp only [List.zip_cons_cons, List.lookup_cons]
   cases q : n == a with
   | true => rfl
   | false =>
    rcases List.mem_cons.mp hn with rfl | hn
    ·simp at q
    ·exact ih (by simpa using h) n hn
theorem aQ5 {names : List Str} {us : List Value} (h : us.length = names.length) (hd : names.Nodup) : (names.filterMap fun n => ((names.zip us).lookup n).map (n, ·)) = names.zip us := by
 have key : ∀ (ns : List Str) (vs : List Value) (g : Str -> Option Value), vs.length = ns.length -> ns.Nodup -> (∀ n v, (n, v) ∈ ns.zip vs -> g n = some v) -> (ns.filterMap fun n => (g n).map (n, ·)) = ns.zip vs := by
  intro ns
  induction ns with
  | nil => intro vs g _ _ _; simp
  | cons a as ih =>
   intro vs g hl hn hg
   cases vs with
   | nil => cases hl
   | cons u us =>
    have h1 := hg a u (by simp)
    rw [List.filterMap_cons]
    simp only [h1, Option.map_some, List.zip_cons_cons]
    rw [ih us g (by simpa using hl) (List.nodup_cons.mp hn).2 fun n v e => hg n v (by simp [e])]
 refine key names us _ h hd fun n v e => ?_
 clear key
 induction names generalizing us with
 | nil => simp at e
 | cons a as ih =>
  cases us with
  | nil => simp at e
  | cons u us =>
   simp only [List.zip_cons_cons, List.mem_cons, Prod.mk.injEq] at e
   simp only [List.zip_cons_cons, List.lookup_cons]
   rcases e with ⟨rfl, rfl⟩ | e
   ·simp
   ·have : n ≠ a := fun q => (List.nodup_cons.mp hd).1 (q ▸ (List.of_mem_zip e).1)
    have : (n == a) = false := by simpa using this
    rw [this]
    exact ih (by simpa using h) (List.nodup_cons.mp hd).2 e
theorem aK8 {fd : FuncData} {us : List Value} (hp : fd.params.posonlyargs = []) (hk : fd.params.kwonlyargs = []) (hv : fd.params.vararg = none) (hw : fd.params.kwarg = none) (hd : fd.defaults = .none) (hn : (fd.params.args.map (·.arg)).Nodup) (hl : us.length = fd.params.args.length) :
  bindArgs fd ⟨us, []⟩ = Pure.pure ((fd.params.args.map (·.arg)).zip us) := by
 have hm : ∀ k, ((List.take k (fd.params.args.map (·.arg))).filter fun n => (((fd.params.args.map (·.arg)).zip us).lookup n).isNone) = [] := by
  intro k
  rw [List.filter_eq_nil_iff]
  intro n hn' q
  rw [aF7 (by simpa using hl) n (List.mem_of_mem_take hn')] at q
  cases q
 have hz := aQ5 (names := fd.params.args.map (·.arg)) (us := us) (by simpa using hl) hn
 rw [List.filterMap_map] at hz
 have e1 : seqItems? Value.none = Pure.pure none := rfl
 unfold bindArgs
 simp [hp, hk, hv, hw, hd, hl, e1, hm]
 exact congrArg Pure.pure hz
section
variable {W : Wd} {K : Frag} {h h' h₀ : Heap} {fs : List Env} {env : Env} {vis : List (Option Str)} {s s' : Shared} {io io' io₀ : Io} {m m' m₀ : MH} {r r' : Lo} {fr fr' own own' : List Addr} {A : Around} {n : Nat} {pos p : Pos}
theorem Step.shrink (H : HR W h₀ io m) (x : Step own fr h io m h' io' m') (k : ∀ b o, h₀.get? b = some o -> h.get? b = some o) (ho : ∀ b ∈ own, h₀.get? b = none \/ b ∈ own') (hf : ∀ b ∈ fr, h₀.get? b = none \/ b ∈ fr') : Step own' fr' h₀ io m h' io' m' := by
 have oo : ∀ b o, h₀.get? b = some o -> b ∉ own' -> b ∉ own := fun b o e q w => by
  rcases ho b w with z | z
  ·rw [z] at e; cases e
  ·exact q z
 have ff : ∀ b o, h₀.get? b = some o -> b ∉ fr' -> b ∉ fr := fun b o e q w => by
  rcases hf b w with z | z
  ·rw [z] at e; cases e
  ·exact q z
 refine ⟨fun b o e => x.alive b o (k b o e), fun b o e so => x.solid b o (k b o e) so, fun b o e f1 f2 f3 => x.keep b o (k b o e) f1 (oo b o e f2) (ff b o e f3), fun b o e f1 f2 => x.slots b o (k b o e) f1 (oo b o e f2), ?_, ?_⟩
 ·obtain ⟨new, e, hn⟩ := x.grow
  have back : ∀ b, h.get? b = none -> h₀.get? b = none := fun b e => by
   cases q : h₀.get? b with
   | none => rfl
   | some o => rw [k b o q] at e; cases e
  exact ⟨new, e, fun p hp => ⟨back _ (hn p hp).1, back _ (hn p hp).2⟩⟩
 ·intro i p kvs e hi hm
  obtain ⟨k', e', q1, q2, q3⟩ := x.dicts i p kvs e hi hm
  refine ⟨k', e', q1, q2, fun q => ⟨?_, (q3 q).2⟩⟩
  rcases H.there hi with ⟨o, ho⟩
  rw [(q3 q).1, ho, k _ _ ho]
theorem aJ2 {kind : Str -> Option NameKind} {y : Str} : ∀ (binds : List (Str × Value)) (mp : Str -> Option Value), y ∉ binds.map (·.1) -> bindL kind binds mp y = mp y
 | [], _, _ => rfl
 | (n, v) :: r, mp, h => by
  simp only [List.map_cons, List.mem_cons, not_or] at h
  simp only [bindL]
  rw [aJ2 r _ h.2]
  split
  ·simp [h.1]
  ·rfl
theorem aJ3 {kind : Str -> Option NameKind} {y : Str} : ∀ (binds : List (Str × Value)) (mp : Str -> Option Value), y ∉ binds.map (·.1) -> bindC kind binds mp y = mp y
 | [], _, _ => rfl
 | (n, v) :: r, mp, h => by
  simp only [List.map_cons, List.mem_cons, not_or] at h
  simp only [bindC]
  rw [aJ3 r _ h.2]
  split
  ·rfl
  ·simp [h.1]
theorem aX2 {kind : Str -> Option NameKind} {y : Str} {u : Value} (hk : kind y = some .local) : ∀ (binds : List (Str × Value)) (mp : Str -> Option Value), (binds.map (·.1)).Nodup -> (y, u) ∈ binds -> bindL kind binds mp y = some u
 | [], _, _, h => nomatch h
 | (n, v) :: r, mp, hn, h => by
  simp only [List.map_cons, List.nodup_cons] at hn
  simp only [bindL]
  rcases List.mem_cons.mp h with e | h
  ·cases e
   rw [aJ2 r _ hn.1]; simp [hk]
  ·exact aX2 hk r _ hn.2 h
theorem aX3 {kind : Str -> Option NameKind} {y : Str} {u : Value} (hk : kind y = some .cell) : ∀ (binds : List (Str × Value)) (mp : Str -> Option Value), (binds.map (·.1)).Nodup -> (y, u) ∈ binds -> bindC kind binds mp y = some u
 | [], _, _, h => nomatch h
 | (n, v) :: r, mp, hn, h => by
  simp only [List.map_cons, List.nodup_cons] at hn
  simp only [bindC]
  rcases List.mem_cons.mp h with e | h
  ·cases e
   rw [aJ3 r _ hn.1]; simp [hk]
  ·exact aX3 hk r _ hn.2 h
theorem aI2 {kindOf : Str -> Option NameKind} {names : List Str} {np : Nat} {vs : List V} {us : List Value} {i : Nat} {x : Str} {v : V} (hl : vs.length = np) (hu : VRs W h io vs us) (hv : (names.map some)[i]? = some (some x)) (hr : (vs.map some ++ List.replicate (names.length - np) (none : Option V))[i]? = some (some v)) :
  ∃ u, (x, u) ∈ (names.take np).zip us /\ VR W h io v u := by
 have hi : i < vs.length := by
  rcases Nat.lt_or_ge i vs.length with q | q
  ·exact q
  ·rw [List.getElem?_append_right (by simpa using q)] at hr
   have := List.mem_of_getElem? hr
   simp at this
 rw [List.getElem?_append_left (by simpa using hi), List.getElem?_map] at hr
 cases q : vs[i]? with
 | none => rw [q] at hr; cases hr
 | some v' =>
  rw [q] at hr; cases hr
  obtain ⟨u, hu', ku⟩ := hu.get q
  refine ⟨u, ?_, ku⟩
  rw [List.getElem?_map] at hv
  have hx : names[i]? = some x := by
   cases w : names[i]? with
   | none => rw [w] at hv; cases hv
   | some y => rw [w] at hv; cases hv
  have : ((names.take np).zip us)[i]? = some (x, u) := by
   rw [List.getElem?_zip_eq_some]
   exact ⟨by rw [List.getElem?_take_of_lt (by omega)]; exact hx, hu'⟩
  exact List.mem_of_getElem? this
theorem bU3 {scope : Scope} {names : List Str} {np : Nat} {vs : List V} {us : List Value} {binds : List (Str × Value)} {qual : Str} {func : Option Addr} {code : Value} (H : HR W s.heap io m) (G : FF W s.heap io fs) (hl : vs.length = np) (hnp : np <= names.length) (hu : VRs W s.heap io vs us)
  (hk : scope.kind = .function) (hn : names.Nodup) (hkind : ∀ x ∈ names, scope.names.lookup x = some .local \/ scope.names.lookup x = some .cell) (hb : binds = (names.take np).zip us)
  (he : env = newEnv scope s.heap.objs.size mainGlobals (cellsFrom (s.heap.objs.size + 1) scope.names []) qual func code none builtinsNs) (hI : InCallC s env.locals (bindL env.kindOf binds fun y_ => none) env.cells (bindC env.kindOf binds fun y_ => none) s') :
  Stt W fs env (names.map some) s' io m (vs.map some ++ List.replicate (names.length - np) none) /\ (∀ b ∈ cA env, s.heap.get? b = none) := by
 have hloc : env.locals = s.heap.objs.size := by rw [he]; rfl
 have hkd : ∀ x, env.kindOf x = scope.names.lookup x := fun x => by rw [he]; rfl
 have keep := hI.toInCall.keep
 have hsz : us.length = np := by rw [hu.length, hl]
 have bn : binds.map (·.1) = names.take np := by
  rw [hb, List.map_fst_zip (by rw [hsz]; simp; omega)]
 have bnd' : (binds.map (·.1)).Nodup := by rw [bn]; exact hn.sublist (List.take_sublist _ _)
 have up : ∀ b, s.heap.objs.size <= b -> s.heap.get? b = none := fun b hb => by
  cases q : s.heap.get? b with
  | none => rfl
  | some o => exact absurd (Heap.lt_size q) (Nat.not_lt.mpr hb)
 have celUp : ∀ q ∈ env.cells, s.heap.get? q.2 = none := fun q hq => up _ (by have := hI.above q.1 q.2 hq; rw [hloc] at this; exact Nat.le_of_lt this)
 have basN : ∀ b, s.heap.get? b = none -> W.base.get? b = none := fun b e => by
  cases q : W.base.get? b with
  | none => rfl
  | some o => rw [H.keep _ _ q] at e; cases e
 have nfN : ∀ b, s.heap.get? b = none -> ¬ dE io b := fun b e f => by
  obtain ⟨o, ho, y_⟩ := H.foot f
  rw [e] at ho; cases ho
 have st : Step [] [] s.heap io m s'.heap io m := .of_keeps H keep
 have own0 : ∀ b ∈ cA env, s.heap.get? b = none := fun b hb => by
  rcases List.mem_cons.mp hb with rfl | hb
  ·exact up _ (by rw [hloc]; exact Nat.le_refl _)
  ·obtain ⟨q, hq, e⟩ := List.mem_filterMap.mp hb
   exact celUp _ (mem_of_lookup e)
 have cex : ∀ x, scope.names.lookup x = some .cell -> ∃ c, env.cells.lookup x = some c := fun x hx => by
  have := cellsFrom_some scope.names (s.heap.objs.size + 1) [] (x := x) (.inl hx)
  have e : env.cells = cellsFrom (s.heap.objs.size + 1) scope.names [] := by rw [he]; rfl
  rw [e]
  exact Option.isSome_iff_exists.mp this
 have memNames : ∀ (i : Nat) (x : Str), (names.map some)[i]? = some (some x) -> names[i]? = some x := fun i x hv => by
  rw [List.getElem?_map] at hv
  cases w : names[i]? with
  | none => rw [w] at hv; cases hv
  | some y => rw [w] at hv; cases hv
 have nofree : ∀ (i : Nat) (x : Str), (names.map some)[i]? = some (some x) -> env.kindOf x ≠ some .free := fun i x hv q => by
  rw [hkd] at q
  rcases hkind x (List.mem_of_getElem? (memNames i x hv)) with e | e <;> rw [q] at e <;> cases e
 refine ⟨⟨H.of_keeps keep, ⟨?_, ?_, ?_, ?_, ?_, ⟨_, hI.toInCall.ns, fun i x v h1 h2 h3 => ?_⟩, fun i x v h1 h2 h3 => ?_, fun x c hc => ?_, fun i x h1 h2 => ?_, fun x y c h1 h2 => ?_, fun i j x h1 h2 => ?_, ?_⟩, G.step0 st, ?_, fun L hL q => ?_⟩, own0⟩
 ·rw [he]; exact hk
 ·rw [he]; rfl
 ·rw [he]; rfl
 ·exact nfN _ (own0 _ (.head _))
 ·exact basN _ (own0 _ (.head _))
 ·obtain ⟨u, hm, ku⟩ := aI2 (kindOf := env.kindOf) hl hu h1 h2
  exact ⟨u, aX2 h3 binds _ bnd' (hb ▸ hm), ku.step st⟩
 ·rcases h3 with h3 | h3
  ·obtain ⟨u, hm, ku⟩ := aI2 (kindOf := env.kindOf) hl hu h1 h2
   rcases cex x (by rw [<- hkd]; exact h3) with ⟨c, hc⟩
   refine ⟨c, u, hc, ?_, ku.step st⟩
   have := hI.cell x c hc
   rwa [aX3 h3 binds _ bnd' (hb ▸ hm)] at this
  ·exact absurd h3 (nofree i x h1)
 ·have hm := mem_of_lookup hc
  exact ⟨⟨_, hI.cell x c hc⟩, basN _ (celUp _ hm), fun e => by have := hI.above x c hm; rw [e] at this; exact absurd this (Nat.lt_irrefl _)⟩
 ·rcases h2 with h2 | h2
  ·exact cex x (by rw [<- hkd]; exact h2)
  ·exact absurd h2 (nofree i x h1)
 ·have h1' := mem_of_lookup h1
  have h2' := mem_of_lookup h2
  have : ∀ (l : List (Str × Addr)), l.Pairwise (fun x y => x.2 ≠ y.2) -> ∀ a ∈ l, ∀ b ∈ l, a.2 = b.2 -> a = b := by
   intro l hp
   induction l with
   | nil => intro a ha; cases ha
   | cons z zs ih =>
    rcases List.pairwise_cons.mp hp with ⟨p1, p2⟩
    intro a ha b hb e
    rcases List.mem_cons.mp ha with ea | ha' <;> rcases List.mem_cons.mp hb with eb | hb'
    ·rw [ea, eb]
    ·rw [ea] at e; exact absurd e (p1 b hb')
    ·rw [eb] at e; exact absurd e.symm (p1 a ha')
    ·exact ih p2 a ha' b hb' e
  exact congrArg Prod.fst (this _ hI.apart _ h1' _ h2' rfl)
 ·have e1 := memNames i x h1
  have e2 := memNames j x h2
  exact (List.getElem?_inj (List.getElem?_eq_some_iff.mp e1).1 hn).mp (e1.trans e2.symm)
 ·simp [hl]; omega
 ·rw [he]; rfl
 ·have := own0 L q
  refine hide fun G_ g_ => ?_
  rcases List.mem_filterMap.mp hL with ⟨e, hee, hf⟩
  rcases G e hee with ⟨y_, L', o, y_, y_, h1, y_, y_, h4, y_⟩
  refine g_ ?_
  clear g_ G_
  rw [h1] at hf; cases hf; rw [this] at h4; cases h4
end
end Mini
namespace Mini
open PySem PySem.W
noncomputable def bT6 (K : Frag) (fd : FuncData) (d : FnD) : Bool :=
 fd.scope.kind == .function && !fd.scope.isCoroutine && !fd.scope.isGenerator && fd.globals == mainGlobals && fd.builtins == builtinsNs && fd.closure.isEmpty && fd.params.posonlyargs.isEmpty && fd.params.kwonlyargs.isEmpty && fd.params.vararg.isNone && fd.params.kwarg.isNone &&
 (match fd.defaults with | .none => true | _ => false) && decide (fd.params.args.map (·.arg) = d.names.take d.np) && decide (d.np <= d.names.length) && decide d.names.Nodup && (d.names.all fun x => fd.scope.names.lookup x == some .local || fd.scope.names.lookup x == some .cell) && codeIn K fd.code fd.qualname
section
variable {W : Wd} {K : Frag} {h h' h₀ : Heap} {fs : List Env} {env : Env} {vis : List (Option Str)} {s s' : Shared} {io io' io₀ : Io} {m m' m₀ : MH} {r r' : Lo} {fr fr' own own' : List Addr} {A : Around} {n : Nat} {pos p : Pos}
theorem AR.deeper {A : Around} (R : AR A fs (n + 1)) (env : Env) : AR (A.deeper env) (env :: fs) n :=
 ⟨by show A.frames.map (env :: ·) = _; rw [R.frames]; rfl, by have := R.depth; show A.depth + 1 + 4 * n <= 900; omega, by have := R.units; show A.units + 3 + 40 * n + 400 <= 9000; omega⟩
set_option tactic.hygienic true in
theorem cF4 {a : Addr} {o : Obj} {fd : FuncData} {body : List Stmt} {d : FnD} {Fb : Lo -> Mn (Fl × Lo)} (gl : Gl W K) (R : AR A fs (n + 1)) (ho : K.lookup a = some o) (hdata : o.data = .func fd) (hh : bT6 K fd d = true) (hb : fd.body = .stmts body)
  (hbody : ∀ env : Env, env.scope = fd.scope -> SiS W (A.deeper env) fs env (d.names.map some) (execs body env) Fb) :
  SiK W A fs (.ref a) (fun vs => if vs.length = d.np then bnd (Fb (vs.map some ++ List.replicate (d.names.length - d.np) none)) dA4 else bad) := by
 intro s io m vs us H G hu
 dsimp only
 simp only [bT6, Bool.and_eq_true, beq_iff_eq, Bool.not_eq_true', decide_eq_true_eq, List.isEmpty_iff, Option.isNone_iff_eq_none] at hh
 obtain ⟨⟨⟨⟨⟨⟨⟨⟨⟨⟨⟨⟨⟨⟨⟨h1, h2⟩, h3⟩, h4⟩, h5⟩, h6⟩, h7⟩, h8⟩, h9⟩, h10⟩, h11⟩, h12⟩, h13⟩, h14⟩, h15⟩, h16⟩ := hh
 have hdef : fd.defaults = .none := by
  cases q : fd.defaults <;> rw [q] at h11 <;> first | rfl | (exact absurd h11 Bool.false_ne_true)
 split
 ·rename_i hl
  intro hne
  have hlen : us.length = fd.params.args.length := by
   have := congrArg List.length h12
   simp at this
   rw [hu.length, hl]; omega
  have hnd : (fd.params.args.map (·.arg)).Nodup := by rw [h12]; exact h14.sublist (List.take_sublist _ _)
  refine codeAny_call_function (by have := R.depth; simp only [recursionLimit]; omega) (H.get gl ho) hdata h2 h3 hb ((codeRec_of gl.X h16).keeps H.keep) ?_
  rw [aK8 h7 h8 h9 h10 hdef hnd hlen]
  refine wpAny_pure ?_
  rw [h4, h5, h6]
  have hkinds : ∀ x ∈ d.names, fd.scope.names.lookup x = some .local \/ fd.scope.names.lookup x = some .cell := fun x hx => by
   have := List.all_eq_true.mp h15 x hx
   simpa using this
  refine wpAny_newFunctionEnv_cells h1 (fun x hx => ?_) fun env he s₂ hI => ?_
  ·have hxn : x.1 ∈ d.names := by
    have := (List.of_mem_zip (show (x.1, x.2) ∈ _ from hx)).1
    rw [h12] at this
    exact List.mem_of_mem_take this
   rcases hkinds _ hxn with e | e
   ·exact .inl e
   ·exact .inr ⟨e, cellsFrom_some _ _ _ (.inl e)⟩
  ·rw [h12] at hI
   rcases bU3 H G hl h13 hu h1 h14 hkinds rfl he hI with ⟨Z, own0⟩
   have keep := hI.toInCall.keep
   obtain ⟨hs, htk, hse⟩ := hI.toInCall.same
   have sm : Same s s₂ := by rw [hse]; exact ⟨rfl, rfl⟩
   refine ⟨gl.ok.nolimit.keeps (fun b o e => keep b o (H.keep b o e)), codeAny_func ?_⟩
   have hsc : env.scope = fd.scope := by rw [he]; rfl
   refine wpAny_mono (hbody env hsc s₂ io m _ Z (Res.bind_ne hne)) (fun f s₃ q => ?_) fun e s₃ q => ?_
   ·obtain ⟨⟨fl, r₃⟩, m₃, io₃, e3, st3, H3, ⟨kf, F3⟩, sm3⟩ := q
    have frs' : ∀ b ∈ frs (env :: fs), s.heap.get? b = none \/ b ∈ frs fs := fun b hb => by
     have e : frs (env :: fs) = env.locals :: frs fs := by simp [frs, Z.fr]
     rw [e] at hb
     rcases List.mem_cons.mp hb with rfl | hb
     ·exact .inl (own0 _ (.head _))
     ·exact .inr hb
    have st0 : Step [] (frs fs) s.heap io m s₃.heap io₃ m₃ := st3.shrink H keep (fun b hb => .inl (own0 b hb)) frs'
    have ee : ∀ g : Fl × Lo -> Mn V, bnd (Fb (vs.map some ++ List.replicate (d.names.length - d.np) none)) g m = g (fl, r₃) m₃ := fun g => by show (Fb _ m).bind _ = _; rw [e3]; rfl
    rw [ee] at hne ⊢
    cases kf with
    | next => exact ⟨_, m₃, io₃, rfl, st0, H3, .none, sm.trans sm3⟩
    | cont => exact absurd rfl hne
    | ret kv => exact ⟨_, m₃, io₃, rfl, st0, H3, kv, sm.trans sm3⟩
   ·exact q.elim
 ·exact fun h => absurd rfl h
end
end Mini
namespace Mini
open PySem PySem.W
section
variable {W : Wd} {K : Frag} {h h' h₀ : Heap} {fs : List Env} {env : Env} {vis : List (Option Str)} {s s' : Shared} {io io' io₀ : Io} {m m' m₀ : MH} {r r' : Lo} {fr fr' own own' : List Addr} {A : Around} {n : Nat} {pos p : Pos}
theorem bK4 {scope : Scope} (hc : ∀ x k, (x, k) ∈ scope.names -> k = .free -> ∃ c, env.cells.lookup x = some c) :
    ∃ cl, closureFor scope env = Pure.pure cl /\ (∀ x c, cl.lookup x = some c -> env.cells.lookup x = some c) /\ (∀ x, (x, NameKind.free) ∈ scope.names -> ∃ c, cl.lookup x = some c) := by
  have key : ∀ (l : List (Str × NameKind)) (f : (Str × NameKind) -> List (Str × Addr) -> Sem (ForInStep (List (Str × Addr)))) (cs : List (Str × Addr)),
      (∀ x k cs, f (x, k) cs = if k == .free then (do let c <- cellOf env x; Pure.pure (.yield ((x, c) :: cs))) else Pure.pure (.yield cs)) ->
      (∀ x k, (x, k) ∈ l -> k = .free -> ∃ c, env.cells.lookup x = some c) -> (∀ x c, cs.lookup x = some c -> env.cells.lookup x = some c) ->
      ∃ cl, forIn l cs f = Pure.pure cl /\ (∀ x c, cl.lookup x = some c -> env.cells.lookup x = some c) /\ (∀ x, (x, NameKind.free) ∈ l -> ∃ c, cl.lookup x = some c) /\ (∀ x c, cs.lookup x = some c -> ∃ c', cl.lookup x = some c') := by
    intro l
    induction l with
    | nil => intro f cs _ _ h2; exact ⟨cs, rfl, h2, fun y_ q => (by cases q), fun x c q => ⟨c, q⟩⟩
    | cons p l ih =>
      intro f cs hf hl h2
      rcases p with ⟨x, k⟩
      rw [List.forIn_cons, hf]
      by_cases q : k = .free
      · subst q
        rcases hl x .free (.head _) rfl with ⟨c, hcx⟩
        have e1 : cellOf env x = Pure.pure c := by unfold cellOf; rw [hcx]
        rw [e1]
        rcases ih f ((x, c) :: cs) hf (fun y j hy => hl y j (.tail _ hy)) (fun y c' hy => by
          rw [List.lookup_cons] at hy
          cases z : y == x with
          | true => rw [z] at hy; cases hy; rw [beq_iff_eq.mp z]; exact hcx
          | false => rw [z] at hy; exact h2 y c' hy) with ⟨cl, g1, g2, g3, g4⟩
        refine ⟨cl, g1, g2, fun y hy => ?_, fun y c' hy => ?_⟩
        · rcases List.mem_cons.mp hy with e | hy
          · cases e; exact g4 x c (by simp)
          · exact g3 y hy
        · by_cases z : y = x
          · subst z; exact g4 y c (by simp)
          · exact g4 y c' (by rw [List.lookup_cons]; have : (y == x) = false := by simpa using z
                              rw [this]; exact hy)
      · have q' : (k == NameKind.free) = false := by simpa using q
        simp only [q', Bool.false_eq_true, if_false]
        obtain ⟨cl, g1, g2, g3, g4⟩ := ih f cs hf (fun y j hy => hl y j (.tail _ hy)) h2
        refine ⟨cl, g1, g2, fun y hy => ?_, g4⟩
        rcases List.mem_cons.mp hy with e | hy
        · cases e; exact absurd rfl q
        · exact g3 y hy
  have e : closureFor scope env = (forIn scope.names ([] : List (Str × Addr)) (fun (p : Str × NameKind) cs => if p.2 == .free then (do let c <- cellOf env p.1; Pure.pure (ForInStep.yield ((p.1, c) :: cs))) else Pure.pure (ForInStep.yield cs)) >>= fun cs => Pure.pure cs) := rfl
  rw [e]
  rcases key scope.names (fun (p : Str × NameKind) cs => if p.2 == .free then (do let c <- cellOf env p.1; Pure.pure (ForInStep.yield ((p.1, c) :: cs))) else Pure.pure (ForInStep.yield cs)) [] (fun x k cs => rfl) hc (fun y_ y_ q => by cases q) with ⟨cl, g1, g2, g3, y_⟩
  exact ⟨cl, by rw [g1]; rfl, g2, g3⟩
theorem bI3 (H : HR W s.heap io m) (F : FR W s.heap io env vis r) (ho : env.locals ∈ own) {i : Nat} {x : Str} {v : V} {u : Value} (hv : vis[i]? = some (some x)) (hk : env.kindOf x = some .local) (k : VR W s.heap io v u) :
  Si W own A fs (RP W env vis) (storeName env x u) s io m (.ok (r.set i (some v)) m) := by
 intro y_
 have hi : i < vis.length := (List.getElem?_eq_some_iff.mp hv).1
 have row : ∀ (j : Nat) (y : Str) (w : V), vis[j]? = some (some y) -> (r.set i (some v))[j]? = some (some w) -> (y = x /\ w = v) \/ (y ≠ x /\ r[j]? = some (some w)) := by
  intro j y w h1 h2
  by_cases q : i = j
  ·subst q
   rw [List.getElem?_set_self (by rw [F.len]; exact hi)] at h2
   rw [hv] at h1
   cases h1; cases h2; exact .inl ⟨rfl, rfl⟩
  ·rw [List.getElem?_set_ne q] at h2
   refine .inr ⟨fun e => q (F.inj i j x hv (e ▸ h1)), h2⟩
 refine hide fun G_ g_ => ?_
 rcases F.loc with ⟨mp, hn, hl⟩
 rcases id hn with ⟨oL, esL, epL, hoL, hdL, y_⟩
 refine g_ ?_
 clear g_ G_
 refine wpAny_storeName_local hk hn (fun h' hn' hs => ?_) (by rw [F.kind]; rfl)
 have kk : ∀ b o, b ≠ env.locals -> s.heap.get? b = some o -> h'.get? b = some o := fun b o q e => (hs.2 b q).trans e
 have lv : ∀ o, s.heap.get? env.locals = some o -> ¬ c8 o /\ ∃ o', h'.get? env.locals = some o' := fun o ho => by
  rw [hoL] at ho; cases ho
  obtain ⟨o', y_, y_, ho', y_⟩ := id hn'
  exact ⟨dO hdL, o', ho'⟩
 have st : Step own (frs fs) s.heap io m h' io m := aA4 H (L := env.locals) ho kk lv F.nofoot
 have H' : HR W h' io m := H.ofOwn (own := own) (L := env.locals) ho kk lv F.nofoot F.fresh
 refine ⟨_, m, io, rfl, st, H', ?_, rfl, rfl⟩
 refine ⟨F.kind, F.glob, F.blt, F.nofoot, F.fresh, ⟨_, hn', fun j y w h1 h2 h3 => ?_⟩, fun j y w h1 h2 h3 => ?_, fun y c hy => ?_, F.celex, F.apart, F.inj, by simp [F.len]⟩
 ·rcases row j y w h1 h2 with ⟨rfl, rfl⟩ | ⟨q, h2⟩
  ·exact ⟨u, by simp, k.step st⟩
  ·obtain ⟨u', e, k'⟩ := hl j y w h1 h2 h3
   exact ⟨u', by simp [q, e], k'.step st⟩
 ·rcases row j y w h1 h2 with ⟨rfl, rfl⟩ | ⟨q, h2⟩
  ·rw [hk] at h3; simp at h3
  ·obtain ⟨c, u', e, k1, k2⟩ := F.cel j y w h1 h2 h3
   refine ⟨c, u', e, ?_, k2.step st⟩
   obtain ⟨oc, hoc, hdc⟩ := k1
   exact ⟨oc, kk c oc (F.cells y c e).2.2 hoc, hdc⟩
 ·obtain ⟨⟨o, oc, hoc, hdc⟩, k2, k3⟩ := F.cells y c hy
  exact ⟨⟨o, oc, kk c oc k3 hoc, hdc⟩, k2, k3⟩
theorem FR.weak (F : FR W h io env vis r) (k : ∀ (j : Nat) (w : V), r'[j]? = some (some w) -> r[j]? = some (some w)) (hl : r'.length = r.length) : FR W h io env vis r' := by
 obtain ⟨mp, hn, hl'⟩ := F.loc
 exact ⟨F.kind, F.glob, F.blt, F.nofoot, F.fresh, ⟨mp, hn, fun i x v h1 h2 h3 => hl' i x v h1 (k i v h2) h3⟩, fun i x v h1 h2 h3 => F.cel i x v h1 (k i v h2) h3, F.cells, F.celex, F.apart, F.inj, hl.trans F.len⟩
noncomputable def aA3 (ifs : List Expr) (env : Env) (b : Bool) : Sem Bool := forIn ifs b fun c r => if r = true then do let ok <- isTrue c env (eval c env); Pure.pure (ForInStep.yield ok) else Pure.pure (ForInStep.yield r)
theorem aY7 (ifs : List Expr) : aA3 ifs env false = Pure.pure false := by
 induction ifs with
 | nil => rfl
 | cons c cs ih => unfold aA3; rw [List.forIn_cons]; exact ih
theorem cZ8 : SiB W A fs env vis (aA3 [] env true) (fun y_ => ret true) := fun y_ y_ y_ y_ Z => .pure (u := true) Z.H rfl
theorem cQ4 {c : Expr} {cs : List Expr} {ct cts : Lo -> Mn Bool} (hc : SiB W A fs env vis (isTrue c env (eval c env)) ct) (hs : SiB W A fs env vis (aA3 cs env true) cts) :
  SiB W A fs env vis (aA3 (c :: cs) env true) (fun r => bnd (ct r) fun b => if b then cts r else ret false) := by
 intro s io m r Z hne
 unfold aA3
 rw [List.forIn_cons]
 refine wpAny_bind ?_
 simp only [if_true]
 refine wpAny_bind (wpAny_mono (hc s io m r Z (Res.bind_ne hne)) (fun b s₁ q => wpAny_pure ?_) fun y_ y_ q => q)
 obtain ⟨b', m₁, io₁, e1, st, H₁, rfl, sm⟩ := q
 have ee : bnd (ct r) (fun b => if b then cts r else ret false) m = (if b' then cts r else ret false) m₁ := by show (ct r m).bind _ = _; rw [e1]; rfl
 dsimp only at hne ⊢
 rw [ee] at hne ⊢
 cases b' with
 | false =>
  show wpAny _ _ (aA3 cs env false) _ _ _
  rw [aY7]
  exact wpAny_pure ⟨false, m₁, io₁, rfl, st, H₁, rfl, sm⟩
 | true => exact wpAny_mono (hs s₁ io₁ m₁ r (Z.step H₁ st) hne) (fun y_ y_ z => z.mono st sm) fun y_ y_ z => z
theorem aE0 {env : Env} : ∀ {names : List (Str × NameKind)} {x : Str}, names.lookup x = some .free ->
  (names.map fun (n, k) => if (k == NameKind.free && env.scope.kind == .function && env.kindOf n == some .cell) then (n, NameKind.cell) else (n, k)).lookup x = some .cell \/ (names.map fun (n, k) => if (k == NameKind.free && env.scope.kind == .function && env.kindOf n == some .cell) then (n, NameKind.cell) else (n, k)).lookup x = some .free
 | [], _, h => by simp at h
 | (n, k) :: r, x, h => by
  have ih := @aE0 env r x
  simp only [List.map_cons]
  cases hx : x == n with
  | true =>
   simp only [List.lookup_cons, hx] at h
   cases h
   by_cases hc : (NameKind.free == NameKind.free && env.scope.kind == .function && env.kindOf n == some .cell) = true
   ·rw [if_pos hc]; left; simp [List.lookup_cons, hx]
   ·rw [if_neg hc]; right; simp [List.lookup_cons, hx]
  | false =>
   simp only [List.lookup_cons, hx] at h
   by_cases hc : (k == NameKind.free && env.scope.kind == .function && env.kindOf n == some .cell) = true
   ·rw [if_pos hc]; simp only [List.lookup_cons, hx]; exact ih h
   ·rw [if_neg hc]; simp only [List.lookup_cons, hx]; exact ih h
structure CompOk (scope : Scope) (env : Env) (vis vis' : List (Option Str)) (nl : Nat) : Prop where
 kind : scope.kind = .function
 names : ∀ x ∈ scope.names, x.2 = .local -> scope.names.lookup x.1 = some .local
 cell : ∀ x ∈ scope.names, x.2 ≠ .cell
 cap : ∀ x ∈ scope.names, x.2 = .free -> ∃ i : Nat, vis[i]? = some (some x.1) /\ (env.kindOf x.1 = some .cell \/ env.kindOf x.1 = some .free)
 see : ∀ (i : Nat) (x : Str), vis'[i]? = some (some x) -> (vis.length <= i /\ scope.names.lookup x = some .local) \/ (vis[i]? = some (some x) /\ scope.names.lookup x = some .free)
 inj : ∀ (i j : Nat) (x : Str), vis'[i]? = some (some x) -> vis'[j]? = some (some x) -> i = j
 len : vis'.length = vis.length + nl
theorem bK2 {scope : Scope} {vis' : List (Option Str)} {nl : Nat} {cl : List (Str × Addr)} {C : Addr} (ck : CompOk scope env vis vis' nl) (H : HR W h io m) (F : FR W h io env vis r) (g2 : ∀ x c, cl.lookup x = some c -> env.cells.lookup x = some c) (g3 : ∀ x, (x, NameKind.free) ∈ scope.names -> ∃ c, cl.lookup x = some c)
  (hk : ∀ b o, h.get? b = some o -> h'.get? b = some o) (hC : h.get? C = none) (hn : h'.Ns C (fun y_ => none)) : FR W h' io (compEnvC scope cl C env) vis' (r ++ List.replicate nl none) := by
 have basN : W.base.get? C = none := by
  cases q : W.base.get? C with
  | none => rfl
  | some o => rw [H.keep _ _ q] at hC; cases hC
 have nf : ¬ dE io C := fun f => by
  obtain ⟨o, ho, y_⟩ := H.foot f
  rw [hC] at ho; cases ho
 have st : Step [] [] h io m h' io m := .of_keeps H hk
 have F' := F.step0 H st
 have old : ∀ (i : Nat) (x : Str) (v : V), vis'[i]? = some (some x) -> (r ++ List.replicate nl none)[i]? = some (some v) -> vis[i]? = some (some x) /\ scope.names.lookup x = some .free /\ r[i]? = some (some v) := by
  intro i x v h1 h2
  have hi : i < r.length := by
   rcases Nat.lt_or_ge i r.length with q | q
   ·exact q
   ·rw [List.getElem?_append_right q] at h2
    have := List.mem_of_getElem? h2
    simp at this
  rw [List.getElem?_append_left hi] at h2
  rcases ck.see i x h1 with ⟨q, _⟩ | ⟨q1, q2⟩
  ·rw [F.len] at hi; omega
  ·exact ⟨q1, q2, h2⟩
 have kd : ∀ x, scope.names.lookup x = some .free -> (compEnvC scope cl C env).kindOf x = some .cell \/ (compEnvC scope cl C env).kindOf x = some .free := fun x hx => aE0 hx
 have capk : ∀ x, scope.names.lookup x = some .free -> env.kindOf x = some .cell \/ env.kindOf x = some .free := fun x hx => by
  obtain ⟨i, y_, q⟩ := ck.cap (x, .free) (mem_of_lookup hx) rfl
  exact q
 refine ⟨ck.kind, F.glob, F.blt, nf, basN, ⟨_, hn, fun i x v h1 h2 h3 => ?_⟩, fun i x v h1 h2 h3 => ?_, fun x c hc => ?_, fun i x h1 h2 => ?_, fun x y c h1 h2 => F.apart x y c (g2 x c h1) (g2 y c h2), ck.inj, by simp [F.len, ck.len]⟩
 ·obtain ⟨q1, q2, q3⟩ := old i x v h1 h2
  rcases kd x q2 with e | e <;> rw [e] at h3 <;> cases h3
 ·refine hide fun G_ g_ => ?_
  rcases old i x v h1 h2 with ⟨q1, q2, q3⟩
  rcases F'.cel i x v q1 q3 (capk x q2) with ⟨c, u, e, k1, k2⟩
  refine g_ ?_
  clear g_ G_
  rcases g3 x (mem_of_lookup q2) with ⟨c', hc'⟩
  have := g2 x c' hc'
  rw [e] at this; cases this
  exact ⟨c, u, hc', k1, k2⟩
 ·obtain ⟨k1, k2, k3⟩ := F'.cells x c (g2 x c hc)
  refine ⟨k1, k2, fun e => ?_⟩
  obtain ⟨⟨y_, o, ho, y_⟩, y_⟩ := F.cells x c (g2 x c hc)
  rw [e] at ho; rw [show (compEnvC scope cl C env).locals = C from rfl, hC] at ho; cases ho
 ·rcases ck.see i x h1 with ⟨_, q⟩ | ⟨q1, q2⟩
  ·have : (compEnvC scope cl C env).kindOf x = some .local := lookup_relabel_local q
   rcases h2 with e | e <;> rw [this] at e <;> cases e
  ·exact g3 x (mem_of_lookup q2)
theorem cF2 {g : Gd} {step : V -> Mn (Option V)} : ∀ {vs : List V} {m : MH}, bG g step vs m ≠ .bad -> ∃ l m', bG g step vs m = .ok l m' := by
 intro vs
 induction vs with
 | nil =>
  intro m h
  by_cases q : g.stays m = true
  ·exact ⟨[], m, if_pos q⟩
  ·exact absurd (if_neg q) h
 | cons v vs ih =>
  intro m h
  by_cases q : g.stays m = true
  ·have ec : bG g step (v :: vs) m = ((step v m).nox).bind (fun o => bnd (bG g step vs) fun r => ret (d8 o r)) := if_pos q
   rw [ec] at h ⊢
   cases e : step v m with
   | bad => rw [e] at h; exact absurd rfl h
   | exc c m' => rw [e] at h; exact absurd rfl h
   | ok o m' =>
    rw [e] at h
    have h' : (bG g step vs m').bind (fun r => ret (d8 o r)) ≠ .bad := h
    obtain ⟨l, m'', e'⟩ := ih (Res.bind_ne h')
    refine ⟨d8 o l, m'', ?_⟩
    show (bG g step vs m').bind (fun r => ret (d8 o r)) = _
    rw [e']; rfl
  ·exact absurd (if_neg q) h
theorem bK3 {g : Gd} {step : V -> Mn (Option V)} {v : V} {vs : List V} {L : List V} {m mL : MH} (h : bG g step (v :: vs) m = .ok L mL) : g.stays m = true /\ ∃ o m' L', step v m = .ok o m' /\ bG g step vs m' = .ok L' mL /\ L = d8 o L' := by
 by_cases q : g.stays m = true
 ·have ec : bG g step (v :: vs) m = ((step v m).nox).bind (fun o => bnd (bG g step vs) fun r => ret (d8 o r)) := if_pos q
  rw [ec] at h
  refine ⟨q, ?_⟩
  cases e : step v m with
  | bad => rw [e] at h; cases h
  | exc c m' => rw [e] at h; cases h
  | ok o m' =>
   rw [e] at h
   have h' : (bG g step vs m').bind (fun r => ret (d8 o r)) = .ok L mL := h
   cases e2 : bG g step vs m' with
   | bad => rw [e2] at h'; cases h'
   | exc c m'' => rw [e2] at h'; cases h'
   | ok l m'' =>
    rw [e2] at h'
    cases h'
    exact ⟨o, m', l, rfl, e2, rfl⟩
 ·have ec : bG g step (v :: vs) m = .bad := if_neg q
  rw [ec] at h; cases h
theorem bY {g : Gd} {step : V -> Mn (Option V)} {vs : List V} {L : List V} {m mL : MH} (h : bG g step vs m = .ok L mL) : g.stays m = true := by
 cases q : g.stays m with
 | true => rfl
 | false =>
  have z : ¬ g.stays m = true := by rw [q]; exact Bool.false_ne_true
  have ec : bG g step vs m = .bad := by cases vs with
   | nil => exact if_neg z
   | cons y_ y_ => exact if_neg z
  rw [ec] at h; cases h
end
end Mini
namespace Mini
open PySem PySem.W
section
variable {W : Wd} {K : Frag} {h h' h₀ : Heap} {fs : List Env} {env : Env} {vis : List (Option Str)} {s s' s₀ : Shared} {io io' io₀ : Io} {m m' m₀ : MH} {r r' : Lo} {fr fr' own own' : List Addr} {A : Around} {n : Nat} {pos p : Pos}
noncomputable def eI (j : Nat) (row : Lo) (cif : Lo -> Mn Bool) (celt : Lo -> Mn V) (v : V) : Mn (Option V) :=
 bnd (aJ6 (.one j) v row) fun r' => bnd (cif r') fun b => if b then bnd (celt r') fun x => ret (some x) else ret none
theorem aJ8 {us : Array Value} {c : Nat} : ¬ c8 (fJ us c) := by
 rintro (⟨e, y_⟩ | ⟨y_, y_, y_, e⟩)
 ·simp at e
 ·cases e
inductive CInv (W : Wd) (fs : List Env) (s₀ : Shared) (io₀ : Io) (m₀ : MH) (cenv : Env) (vis' : List (Option Str)) (row : Lo) (St : Nat -> Heap -> Io -> Prop) (D : Addr) (g : Gd) (f : V -> Mn (Option V)) (vs L : List V) (mL : MH) (k : Nat) (s' : Shared) : Prop
 | mk (i : Nat) (io' : Io) (m' : MH) (outs L' : List V) (us : Array Value) (c : Nat) : k = vs.length - i -> i <= vs.length -> Step [] (frs fs) s₀.heap io₀ m₀ s'.heap io' m' -> HR W s'.heap io' m' -> FR W s'.heap io' cenv vis' row -> St i s'.heap io' -> s'.heap.get? D = some (fJ us c) -> VRs W s'.heap io' outs us.toList -> ¬ dE io' D -> Same s₀ s' ->
   bG g f (vs.drop i) m' = .ok L' mL -> L = outs ++ L' -> CInv W fs s₀ io₀ m₀ cenv vis' row St D g f vs L mL k s'
theorem bU6 {elt iter : Expr} {ifs : List Expr} {scope : Scope} {cpos px : Pos} {cenv : Env} {vis' : List (Option Str)} {row : Lo} {D I : Addr} {wr : List Addr} {g : Gd} {vs L : List V} {St : Nat -> Heap -> Io -> Prop} {x : Str} {j c0 : Nat} {cif : Lo -> Mn Bool} {celt : Lo -> Mn V} {io₂ : Io} {m₂ mL : MH} {RR : Result -> Shared -> Prop}
  (H0 : HR W s₀.heap io₀ m₀) (G0 : FF W s₀.heap io₀ fs) (hw : Wk W A I wr g vs St) (hnew : ∀ b ∈ wr, s₀.heap.get? b = none) (hD0 : s₀.heap.get? D = none) (hC0 : s₀.heap.get? cenv.locals = none) (hDC : D ≠ cenv.locals) (hDw : D ∉ wr) (hCw : cenv.locals ∉ wr)
  (hv : vis'[j]? = some (some x)) (hk : cenv.kindOf x = some .local) (hrow : row[j]? = some none) (hcel : ∀ y c, cenv.cells.lookup y = some c -> ∃ o, s₀.heap.get? c = some o)
  (hifs : SiB W A fs cenv vis' (aA3 ifs cenv true) cif) (helt : SiE W A fs cenv vis' (eval elt cenv) celt)
  (st₂ : Step [] (frs fs) s₀.heap io₀ m₀ s.heap io₂ m₂) (H₂ : HR W s.heap io₂ m₂) (F₂ : FR W s.heap io₂ cenv vis' row) (hst₂ : St 0 s.heap io₂) (hD₂ : s.heap.get? D = some (fJ #[] c0)) (nfD : ¬ dE io₂ D) (sm₂ : Same s₀ s)
  (hL : bG g (eI j row cif celt) vs m₂ = .ok L mL) (hlen : L.length <= lid)
  (fin : ∀ s' io' us c, Step [] (frs fs) s₀.heap io₀ m₀ s'.heap io' mL -> HR W s'.heap io' mL -> s'.heap.get? D = some (fJ us c) -> VRs W s'.heap io' L us.toList -> ¬ dE io' D -> (∃ mC, s'.heap.Ns cenv.locals mC) /\ ¬ dE io' cenv.locals -> Same s₀ s' -> RR (.ok .next) s') :
  codeAny (model W.prog W.w) A (.compStart (.ListComp elt [⟨.Name x px, iter, ifs, 0⟩] scope cpos) 0 (.ref I) (.ref D) cenv) RR s := by
 have hFr : ∀ b ∈ frs fs, ∃ o, s₀.heap.get? b = some o := fun b hb => by
  refine hide fun G_ g_ => ?_
  rcases List.mem_filterMap.mp hb with ⟨e, he, hf⟩
  rcases G0 e he with ⟨y_, L, o, y_, y_, h1, y_, y_, h4, y_⟩
  refine g_ ?_
  clear g_ G_
  rw [h1] at hf; cases hf; exact ⟨o, h4⟩
 have frN : ∀ b, s₀.heap.get? b = none -> b ∉ frs fs := fun b e q => by rcases hFr b q with ⟨o, ho⟩; rw [e] at ho; cases ho
 have hbase : ∀ b o, W.base.get? b = some o -> s₀.heap.get? b = some o := H0.keep
 have basD : W.base.get? D = none := by
  cases q : W.base.get? D with
  | none => rfl
  | some o => rw [hbase _ _ q] at hD0; cases hD0
 have celN : ∀ y c, cenv.cells.lookup y = some c -> ∀ b, s₀.heap.get? b = none -> c ≠ b := fun y c hy b hb e => by
  rcases hcel y c hy with ⟨o, ho⟩
  rw [e, hb] at ho; cases ho
 have loop : codeAny (model W.prog W.w) A (.compLoop (.ListComp elt [⟨.Name x px, iter, ifs, 0⟩] scope cpos) 0 (.ref I) (.ref D) cenv) RR s := by
  refine codeAny_compLoop_tests (I := CInv W fs s₀ io₀ m₀ cenv vis' row St D g (eI j row cif celt) vs L mL) (fun k s' hI => ?_) vs.length ⟨0, io₂, m₂, [], L, #[], c0, by simp, Nat.zero_le _, st₂, H₂, F₂, hst₂, hD₂, .nil, nfD, sm₂, by simpa using hL, by simp⟩
  obtain ⟨i, io', m', outs, L', us, c, hk', hi, st, H, F, hst, hD, hus, nf, sm, he, hLe⟩ := hI
  have hg := bY he
  have sft := hw.soft hst
  by_cases hlt : i < vs.length
  ·have hvi : vs[i]? = some vs[i] := List.getElem?_eq_getElem hlt
   rw [List.drop_eq_getElem_cons hlt] at he
   obtain ⟨y_, o, m₅, L₅, es, ec, eL⟩ := bK3 he
   refine hw.item hvi hst H hg fun u h₁ tk ku hst₁ kk => ?_
   have sd : Side W wr s₀.heap s'.heap io' h₁ := ⟨kk, hnew, fun b hb => (sft b hb).1, fun b hb => (sft b hb).2⟩
   have H1 := sd.hr H hbase
   have st1 := sd.step H st
   have F1 := F.sideN sd hCw fun y c hy q => celN y c hy c (hnew c q) rfl
   have hD1 : h₁.get? D = some (fJ us c) := kk _ _ hDw hD
   have hus1 := hus.sol sd.sol
   have ku1 := ku.sol sd.sol
   refine wpAny_assign_Name ?_
   refine wpAny_mono (bI3 (s := { s' with heap := h₁, toks := tk }) (A := A) (fs := fs) (own := [cenv.locals]) H1 F1 (.head _) hv hk ku1 (fun q => nomatch q)) (fun y_ s₂ q => ?_) fun e s₂ q => ?_
   rotate_left
   ·exact q.elim
   obtain ⟨r₂, mq, io₂', e2, st2, H2, F2, sm2⟩ := q
   cases e2
   have st2' : Step [] (frs fs) s₀.heap io₀ m₀ s₂.heap io₂' m' := by
    refine ((st1.wk (own' := [cenv.locals]) fun y_ q => nomatch q).trans st2).shrink H0 (fun y_ y_ e => e) (fun b hb => ?_) fun b hb => .inr hb
    rw [List.mem_singleton.mp hb]; exact .inl hC0
   have hD2 : s₂.heap.get? D = some (fJ us c) := st2.keep _ _ hD1 nf (by simpa using hDC) (frN _ hD0)
   have nf2 : ¬ dE io₂' D := st2.nofoot hD1 nf
   have hus2 := hus1.step st2
   have hst2 : St (i + 1) s₂.heap io₂' := hw.stay hst₁ H1 H2 st2 (fun b hb => ⟨fun q => hCw (by rw [<- List.mem_singleton.mp q]; exact hb), frN _ (hnew b hb)⟩) hg hg
   have Z2 : Sit W fs cenv vis' s₂ io₂' m' (row.set j (some vs[i])) := ⟨H2, F2, G0.step0 st2'⟩
   have es' : (cif (row.set j (some vs[i])) m').bind (fun b => if b then bnd (celt (row.set j (some vs[i]))) fun x => ret (some x) else ret none) = .ok o m₅ := es
   have hne1 : cif (row.set j (some vs[i])) m' ≠ .bad := fun q => by rw [q] at es'; cases es'
   refine wpAny_mono (hifs s₂ io₂' m' _ Z2 hne1) (fun ok s₃ q => ?_) fun e s₃ q => ?_
   rotate_left
   ·exact q.elim
   obtain ⟨ok', m₃, io₃, e3, st3, H3, rfl, sm3⟩ := q
   rw [e3] at es'
   have Z3 := Z2.step H3 st3
   have hD3 : s₃.heap.get? D = some (fJ us c) := st3.keep _ _ hD2 nf2 (fun q => nomatch q) (frN _ hD0)
   have wrN : ∀ b ∈ wr, b ∉ ([] : List Addr) /\ b ∉ frs fs := fun b hb => ⟨(fun q => nomatch q), frN _ (hnew b hb)⟩
   have weak : ∀ {h : Heap} {io : Io}, FR W h io cenv vis' (row.set j (some vs[i])) -> FR W h io cenv vis' row := fun F => F.weak (fun a w e => by
    by_cases q : j = a
    ·subst q; rw [hrow] at e; cases e
    ·rw [List.getElem?_set_ne q]; exact e) (by simp)
   cases ok' with
   | false =>
    simp only [Bool.false_eq_true, if_false]
    have es2 : (Res.ok none m₃ : Res (Option V)) = .ok o m₅ := es'
    cases es2
    refine ⟨vs.length - (i + 1), hk' ▸ Nat.sub_succ_lt_self _ _ hlt, i + 1, io₃, m₃, outs, L₅, us, c, rfl, hlt, st2'.trans st3, H3, weak Z3.F, hw.stay hst2 H2 H3 st3 wrN hg (bY ec), hD3, hus2.step st3, st3.nofoot hD2 nf2, (sm.trans (Same.trans ⟨rfl, rfl⟩ sm2)).trans sm3, ec, ?_⟩
    rw [hLe, eL]; rfl
   | true =>
    simp only [if_true]
    have es2 : (celt (row.set j (some vs[i])) m₃).bind (fun x => ret (some x)) = .ok o m₅ := es'
    have hne2 : celt (row.set j (some vs[i])) m₃ ≠ .bad := fun q => by rw [q] at es2; cases es2
    refine wpAny_mono (helt s₃ io₃ m₃ _ Z3 hne2) (fun y s₄ q => ?_) fun e s₄ q => ?_
    rotate_left
    ·exact q.elim
    obtain ⟨y', m₄, io₄, e4, st4, H4, k4, sm4⟩ := q
    rw [e4] at es2
    cases es2
    have nf3 := st3.nofoot hD2 nf2
    have hD4 : s₄.heap.get? D = some (fJ us c) := st4.keep _ _ hD3 nf3 (fun q => nomatch q) (frN _ hD0)
    have nf4 := st4.nofoot hD3 nf3
    have hus4 := (hus2.step st3).step st4
    have hst4 : St (i + 1) s₄.heap io₄ := hw.stay hst2 H2 H4 (st3.trans st4) wrN hg (bY ec)
    have ol : us.size <= lid := by
     have e1 := hus.length
     have e2 : L.length = outs.length + L'.length := by rw [hLe, List.length_append]
     have : us.size = outs.length := by simpa using e1
     omega
    refine wpAny_list_append_plain ⟨c, hD4⟩ (fun h₅ ⟨c5, hD5⟩ hs5 => ?_) (aK ol)
    have kk5 : ∀ b o, b ≠ D -> s₄.heap.get? b = some o -> h₅.get? b = some o := fun b o q e => (hs5.2 b q).trans e
    have lv5 : ∀ o, s₄.heap.get? D = some o -> ¬ c8 o /\ ∃ o', h₅.get? D = some o' := fun o ho => by
     rw [hD4] at ho; cases ho; exact ⟨aJ8, _, hD5⟩
    have st5 : Step [D] (frs fs) s₄.heap io₄ m₄ h₅ io₄ m₄ := aA4 H4 (L := D) (.head _) kk5 lv5 nf4
    have H5 : HR W h₅ io₄ m₄ := H4.ofOwn (own := [D]) (L := D) (.head _) kk5 lv5 nf4 basD
    have st5' : Step [] (frs fs) s₀.heap io₀ m₀ h₅ io₄ m₄ := by
     refine ((((st2'.trans st3).trans st4).wk (own' := [D]) fun y_ q => nomatch q).trans st5).shrink H0 (fun y_ y_ e => e) (fun b hb => ?_) fun b hb => .inr hb
     rw [List.mem_singleton.mp hb]; exact .inl hD0
    have F5 : FR W h₅ io₄ cenv vis' row := (weak (Z3.F.step0 H3 st4)).step H4 st5 (by simpa using Ne.symm hDC) fun y c hy => by simpa using celN y c hy D hD0
    refine ⟨vs.length - (i + 1), hk' ▸ Nat.sub_succ_lt_self _ _ hlt, i + 1, io₄, m₄, outs ++ [y'], L₅, us.push y, c5, rfl, hlt, st5', H5, F5, hw.stay hst4 H4 H5 st5 (fun b hb => ⟨fun q => hDw (by rw [<- List.mem_singleton.mp q]; exact hb), frN _ (hnew b hb)⟩) (bY ec) (bY ec), hD5, ?_, nf4, ((sm.trans (Same.trans ⟨rfl, rfl⟩ sm2)).trans sm3).trans (sm4.trans ⟨rfl, rfl⟩), ec, ?_⟩
    ·rw [Array.toList_push]; exact (hus4.step st5).snoc (VR.step st5 k4)
    ·rw [hLe, eL]; simp [d8]
  ·have hi' : i = vs.length := by omega
   subst hi'
   refine hw.done hst H hg fun h₁ tk kk => ?_
   have sd : Side W wr s₀.heap s'.heap io' h₁ := ⟨kk, hnew, fun b hb => (sft b hb).1, fun b hb => (sft b hb).2⟩
   rw [List.drop_length] at he
   have ec : ∀ {step : V -> Mn (Option V)}, bG g step [] m' = .ok [] m' := if_pos hg
   rw [ec] at he
   cases he
   rw [List.append_nil] at hLe
   subst hLe
   have F1 := F.sideN sd hCw fun y c hy q => celN y c hy c (hnew c q) rfl
   obtain ⟨mC, hn, y_⟩ := F1.loc
   exact fin { s' with heap := h₁, toks := tk } io' us c (sd.step H st) (sd.hr H hbase) (kk _ _ hDw hD) (hus.sol sd.sol) nf ⟨⟨mC, hn⟩, F1.nofoot⟩ (sm.trans ⟨rfl, rfl⟩)
 exact codeAny_compStart_list loop (hw.self hst₂ loop)
end
end Mini
namespace Mini
open PySem PySem.W
section
variable {W : Wd} {K : Frag} {h h' h₀ : Heap} {fs : List Env} {env : Env} {vis : List (Option Str)} {s s' s₀ : Shared} {io io' io₀ : Io} {m m' m₀ : MH} {r r' : Lo} {fr fr' own own' : List Addr} {A : Around} {n : Nat} {pos p : Pos}
theorem VRs.ext (x : ∀ (n : Nat) (p : Addr × Addr), io[n]? = some p -> io'[n]? = some p) {v : List V} {u : List Value} (k : VRs W h io v u) : VRs W h io' v u := k.mono (fun y_ y_ e y_ => e) x
theorem ERs.ext (x : ∀ (n : Nat) (p : Addr × Addr), io[n]? = some p -> io'[n]? = some p) {kvs : List (Ky × V)} {es : List DictEntry} (e : ERs W h io kvs es) : ERs W h io' kvs es := e.mono (fun y_ y_ e y_ => e) x
theorem FEs.ext (x : ∀ (n : Nat) (p : Addr × Addr), io[n]? = some p -> io'[n]? = some p) {fs : List (Nat × V)} {mA : Str -> Option Value} (e : FEs W h io fs mA) : FEs W h io' fs mA := e.mono (fun y_ y_ e y_ => e) x
theorem OR.ext (x : ∀ (n : Nat) (p : Addr × Addr), io[n]? = some p -> io'[n]? = some p) {a d : Addr} {o : MObj} (k : OR W h io a d o) : OR W h io' a d o := by
 cases o with
 | list xs =>
  rcases k with ⟨e, vs, n, h1, h4, h5⟩
  exact ⟨e, vs, n, h1, h4.ext x, h5⟩
 | dict kvs ep =>
  rcases k with ⟨e, o, es, n, h1, h2, h3, h4, h5⟩
  exact ⟨e, o, es, n, h1, h2, h3, h4.ext x, h5⟩
 | inst c fs =>
  rcases k with ⟨e, mA, h1, h2, h3, h4⟩
  exact ⟨e, mA, h1, h2, h3.ext x, h4⟩
theorem dC9 {D : Addr} {ob : MObj} (st : Step own fr h₀ io₀ m₀ h io m) (H : HR W h io m) (hO : OR W h (io ++ [(D, D)]) D D ob) (nf : ¬ dE io D) (hD0 : h₀.get? D = none) (basD : W.base.get? D = none) :
  Step own fr h₀ io₀ m₀ h (io ++ [(D, D)]) (m ++ [ob]) /\ HR W h (io ++ [(D, D)]) (m ++ [ob]) /\ VR W h (io ++ [(D, D)]) (.ref m.length) (.ref D) := by
 have ex : ∀ (n : Nat) (p : Addr × Addr), io[n]? = some p -> (io ++ [(D, D)])[n]? = some p := fun n p e => by
  rw [List.getElem?_append_left (List.getElem?_eq_some_iff.mp e).1]; exact e
 have last : (io ++ [(D, D)])[m.length]? = some (D, D) := by rw [<- H.len]; simp
 refine ⟨⟨st.alive, st.solid, st.keep, st.slots, ?_, fun n p kvs e hi hm => ?_⟩, ⟨H.keep, by simp [H.len], fun n p o hi hm => ?_, fun b f => ?_, fun i j p q hij hi hj => ?_⟩, .ref last⟩
 ·rcases st.grow with ⟨new, e, hn⟩
  refine ⟨new ++ [(D, D)], by rw [e, List.append_assoc], fun p hp => ?_⟩
  rcases List.mem_append.mp hp with hp | hp
  ·exact hn p hp
  ·rw [List.mem_singleton.mp hp]; exact ⟨hD0, hD0⟩
 ·rcases st.dicts n p kvs e hi hm with ⟨k', e', q1, q2, q3⟩
  exact ⟨k', e', by rw [List.getElem?_append_left (List.getElem?_eq_some_iff.mp q1).1]; exact q1, q2, q3⟩
 ·rcases Nat.lt_or_ge n m.length with hlt | hge
  ·rw [List.getElem?_append_left hlt] at hm
   rw [List.getElem?_append_left (by rw [H.len]; exact hlt)] at hi
   exact (H.obj n p o hi hm).ext ex
  ·have hn : n = m.length := by
    have := (List.getElem?_eq_some_iff.mp hm).1
    simp at this; omega
   subst hn
   rw [last] at hi
   cases hi
   rw [List.getElem?_append_right (Nat.le_refl _)] at hm
   simp at hm
   subst hm
   exact hO
 ·rcases d7 f with f | ⟨p, hp, e⟩
  ·exact H.fresh b f
  ·rw [List.mem_singleton.mp hp] at e
   rcases e with e | e <;> rw [e] <;> exact basD
 ·have nfp : ∀ (k : Nat) (p : Addr × Addr), io[k]? = some p -> p.1 ≠ D /\ p.2 ≠ D := fun k p hk => ⟨fun e => nf ⟨p, List.mem_of_getElem? hk, .inl e.symm⟩, fun e => nf ⟨p, List.mem_of_getElem? hk, .inr e.symm⟩⟩
  have cut : ∀ (k : Nat) (p : Addr × Addr), (io ++ [(D, D)])[k]? = some p -> io[k]? = some p \/ (k = io.length /\ p = (D, D)) := fun k p hk => by
   rcases Nat.lt_or_ge k io.length with hlt | hge
   ·rw [List.getElem?_append_left hlt] at hk; exact .inl hk
   ·have := (List.getElem?_eq_some_iff.mp hk).1
    simp at this
    have hn : k = io.length := by omega
    subst hn
    simp at hk
    exact .inr ⟨rfl, hk.symm⟩
  rcases cut i p hi with a | ⟨a, rfl⟩ <;> rcases cut j q hj with b | ⟨b, rfl⟩
  ·exact H.apart i j p q hij a b
  ·have := nfp i p a; exact ⟨this.1, this.1, this.2⟩
  ·have := nfp j q b; exact ⟨Ne.symm this.1, Ne.symm this.2, Ne.symm this.2⟩
  ·omega
theorem cU0 {D : Addr} {us : Array Value} {c : Nat} {L : List V} (st : Step own fr h₀ io₀ m₀ h io m) (H : HR W h io m) (hD : h.get? D = some (fJ us c)) (hus : VRs W h io L us.toList) (hl : L.length <= lid) (nf : ¬ dE io D) (hD0 : h₀.get? D = none) (basD : W.base.get? D = none) :
  Step own fr h₀ io₀ m₀ h (io ++ [(D, D)]) (m ++ [.list L]) /\ HR W h (io ++ [(D, D)]) (m ++ [.list L]) /\ VR W h (io ++ [(D, D)]) (.ref m.length) (.ref D) :=
 dC9 st H ⟨rfl, us, c, hD, hus.ext fun n p e => by rw [List.getElem?_append_left (List.getElem?_eq_some_iff.mp e).1]; exact e, hl⟩ nf hD0 basD
theorem bG1 {elt iter : Expr} {ifs : List Expr} {scope : Scope} {px fp : Pos} {vis' : List (Option Str)} {nl j : Nat} {x : Str} {csrc : Lo -> Mn (List V × Gd)} {cif : Lo -> Mn Bool} {celt : Lo -> Mn V} {use : Option (Value -> Sem Unit)} {Q : Value -> Shared -> Prop} {E : Value -> Shared -> Prop}
  (ck : CompOk scope env vis vis' nl) (hs : ∀ x, foldedSetIterable iter env x = Pure.pure x) (hv : vis'[j]? = some (some x)) (hj : vis.length <= j) (hsrc : SiSrc W A fs env vis iter csrc)
  (hifs : ∀ cl C, SiB W A fs (compEnvC scope cl C env) vis' (aA3 ifs (compEnvC scope cl C env) true) cif) (helt : ∀ cl C, SiE W A fs (compEnvC scope cl C env) vis' (eval elt (compEnvC scope cl C env)) celt)
  (Z : Sit W fs env vis s io m r) (hne : (csrc r m).bind (fun p => bnd (bG p.2 (eI j (r ++ List.replicate nl none) cif celt) p.1) fun l => if l.length <= lid then alloc (.list l) else bad) ≠ .bad)
  (hX : ∀ e s', NX e s' -> E e s')
  (fin : ∀ s' io' D C L us c mL p m₂, csrc r m = .ok p m₂ -> bG p.2 (eI j (r ++ List.replicate nl none) cif celt) p.1 m₂ = .ok L mL -> L.length <= lid -> s.heap.get? D = none -> s.heap.get? C = none -> D ≠ C -> Step [] (frs fs) s.heap io m s'.heap io' mL -> HR W s'.heap io' mL -> s'.heap.get? D = some (fJ us c) -> VRs W s'.heap io' L us.toList -> ¬ dE io' D -> (∃ mC, s'.heap.Ns C mC) /\ ¬ dE io' C -> Same s s' -> compPost (model W.prog W.w) A E use Q (.ref D) C (.ok .next) s') :
  wpAny (model W.prog W.w) A (comprehension (.ListComp elt [⟨.Name x px, iter, ifs, 0⟩] scope pos) scope env fp (newList []) false (eval iter env) use) Q E s := by
 obtain ⟨cl, g1, g2, g3⟩ := bK4 (scope := scope) (env := env) fun y k hy hk => by
  rcases ck.cap (y, k) hy hk with ⟨i, q1, q2⟩
  exact Z.F.celex i y q1 q2
 refine wpAny_comprehension_free (g := ⟨.Name x px, iter, ifs, 0⟩) (gs := []) rfl hs g1 ck.kind ck.names ?_
 refine wpAny_mono (hsrc s io m r Z (Res.bind_ne hne)) (fun xv s₁ q => wpAny_mono q (fun it s₂ q => ?_) hX) hX
 rcases q with ⟨⟨vs, g⟩, m₂, io₂, e2, st₂, H₂, ⟨I, wr, St, rfl, hw, h0, hnew⟩, sm₂⟩
 rw [e2] at hne
 have hne' : (bG g (eI j (r ++ List.replicate nl none) cif celt) vs m₂).bind (fun l => if l.length <= lid then alloc (.list l) else bad) ≠ .bad := hne
 rcases cF2 (Res.bind_ne hne') with ⟨L, mL, eL⟩
 have hlen : L.length <= lid := by
  rcases Nat.lt_or_ge lid L.length with q | q
  ·refine absurd ?_ hne'
   rw [eL]
   show (if L.length <= lid then alloc (.list L) else bad) mL = _
   rw [if_neg (by omega)]; rfl
  ·exact q
 have Z2 := Z.step H₂ st₂
 refine wpAny_newList ?_ (by decide)
 have k3 : ∀ b o, s₂.heap.get? b = some o -> (s₂.heap.push (fJ #[] 0)).get? b = some o := aL _
 refine wpAny_newFunctionEnv ck.cell (fun y hy => nomatch hy) (fun h₄ hn₄ hs₄ => ?_) ck.kind
 have k4 : ∀ b o, (s₂.heap.push (fJ #[] 0)).get? b = some o -> h₄.get? b = some o := fun b o e => by
  have hb : b ≠ (s₂.heap.push (fJ #[] 0)).objs.size := fun q => by rw [q, aR] at e; cases e
  exact (hs₄.2 b hb).trans (aL _ _ _ e)
 have sz : (s₂.heap.push (fJ #[] 0)).objs.size = s₂.heap.objs.size + 1 := Heap.size_push ..
 have kk : ∀ b o, s₂.heap.get? b = some o -> h₄.get? b = some o := fun b o e => k4 b o (k3 b o e)
 have cD : s₂.heap.get? s₂.heap.objs.size = none := aR _
 have cC3 : (s₂.heap.push (fJ #[] 0)).get? (s₂.heap.push (fJ #[] 0)).objs.size = none := aR _
 have cC : s₂.heap.get? (s₂.heap.push (fJ #[] 0)).objs.size = none := by
  cases q : s₂.heap.get? (s₂.heap.push (fJ #[] 0)).objs.size with
  | none => rfl
  | some o => rw [k3 _ _ q] at cC3; cases cC3
 have hD0 : s.heap.get? s₂.heap.objs.size = none := cK st₂ cD
 have hC0 : s.heap.get? (s₂.heap.push (fJ #[] 0)).objs.size = none := cK st₂ cC
 have hDC : s₂.heap.objs.size ≠ (s₂.heap.push (fJ #[] 0)).objs.size := by rw [sz]; exact Nat.ne_of_lt (Nat.lt_succ_self _)
 have st4 : Step [] (frs fs) s₂.heap io₂ m₂ h₄ io₂ m₂ := .of_keeps H₂ kk
 have H4 : HR W h₄ io₂ m₂ := H₂.of_keeps kk
 have hn' : h₄.Ns (s₂.heap.push (fJ #[] 0)).objs.size (fun y_ => none) := hn₄
 have F4 : FR W h₄ io₂ (compEnvC scope cl (s₂.heap.push (fJ #[] 0)).objs.size env) vis' (r ++ List.replicate nl none) := bK2 ck H₂ Z2.F g2 g3 kk cC hn'
 have hjl : j < vis'.length := (List.getElem?_eq_some_iff.mp hv).1
 have lk : scope.names.lookup x = some .local := by
  rcases ck.see j x hv with ⟨_, q⟩ | ⟨q, _⟩
  ·exact q
  ·have := (List.getElem?_eq_some_iff.mp q).1; omega
 have wrAlive : ∀ b ∈ wr, ∀ z, s₂.heap.get? z = none -> z ∉ wr \/ True := fun y_ y_ y_ y_ => .inr trivial
 have kd : (compEnvC scope cl (s₂.heap.push (fJ #[] 0)).objs.size env).kindOf x = some .local := lookup_relabel_local lk
 have hrow : (r ++ List.replicate nl (none : Option V))[j]? = some none := by
  rw [List.getElem?_append_right (by rw [Z.F.len]; exact hj), List.getElem?_replicate]
  have := ck.len
  rw [if_pos (by rw [Z.F.len]; omega)]
 show codeAny (model W.prog W.w) A (.compStart _ 0 (.ref I) (.ref s₂.heap.objs.size) (compEnvC scope cl (s₂.heap.push (fJ #[] 0)).objs.size env)) _ _
 refine bU6 (s := { s₂ with heap := h₄, toks := s₂.toks + 0 }) (s₀ := s) (c0 := 0) Z.H Z.G hw hnew hD0 hC0 hDC ?_ ?_ hv kd hrow (fun y c hy => ?_) (hifs _ _) (helt _ _) (st₂.trans st4) H4 F4 (hw.stay h0 H₂ H4 st4 (fun b hb => ⟨(fun q => nomatch q), ?_⟩) (bY eL) (bY eL)) (k4 _ _ (Heap.get?_push_size _ rfl)) (fun f => ?_) (sm₂.trans ⟨rfl, rfl⟩) eL hlen
  fun s' io' us c a1 a2 a3 a4 a5 a6 a7 => fin s' io' _ _ L us c mL _ m₂ e2 eL hlen hD0 hC0 hDC a1 a2 a3 a4 a5 a6 a7
 ·intro q; rcases hw.alive h0 _ q with ⟨y_, hz⟩; rw [cD] at hz; cases hz
 ·intro q; rcases hw.alive h0 _ q with ⟨y_, hz⟩; rw [show (compEnvC scope cl (s₂.heap.push (fJ #[] 0)).objs.size env).locals = (s₂.heap.push (fJ #[] 0)).objs.size from rfl, cC] at hz; cases hz
 ·rcases Z.F.cells y c (g2 y c hy) with ⟨⟨y_, o, ho, y_⟩, y_⟩
  exact ⟨o, ho⟩
 ·intro q
  rcases List.mem_filterMap.mp q with ⟨e, he, hf⟩
  rcases Z.G e he with ⟨y_, L', o, y_, y_, h1, y_, y_, h4, y_⟩
  rw [h1] at hf; cases hf; rw [hnew _ hb] at h4; cases h4
 ·rcases H₂.foot f with ⟨o, ho, y_⟩
  rw [cD] at ho; cases ho
theorem bP4 {C : Addr} {mC : Str -> Option Value} (hC0 : h₀.get? C = none) (hn : h.Ns C mC) (nf : ¬ dE io C) (hs : Heap.SameBut C h h') : Side W [C] h₀ h io h' :=
 ⟨fun b o hb e => (hs.2 b (by simpa using hb)).trans e, fun b hb => by rw [List.mem_singleton.mp hb]; exact hC0, fun b hb => by rw [List.mem_singleton.mp hb]; exact nf, fun b hb o ho => by
  rw [List.mem_singleton.mp hb] at ho
  rcases hn with ⟨o', es, ep, ho', hd, y_⟩
  rw [ho'] at ho; cases ho; exact dO hd⟩
theorem dB4 {elt iter : Expr} {ifs : List Expr} {scope : Scope} {px : Pos} {vis' : List (Option Str)} {nl j : Nat} {x : Str} {csrc : Lo -> Mn (List V × Gd)} {cif : Lo -> Mn Bool} {celt : Lo -> Mn V}
  (ck : CompOk scope env vis vis' nl) (hs : ∀ x, foldedSetIterable iter env x = Pure.pure x) (hv : vis'[j]? = some (some x)) (hj : vis.length <= j) (hsrc : SiSrc W A fs env vis iter csrc)
  (hifs : ∀ cl C, SiB W A fs (compEnvC scope cl C env) vis' (aA3 ifs (compEnvC scope cl C env) true) cif) (helt : ∀ cl C, SiE W A fs (compEnvC scope cl C env) vis' (eval elt (compEnvC scope cl C env)) celt) :
  SiE W A fs env vis (eval (.ListComp elt [⟨.Name x px, iter, ifs, 0⟩] scope pos) env) (fun r => bnd (csrc r) fun p => bnd (bG p.2 (eI j (r ++ List.replicate nl none) cif celt) p.1) fun l => if l.length <= lid then alloc (.list l) else bad) := by
 intro s io m r Z hne
 dsimp only at hne ⊢
 refine bG1 (Q := NP W [] (frs fs) s io m (VP W) _) (use := none) ck hs hv hj hsrc hifs helt Z hne (fun y_ y_ q => q) ?_
 intro s' io' D C L us c mL p m₂ e1 e2 hl hD0 hC0 hDC st H hD hus nf hC sm
 rcases hC with ⟨⟨mC, hn⟩, nfC⟩
 refine ⟨mC, hn, fun h' hs' => ?_⟩
 have sd : Side W [C] s.heap s'.heap io' h' := bP4 hC0 hn nfC hs'
 have st' := sd.step H st
 have H' := sd.hr H Z.H.keep
 have basD : W.base.get? D = none := by
  cases q : W.base.get? D with
  | none => rfl
  | some o => rw [Z.H.keep _ _ q] at hD0; cases hD0
 rcases cU0 st' H' (sd.keep _ _ (by simpa using hDC) hD) (hus.sol sd.sol) hl nf hD0 basD with ⟨a1, a2, a3⟩
 refine ⟨.ref mL.length, mL ++ [.list L], _, ?_, a1, a2, a3, sm.trans ⟨rfl, rfl⟩⟩
 show (csrc r m).bind _ = _
 rw [e1]
 show (bG p.2 _ p.1 m₂).bind _ = _
 rw [e2]
 show (if L.length <= lid then alloc (.list L) else bad) mL = _
 rw [if_pos hl]; rfl
noncomputable def aD5 (csrc : Lo -> Mn (List V × Gd)) (cif : Lo -> Mn Bool) (celt : Lo -> Mn V) (j nl i : Nat) (r : Lo) (m : MH) : Res (Fl × Lo) :=
 bnd (bnd (csrc r) fun p => bnd (bG p.2 (eI j (r ++ List.replicate nl none) cif celt) p.1) fun l => if l.length <= lid then alloc (.list l) else bad) (fun v => bnd (fun m => .ok (r.set i (some v)) m) fun r' => ret (Fl.next, r')) m
theorem bH5 {elt iter : Expr} {ifs : List Expr} {scope : Scope} {px py cpos : Pos} {vis' : List (Option Str)} {nl j i : Nat} {x y : Str} {csrc : Lo -> Mn (List V × Gd)} {cif : Lo -> Mn Bool} {celt : Lo -> Mn V}
  (ck : CompOk scope env vis vis' nl) (hs : ∀ x, foldedSetIterable iter env x = Pure.pure x) (hv : vis'[j]? = some (some x)) (hj : vis.length <= j) (hsrc : SiSrc W A (env :: fs) env vis iter csrc)
  (hifs : ∀ cl C, SiB W A (env :: fs) (compEnvC scope cl C env) vis' (aA3 ifs (compEnvC scope cl C env) true) cif) (helt : ∀ cl C, SiE W A (env :: fs) (compEnvC scope cl C env) vis' (eval elt (compEnvC scope cl C env)) celt)
  (hsw : swapsWithSole [.Name y py] (.ListComp elt [⟨.Name x px, iter, ifs, 0⟩] scope cpos) pos.line env = Pure.pure true) (hyv : vis[i]? = some (some y)) (hyk : env.kindOf y = some .local) :
  SiS W A fs env vis (exec (.Assign [.Name y py] (.ListComp elt [⟨.Name x px, iter, ifs, 0⟩] scope cpos) pos) env) (fun r => bnd (bnd (csrc r) fun p => bnd (bG p.2 (eI j (r ++ List.replicate nl none) cif celt) p.1) fun l => if l.length <= lid then alloc (.list l) else bad) fun v => bnd (fun m => .ok (r.set i (some v)) m) fun r' => ret (.next, r')) := by
 intro s io m r Z
 show Si W (cA env) A (env :: fs) (SP W env vis) _ s io m (aD5 csrc cif celt j nl i r m)
 intro hne
 rw [exec_Assign_arm]
 refine wpAny_bind (wpAny_standAt ?_)
 rw [hsw]
 refine wpAny_bind (wpAny_pure ?_)
 simp only [if_true]
 have hne0 : (csrc r m).bind (fun p => bnd (bG p.2 (eI j (r ++ List.replicate nl none) cif celt) p.1) fun l => if l.length <= lid then alloc (.list l) else bad) ≠ .bad := Res.bind_ne hne
 refine wpAny_bind ?_
 suffices main : wpAny (model W.prog W.w) A (comprehension (.ListComp elt [⟨.Name x px, iter, ifs, 0⟩] scope cpos) scope env (firstIterPos [⟨.Name x px, iter, ifs, 0⟩] cpos) (newList []) false (eval iter env) (some fun v => assignAll v ((assignEach [.Name y py] env).map (·.2)))) (fun y_ s' => NP W (cA env) (frs (env :: fs)) s io m (SP W env vis) (aD5 csrc cif celt j nl i r m) Flow.next s') NX s from
  wpAny_bind (wpAny_mono main (fun y_ s' q => wpAny_pure (wpAny_pure q)) fun y_ y_ q => q)
 have lift : ∀ e s', NX e s' -> NX e s' := fun y_ y_ q => q
 have go := bG1 (W := W) (A := A) (fs := env :: fs) (env := env) (vis := vis) (s := s) (io := io) (m := m) (r := r) (pos := cpos) (fp := firstIterPos [⟨.Name x px, iter, ifs, 0⟩] cpos) (elt := elt) (iter := iter) (ifs := ifs) (scope := scope) (px := px) (vis' := vis') (nl := nl) (j := j) (x := x) (csrc := csrc) (cif := cif) (celt := celt)
  (use := some fun v => assignAll v ((assignEach [.Name y py] env).map (·.2))) (Q := fun y_ s' => NP W (cA env) (frs (env :: fs)) s io m (SP W env vis) (aD5 csrc cif celt j nl i r m) Flow.next s') (E := NX) ck hs hv hj hsrc hifs helt Z.sit hne0 lift
 refine go ?_
 clear go
 intro s' io' D C L us c mL p m₂ e1 e2 hl hD0 hC0 hDC st H hD hus nf hC sm
 rcases hC with ⟨⟨mC, hn⟩, nfC⟩
 have eT : aD5 csrc cif celt j nl i r m = .ok (.next, r.set i (some (.ref mL.length))) (mL ++ [.list L]) := by
  simp only [aD5, bnd, e1, Res.bind, e2, if_pos hl, alloc, ret]
 have basD : W.base.get? D = none := by
  cases q : W.base.get? D with
  | none => rfl
  | some o => rw [Z.H.keep _ _ q] at hD0; cases hD0
 rcases cU0 st H hD hus hl nf hD0 basD with ⟨a1, a2, a3⟩
 have nfC' : ¬ dE (io' ++ [(D, D)]) C := fun f => by
  rcases d7 f with f | ⟨q, hq, e⟩
  ·exact nfC f
  ·rw [List.mem_singleton.mp hq] at e
   rcases e with e | e <;> exact hDC e.symm
 have Z' : Stt W fs env vis s' (io' ++ [(D, D)]) (mL ++ [.list L]) r := ⟨a2, Z.F.step0 Z.H a1, Z.G.step0 a1, Z.fr, Z.dis⟩
 have hLo : ∃ o, s.heap.get? env.locals = some o := by rcases Z.F.loc with ⟨y_, ⟨o, y_, y_, ho, y_⟩, y_⟩; exact ⟨o, ho⟩
 have hCl : C ∉ cA env := fun q => by
  rcases List.mem_cons.mp q with e | q
  ·rcases hLo with ⟨o, ho⟩; rw [<- e, hC0] at ho; cases ho
  ·rcases List.mem_filterMap.mp q with ⟨⟨z, c'⟩, hm, hq⟩
   rcases Z.F.cells z C hq with ⟨⟨y_, o, ho, y_⟩, y_⟩
   rw [hC0] at ho; cases ho
 have nfr : C ∉ frs (env :: fs) := fun q => by
  rcases List.mem_filterMap.mp q with ⟨e, he, hf⟩
  rcases Z.sit.G e he with ⟨y_, L', o, y_, y_, h1, y_, y_, h4, y_⟩
  rw [h1] at hf; cases hf; rw [hC0] at h4; cases h4
 have as := aY1 (W := W) (fs := fs) (A := A) (pos := py) hyv (.inl hyk) s' _ _ r _ _ Z' a3 (fun q => nomatch q)
 have key : wpAny (model W.prog W.w) A (assign (.Name y py) env (.ref D)) (fun y_ s'' => ∃ mC, s''.heap.Ns C mC /\ ∀ h', Heap.SameBut C s''.heap h' -> NP W (cA env) (frs (env :: fs)) s io m (SP W env vis) (aD5 csrc cif celt j nl i r m) Flow.next { s'' with heap := h' }) NX s' := by
  refine wpAny_mono as (fun y_ s'' q => ?_) fun e s'' q => ?_
  rotate_left
  ·exact q.elim
  rcases q with ⟨r₂, m₃, io₃, e3, st3, H3, F3, sm3⟩
  cases e3
  rcases hn with ⟨oC, esC, epC, hoC, hdC, hrC⟩
  have hoC' := st3.keep _ _ hoC nfC' hCl nfr
  have hn3 : s''.heap.Ns C mC := ⟨oC, esC, epC, hoC', hdC, hrC⟩
  refine ⟨mC, hn3, fun h' hs' => ?_⟩
  have nfC3 := st3.nofoot hoC nfC'
  have sd : Side W [C] s.heap s''.heap io₃ h' := bP4 hC0 hn3 nfC3 hs'
  have stT := (a1.wk (own' := cA env) fun y_ q => nomatch q).trans st3
  have F' : FR W h' io₃ env vis (r.set i (some (.ref mL.length))) := F3.side sd hLo fun z c hz => by rcases Z.F.cells z c hz with ⟨⟨y_, o, ho, y_⟩, y_⟩; exact ⟨o, ho⟩
  exact ⟨(.next, r.set i (some (.ref mL.length))), _, io₃, eT, sd.step H3 stT, sd.hr H3 Z.H.keep, ⟨.next, F'⟩, (sm.trans sm3).trans ⟨rfl, rfl⟩⟩
 exact key
end
end Mini
namespace Mini
open PySem PySem.W
noncomputable def dP : Ty -> String
 | .int => "int"
 | .bool => "bool"
 | .str => "str"
 | .list => "list"
 | .tuple => "tuple"
 | .dict => "dict"
 | .cls _ => ""
section
variable {W : Wd} {K : Frag} {h h' h₀ : Heap} {fs : List Env} {env : Env} {vis : List (Option Str)} {s s' s₀ : Shared} {io io' io₀ : Io} {m m' m₀ : MH} {r r' : Lo} {fr fr' own own' : List Addr} {A : Around} {n : Nat} {pos p : Pos}
structure IsiT (W : Wd) (A : Around) (E : Value -> Shared -> Prop) (t : Ty) : Prop where
 fn : ∀ {s : Shared} {Q : Value -> Shared -> Prop}, (∀ tk, Q (.bool false) { s with toks := tk }) -> wpAny (model W.prog W.w) A (call (.builtin "isinstance") [.none, .type (dP t)]) Q E s
 fb : ∀ {s : Shared} {Q : Value -> Shared -> Prop} (c : Bool), (∀ tk, Q (.bool (t == .int || t == .bool)) { s with toks := tk }) -> wpAny (model W.prog W.w) A (call (.builtin "isinstance") [.bool c, .type (dP t)]) Q E s
 fi : ∀ {s : Shared} {Q : Value -> Shared -> Prop} (k : Int) (u : Tok), (∀ tk, Q (.bool (t == .int)) { s with toks := tk }) -> wpAny (model W.prog W.w) A (call (.builtin "isinstance") [.int k u, .type (dP t)]) Q E s
 fs : ∀ {s : Shared} {Q : Value -> Shared -> Prop} (x : Str) (u : Tok), (∀ tk, Q (.bool (t == .str)) { s with toks := tk }) -> wpAny (model W.prog W.w) A (call (.builtin "isinstance") [.str x u, .type (dP t)]) Q E s
 ft : ∀ {s : Shared} {Q : Value -> Shared -> Prop} (a : Addr) (o : Obj), s.heap.get? a = some o -> o.cls = .type "tuple" -> (∀ tk, Q (.bool (t == .tuple)) { s with toks := tk }) -> wpAny (model W.prog W.w) A (call (.builtin "isinstance") [.ref a, .type (dP t)]) Q E s
 fl : ∀ {s : Shared} {Q : Value -> Shared -> Prop} (a : Addr) (o : Obj), s.heap.get? a = some o -> o.cls = .type "list" -> (∀ tk, Q (.bool (t == .list)) { s with toks := tk }) -> wpAny (model W.prog W.w) A (call (.builtin "isinstance") [.ref a, .type (dP t)]) Q E s
 fd : ∀ {s : Shared} {Q : Value -> Shared -> Prop} (a : Addr) (o : Obj), s.heap.get? a = some o -> o.cls = .type "dict" -> (∀ tk, Q (.bool (t == .dict)) { s with toks := tk }) -> wpAny (model W.prog W.w) A (call (.builtin "isinstance") [.ref a, .type (dP t)]) Q E s
theorem isiT (E : Value -> Shared -> Prop) {t : Ty} (ht : ∀ c, t ≠ .cls c) : IsiT W A E t := by
 cases t with
 | int => exact ⟨fun {s} {Q} h => IsiPair.NoneType_int (h _), fun {s} {Q} y_ h => IsiPair.bool_int (h s.toks), fun {s} {Q} y_ y_ h => IsiPair.int_int (h s.toks), fun {s} {Q} y_ y_ h => IsiPair.str_int (h _), fun {s} {Q} y_ y_ e c h => IsiPair.tuple_int e c (h _), fun {s} {Q} y_ y_ e c h => IsiPair.list_int e c (h _), fun {s} {Q} y_ y_ e c h => IsiPair.dict_int e c (h _)⟩
 | bool => exact ⟨fun {s} {Q} h => IsiPair.NoneType_bool (h _), fun {s} {Q} y_ h => IsiPair.bool_bool (h s.toks), fun {s} {Q} y_ y_ h => IsiPair.int_bool (h _), fun {s} {Q} y_ y_ h => IsiPair.str_bool (h _), fun {s} {Q} y_ y_ e c h => IsiPair.tuple_bool e c (h _), fun {s} {Q} y_ y_ e c h => IsiPair.list_bool e c (h _), fun {s} {Q} y_ y_ e c h => IsiPair.dict_bool e c (h _)⟩
 | str => exact ⟨fun {s} {Q} h => IsiPair.NoneType_str (h _), fun {s} {Q} y_ h => IsiPair.bool_str (h _), fun {s} {Q} y_ y_ h => IsiPair.int_str (h _), fun {s} {Q} y_ y_ h => IsiPair.str_str (h s.toks), fun {s} {Q} y_ y_ e c h => IsiPair.tuple_str e c (h _), fun {s} {Q} y_ y_ e c h => IsiPair.list_str e c (h _), fun {s} {Q} y_ y_ e c h => IsiPair.dict_str e c (h _)⟩
 | list => exact ⟨fun {s} {Q} h => IsiPair.NoneType_list (h _), fun {s} {Q} y_ h => IsiPair.bool_list (h _), fun {s} {Q} y_ y_ h => IsiPair.int_list (h _), fun {s} {Q} y_ y_ h => IsiPair.str_list (h _), fun {s} {Q} y_ y_ e c h => IsiPair.tuple_list e c (h _), fun {s} {Q} y_ y_ e c h => IsiPair.list_list e c (h s.toks), fun {s} {Q} y_ y_ e c h => IsiPair.dict_list e c (h _)⟩
 | tuple => exact ⟨fun {s} {Q} h => IsiPair.NoneType_tuple (h _), fun {s} {Q} y_ h => IsiPair.bool_tuple (h _), fun {s} {Q} y_ y_ h => IsiPair.int_tuple (h _), fun {s} {Q} y_ y_ h => IsiPair.str_tuple (h _), fun {s} {Q} y_ y_ e c h => IsiPair.tuple_tuple e c (h s.toks), fun {s} {Q} y_ y_ e c h => IsiPair.list_tuple e c (h _), fun {s} {Q} y_ y_ e c h => IsiPair.dict_tuple e c (h _)⟩
 | dict => exact ⟨fun {s} {Q} h => IsiPair.NoneType_dict (h _), fun {s} {Q} y_ h => IsiPair.bool_dict (h _), fun {s} {Q} y_ y_ h => IsiPair.int_dict (h _), fun {s} {Q} y_ y_ h => IsiPair.str_dict (h _), fun {s} {Q} y_ y_ e c h => IsiPair.tuple_dict e c (h _), fun {s} {Q} y_ y_ e c h => IsiPair.list_dict e c (h _), fun {s} {Q} y_ y_ e c h => IsiPair.dict_dict e c (h s.toks)⟩
 | cls c => exact absurd rfl (ht c)
structure IsiE (S : Sig) (m : MH) (t : Ty) : Prop where
 en : aM4 S .none t m = .ok false m
 eb : ∀ b, aM4 S (.bool b) t m = .ok (t == .int || t == .bool) m
 ei : ∀ i, aM4 S (.int i) t m = .ok (t == .int) m
 es : ∀ x, aM4 S (.str x) t m = .ok (t == .str) m
 et : ∀ x, aM4 S (.tup x) t m = .ok (t == .tuple) m
 er : ∀ n, aM4 S (.ref n) t m = (match m[n]? with | some (.list _) => .ok (t == .list) m | some (.dict _ _) => .ok (t == .dict) m | _ => .bad)
 ef : ∀ k, aM4 S (.fn k) t m = .bad
 ee : ∀ k, aM4 S (.exc k) t m = .bad
 ec : ∀ k, aM4 S (.scr k) t m = .bad
theorem cZ1 {S : Sig} {t : Ty} (ht : ∀ c, t ≠ .cls c) : IsiE S m t := by
 cases t with
 | cls c => exact absurd rfl (ht c)
 | _ => exact ⟨rfl, fun y_ => rfl, fun y_ => rfl, fun y_ => rfl, fun y_ => rfl, fun y_ => rfl, fun y_ => rfl, fun y_ => rfl, fun y_ => rfl⟩
theorem cP3 {S : Sig} (H : HR W s.heap io m) {t : Ty} (ht : ∀ c, t ≠ .cls c) {v : V} {u : Value} (k : VR W s.heap io v u) : Si W own A fs BV (call (.builtin "isinstance") [u, .type (dP t)]) s io m (aM4 S v t m) := by
 have X := fun E => isiT (W := W) (A := A) E ht
 have e := cZ1 (S := S) (m := m) ht
 induction k using VR.elim with
 | none => rw [e.en]; exact fun y_ => (X _).fn fun tk => fP H
 | bool b => rw [e.eb]; exact fun y_ => (X _).fb b fun tk => fP H
 | int i t => rw [e.ei]; exact fun y_ => (X _).fi i t fun tk => fP H
 | str x t hx => rw [e.es]; exact fun y_ => (X _).fs x t fun tk => fP H
 | tup ha hx => rw [e.et]; exact fun y_ => (X _).ft _ _ ha rfl fun tk => fP H
 | @ref n a d hi =>
  rw [e.er]
  cases hm : m[n]? with
  | none => exact .bad
  | some o =>
   have ho := H.obj _ _ _ hi hm
   cases o with
   | list xs =>
    rcases ho with ⟨y_, us, c, h1, y_⟩
    exact fun y_ => (X _).fl _ _ h1 rfl fun tk => fP H
   | dict kvs e =>
    rcases ho with ⟨y_, o, es, c, h1, h2, y_⟩
    exact fun y_ => (X _).fd _ _ h1 h2.1 fun tk => fP H
   | inst c fs => exact .bad
 | fn k => rw [e.ef]; exact .bad
 | exc => rw [e.ee]; exact .bad
 | scr => rw [e.ec]; exact .bad
end
end Mini
namespace Mini
open PySem PyProof.Rows
section
variable {prog : Program} {w : World} {A : Around} {E : Value -> Shared -> Prop} {s : Shared} {a₀ : Array Keyed}
theorem cX2 {st : SortSt} {Q : Option Nat -> SortSt -> Prop} (h0 : IntKeys a₀) (h1 : 1 <= a₀.size) (hB : SBase a₀ st) (hs : SortedTo (arrOf st) a₀.size) (h : Q (some a₀.size) st) : wpS (model prog w) A E s (countRun' 0 a₀.size) Q st := by
 rw [countRun0_eq]
 refine wpS_bind (wpS_ascLoop h0 (Nat.le_refl _) (Nat.le_refl 1) h1 hB (fun i j hij hj => hs i j hij (Nat.lt_of_lt_of_le hj h1)) fun n hn1 hn2 hsn hor => ?_)
 have e : n = a₀.size := by
  rcases hor with e | e
  ·exact e
  ·rcases Nat.lt_or_ge n a₀.size with q | q
   ·exact absurd e (Int.not_lt.mpr (hs (n - 1) n (Nat.sub_le _ _) q))
   ·exact Nat.le_antisymm hn2 q
 dsimp only
 rw [if_pos (by simpa using e), e]
 exact wpS_pure h
theorem aT8 : ∀ (f n r : Nat), r <= 1 -> minRun' f n r <= n + r
 | 0, _, _, _ => Nat.le_refl _
 | f + 1, n, r, h => by
  rw [minRun'_succ]
  by_cases q : n < 64
  ·rw [if_pos q]; exact Nat.le_refl _
  ·rw [if_neg q]
   have := aT8 f (n / 2) (max r (n % 2)) (by omega)
   omega
theorem cF8 {c : Prop} [Decidable c] {α : Type} {x y : StateT SortSt Sem α} {Q : α -> SortSt -> Prop} {st : SortSt} (h : ¬ c) (k : wpS (model prog w) A E s y Q st) : wpS (model prog w) A E s (if c then x else y) Q st := by rw [if_neg h]; exact k
theorem bL2 {c : Prop} [Decidable c] {α : Type} {x y : StateT SortSt Sem α} {Q : α -> SortSt -> Prop} {st : SortSt} (h : c) (k : wpS (model prog w) A E s x Q st) : wpS (model prog w) A E s (if c then x else y) Q st := by rw [if_pos h]; exact k
theorem cM0 {st : SortSt} {Q : Unit -> SortSt -> Prop} (h0 : IntKeys (arrOf st)) (hB : SBase (arrOf st) st) (h2 : 1 <= (arrOf st).size) (hs : SortedTo (arrOf st) (arrOf st).size)
  (h : ∀ st', (arrOf st').Perm (arrOf st) -> failedOf st' = none -> SortedTo (arrOf st') (arrOf st).size -> Q () st') : wpS (model prog w) A E s sortRuns' Q st := by
 have hmr : minRun' (arrOf st).size (arrOf st).size 0 <= (arrOf st).size := aT8 _ _ 0 (Nat.zero_le _)
 rw [sortRuns'_eq]
 refine wpS_bind (wpS_get (wpS_bind (wpS_mono (wpS_forRange
  (I := fun x c st' => (x = 0 /\ c = (none, 0) /\ st' = st) \/ (1 <= x /\ c = (none, (arrOf st).size) /\ SDone (arrOf st) st'))
  (Q := fun c st' => c = (none, (arrOf st).size) /\ SDone (arrOf st) st') ?step ?fin (.inl ⟨rfl, rfl, rfl⟩)) ?post)))
 case fin =>
  rintro c st' (⟨hx, y_, y_⟩ | ⟨y_, hc, hD⟩)
  ·omega
  ·exact ⟨hc, hD⟩
 case step =>
  rintro x c st' y_ hx (⟨rfl, rfl, rfl⟩ | ⟨hx1, rfl, hD⟩)
  ·refine cF8 (Nat.not_le.mpr h2) (wpS_bind ?_)
   refine cX2 h0 h2 hB hs ?_
   refine cF8 (Nat.not_lt.mpr hmr) (wpS_bind (wpS_get ?_))
   have hb : (pendingOf st').back? = none := by rw [hB.pend]; rfl
   rw [hb]
   exact wpS_bind (wpS_modify (wpS_pure (.inr ⟨by omega, by rw [Nat.zero_add], hB.done hs⟩)))
  ·exact bL2 (Nat.le_refl _) (wpS_pure ⟨rfl, hD⟩)
 case post =>
  rintro c st' ⟨rfl, hD⟩
  refine wpS_bind (wpS_mono (wpS_forRange (I := fun y_ c st'' => st'' = st' /\ c = (none, ())) (Q := fun c st'' => st'' = st' /\ c = (none, ())) ?_ (fun y_ y_ hh => hh) ⟨rfl, rfl⟩) ?_)
  ·rintro x c st'' y_ y_ ⟨rfl, rfl⟩
   exact wpS_bind (wpS_get (bL2 (by rw [hD.2.2.1]; exact Nat.le_refl 1) (wpS_pure ⟨rfl, rfl⟩)))
  ·rintro c st'' ⟨rfl, rfl⟩
   exact wpS_pure (h _ hD.1 hD.2.1 hD.2.2.2)
theorem bO8 {vs : List Value} {ns : List Int} (hI : IntsAre vs ns) (hp : ns.Pairwise (· < ·)) : SortedTo (pairsOf vs) (pairsOf vs).size := by
 intro i j hij hj
 have hi : i < (pairsOf vs).size := Nat.lt_of_le_of_lt hij hj
 rw [K_eq hi, K_eq hj]
 rw [pairsOf_size] at hi hj
 have e : ∀ (k : Nat) (hk : k < vs.length) (hk' : k < (pairsOf vs).size), (pairsOf vs)[k].1 = vs[k] := fun k hk hk' => by simp [pairsOf]
 rw [e i hi, e j hj]
 have hn := hI.nums
 have g : ∀ (k : Nat) (hk : k < vs.length), ∃ hk' : k < ns.length, numOf vs[k] = ns[k] := fun k hk => by
  subst hn
  exact ⟨by rw [List.length_map]; exact hk, by rw [List.getElem_map]⟩
 rcases g i hi with ⟨hi', e1⟩
 rcases g j hj with ⟨hj', e2⟩
 rw [e1, e2]
 rcases Nat.lt_or_ge i j with q | q
 ·exact Int.le_of_lt (List.pairwise_iff_getElem.mp hp i j hi' hj' q)
 ·have := Nat.le_antisymm hij q
  subst this
  exact Int.le_refl _
theorem aU3 {a : Addr} {vs : List Value} {ns : List Int} {n : Nat} {P : Fin -> Shared -> Prop} (ho : s.heap.get? a = some (seqObj "list" vs.toArray n))
  (hI : IntsAre vs ns) (hc : vs.length < 64 \/ ns.Pairwise (· < ·)) (hl : vs.length <= sizeLine)
  (h : ∀ (out : Array Value) (ns' : List Int), IntsAre out.toList ns' -> ns'.Perm ns -> ns'.Pairwise (· <= ·) -> P (.done (.ret .none)) { s with heap := sortedHeap s.heap a vs out }) :
  wpAny (model prog w) A (Builtin.«list.sort» ⟨[.ref a], []⟩) P E s := by
 rcases hc with h64 | hp
 ·exact list_sort_tree ho hI h64 h
 by_cases h64 : vs.length < 64
 ·exact list_sort_tree ho hI h64 h
 rw [list_sort_plain]
 have ha : a < s.heap.objs.size := Heap.lt_size ho
 refine wpAny_bind (listItems_at ho rfl ?_)
 refine wpAny_bind (listUpdate_at ho rfl ?_ (hsz := by simpa using hl))
 obtain ⟨e1, ho1⟩ : ∃ e1, (s.heap.update a (Obj.mapSeq fun y_ => #[])).get? a = some (seqObj "list" #[] e1) := ⟨_, get?_update_seq ho (fun y_ => #[])⟩
 refine wpAny_bind (seqEpoch_at ho1 rfl ?_)
 refine wpAny_bind (wpAny_newTuple ?_ (by simpa using hl))
 refine wpAny_bind (wpAny_newList ?_)
 refine wpAny_holding ?_
 have ho6 : (((s.heap.update a (Obj.mapSeq fun y_ => #[])).push (seqObj "tuple" vs.toArray 0)).push (seqObj "list" #[] 0)).get? a = some (seqObj "list" #[] e1) := by
  rw [Heap.get?_push_ne _ _ _ (by rw [size_push', Heap.size_update]; exact Nat.ne_of_lt (Nat.lt_succ_of_lt ha)), Heap.get?_push_ne _ _ _ (by rw [Heap.size_update]; exact Nat.ne_of_lt ha)]
  exact ho1
 show wpAny (model prog w) A _ P E { s with heap := ((s.heap.update a (Obj.mapSeq fun y_ => #[])).push (seqObj "tuple" vs.toArray 0)).push (seqObj "list" #[] 0) }
 dsimp only
 have hsz : vs.toArray.size = vs.length := by simp
 have h2 : ¬ vs.toArray.size < 2 := by omega
 rw [if_neg h2, if_neg h2]
 obtain ⟨v₁, v₂, rest, rfl⟩ : ∃ v₁ v₂ rest, vs = v₁ :: v₂ :: rest := by
  cases vs with
  | nil => exact absurd (by decide) h64
  | cons v₁ vs =>
   cases vs with
   | nil => exact absurd (show 1 < 64 by decide) h64
   | cons v₂ rest => exact ⟨v₁, v₂, rest, rfl⟩
 rw [keyKind_ints hI]
 refine wpAny_bind (wpAny_pure ?_)
 refine wpAny_bind (wpAny_mono (cM0 (st := SortSt.mk' oneType' ((v₁ :: v₂ :: rest).toArray.zip (v₁ :: v₂ :: rest).toArray) #[] 7 none)
  (Q := fun y_ st' => (arrOf st').Perm (pairsOf (v₁ :: v₂ :: rest)) /\ failedOf st' = none /\ SortedTo (arrOf st') (pairsOf (v₁ :: v₂ :: rest)).size)
  hI.intKeys ⟨Array.Perm.refl _, rfl, rfl, rfl⟩ (by rw [show arrOf _ = pairsOf (v₁ :: v₂ :: rest) from rfl, pairsOf_size]; simp) (bO8 hI hp) fun st' a1 a2 a3 => ⟨a1, a2, a3⟩) ?_ fun y_ y_ e => e)
 rintro ⟨⟨⟩, st'⟩ s' ⟨rfl, hp', hf, hs⟩
 dsimp only
 refine wpAny_bind (seqEpoch_at ho6 rfl ?_)
 refine wpAny_bind (listUpdate_at ho6 rfl ?_ (hsz2 := by refine Nat.le_trans (Nat.le_of_eq ((Array.size_map ..).trans (hp'.size_eq.trans (pairsOf_size _)))) ?_; exact Nat.le_succ_of_le hl))
 rw [hf]
 simp only [bne_self_eq_false, Bool.false_eq_true, if_false]
 rcases sorted_out hI hp' hs with ⟨ns', q1, q2, q3⟩
 exact wpAny_pure (h _ ns' q1 q2 q3)
end
end Mini
namespace Mini
open PySem PySem.W PySem.Calls PyProof.Rows
section
variable {prog : Program} {w : World} {A : Around} {d : Addr} {ep : Nat} {o : Obj} {es : Array DictEntry}
noncomputable def cP2 (es : Array DictEntry) (i : Nat) (v : Value) : Prop := ∃ e, es[i]? = some e /\ v = e.key
theorem bS6 (hh : A.handled = none) {I : Addr} (hne : d ≠ I) (hdat : o.data = .dict es ep) : Walks prog w A I [I, d] [I] es.size (cP2 es) (fun i h => h.IsKeyIter I d i es.size ep /\ h.get? d = some o) where
 sub := fun b hb => by rw [List.mem_singleton.mp hb]; exact .head _
 frame := fun y_ y_ y_ st hk => ⟨st.1.at fun o e => hk I (.head _) o e, hk d (.tail _ (.head _)) o st.2⟩
 item := fun i s Q E hi st hQ => by
  refine aU9 st.1 st.2 hdat hi fun h' hit' hs' => ?_
  exact hQ _ h' s.toks ⟨_, Array.getElem?_eq_getElem hi, rfl⟩ ⟨hit', hs'.extBut d o hne st.2⟩ fun b o hb e => hs'.extBut b o (fun h => hb (by rw [h]; exact .head _)) e
 done := fun s Q E st hQ => bE9 hh st.1 st.2 hdat (Nat.le_refl _) fun h' he' => hQ h' s.toks fun b o hb e => he' b o (fun h => hb (by rw [h]; exact .head _)) e
 self := fun y_ y_ y_ y_ st hQ => wpAny_pyIter_keyiter st.1 hQ
theorem kraw (hd : (d == sysModules) = false) (hc : o.ExactDict) (hdat : o.data = .dict es ep) : KdlSrc prog w "dict" d d es.size (cP2 es) (fun h => h.get? d = some o) where
 type := fun y_ hm => ⟨o, hm, hc.1⟩
 there := fun y_ hm => ⟨Heap.lt_size hm, Heap.lt_size hm⟩
 keep := fun y_ y_ hm hk => hk d (.inl rfl) o hm
 notList := by decide
 notTuple := by decide
 hint := fun y_ y_ y_ y_ hm hq => kdl_hint_dict ⟨o, hm, hc.1⟩ hq
 iter := fun y_ y_ hh hm => ⟨_, _, (fun y_ y_ hq => aV0 hd hm hc hdat hq), bS6 hh (Nat.ne_of_lt (Heap.lt_size hm)) hdat, ⟨⟨_, Heap.get?_push_size _ rfl, rfl, rfl⟩, Heap.get?_push_of_some _ hm⟩⟩
theorem bJ3 {acc : Array Value} (h : ItemsOf (cP2 es) acc es.size) : acc.toList = es.toList.map (·.key) := by
 refine List.ext_getElem? fun i => ?_
 rw [Array.getElem?_toList, List.getElem?_map, Array.getElem?_toList]
 rcases Nat.lt_or_ge i acc.size with q | q
 ·rcases h.2 i _ (Array.getElem?_eq_getElem q) with ⟨e, h1, h2⟩
  rw [Array.getElem?_eq_getElem q, h1, h2]; rfl
 ·rw [Array.getElem?_eq_none q, Array.getElem?_eq_none (by rw [<- h.1]; exact q)]; rfl
end
end Mini
namespace Mini
open PySem PySem.W PyProof.Rows
noncomputable def dC5 : Bi -> Value
 | .len => .builtin "len"
 | .abs => .builtin "abs"
 | .int => .type "int"
 | .str => .type "str"
 | .list => .type "list"
 | .tuple => .type "tuple"
 | .dict => .type "dict"
 | .sorted => .builtin "sorted"
 | .max2 => .builtin "max"
 | .min2 => .builtin "min"
 | .max1 => .builtin "max"
 | .lenset => .none
section
variable {W : Wd} {K : Frag} {h h' h₀ : Heap} {fs : List Env} {env : Env} {vis : List (Option Str)} {s s' s₀ : Shared} {io io' io₀ : Io} {m m' m₀ : MH} {r r' : Lo} {fr fr' own own' : List Addr} {A : Around} {n : Nat} {pos p : Pos}
theorem bE4 {D : Addr} {us : Array Value} {c tk : Nat} {L : List V} (H : HR W s.heap io m) (hk : ∀ b o, s.heap.get? b = some o -> h'.get? b = some o) (hD : h'.get? D = some (fJ us c)) (hus : VRs W s.heap io L us.toList) (hl : L.length <= lid) (hD0 : s.heap.get? D = none) :
  NP W own fr s io m (VP W) (alloc (.list L) m) (.ref D) { s with heap := h', toks := tk } := by
 have st : Step own fr s.heap io m h' io m := .of_keeps H hk
 have nf : ¬ dE io D := fun f => by
  obtain ⟨o, ho, y_⟩ := H.foot f
  rw [hD0] at ho; cases ho
 have basD : W.base.get? D = none := by
  cases q : W.base.get? D with
  | none => rfl
  | some o => rw [H.keep _ _ q] at hD0; cases hD0
 obtain ⟨a1, a2, a3⟩ := cU0 st (H.of_keeps hk) hD (hus.step st) hl nf hD0 basD
 exact ⟨_, _, _, rfl, a1, a2, a3, rfl, rfl⟩
theorem aA6 {k : Nat} (hk : k <= lid) : (k : Int) < 2 ^ 63 := by have : lid = 4194304 := rfl; omega
theorem cP9 {xs : List V} {is : List Int} {us : List Value} (h : eU xs = some is) (k : VRs W s.heap io xs us) : IntsAre us is /\ is.length = xs.length := by
 induction xs generalizing is us with
 | nil => cases k; cases h; exact ⟨.nil, rfl⟩
 | cons x xs ih =>
  refine VRs.dCons k fun y_ y_ k1 k2 => ?_
  ·
   induction k1 using VR.elim <;> first | (exact nomatch (show (none : Option (List Int)) = some _ from h)) | skip
   cases q : eU xs with
   | none => have h : (eU xs).map _ = some is := h; rw [q] at h; cases h
   | some js =>
    have h : (eU xs).map _ = some is := h
    rw [q] at h
    simp only [Option.map_some, Option.some.injEq] at h
    subst h
    rcases ih q k2 with ⟨a, b⟩
    exact ⟨.cons _ _ a, by simp [b]⟩
theorem bX0 {us : List Value} {is : List Int} (k : IntsAre us is) : VRs W h io (is.map V.int) us := by
 induction k with
 | nil => exact .nil
 | cons n t y_ ih => exact .cons (.int n t) ih
theorem aD1 (x : Int) : ∀ l : List Int, (Mini.insI x l).Perm (x :: l)
 | [] => .refl _
 | y :: r => by
  unfold Mini.insI; split
  ·exact .refl _
  ·exact ((aD1 x r).cons y).trans (.swap _ _ _)
theorem fM : ∀ ns, (Mini.sortI ns).Perm ns
 | [] => .refl _
 | x :: r => (aD1 x _).trans ((fM r).cons x)
theorem aI1 (x : Int) : ∀ l : List Int, l.Pairwise (· <= ·) -> (Mini.insI x l).Pairwise (· <= ·)
 | [], _ => by simp [Mini.insI]
 | y :: r, h => by
  rcases List.pairwise_cons.mp h with ⟨h1, h2⟩
  unfold Mini.insI; split
  ·refine List.pairwise_cons.mpr ⟨fun z hz => ?_, h⟩
   rcases List.mem_cons.mp hz with rfl | hz
   ·assumption
   ·have := h1 z hz; omega
  ·refine List.pairwise_cons.mpr ⟨fun z hz => ?_, aI1 x r h2⟩
   rcases List.mem_cons.mp ((aD1 x r).mem_iff.mp hz) with rfl | hz
   ·omega
   ·exact h1 z hz
theorem aD8 : ∀ ns, (Mini.sortI ns).Pairwise (· <= ·)
 | [] => .nil
 | x :: r => aI1 x _ (aD8 r)
theorem bU1 {ns ns' : List Int} (hp : ns'.Perm ns) (hs : ns'.Pairwise (· <= ·)) : ns' = Mini.sortI ns :=
 List.Perm.eq_of_pairwise (fun y_ y_ y_ y_ a b => Int.le_antisymm a b) hs (aD8 ns) (hp.trans (fM ns).symm)
theorem int_dict (H : HR W s.heap io m) {k : Nat} {p : Addr × Addr} {kvs : List (Ky × V)} {e : Nat} {is : List Int} (hi : io[k]? = some p) (hm : m[k]? = some (.dict kvs e)) (hk : fK kvs = some is) :
  ∃ (l : List (Int × Value)) (ep : Nat), s.heap.DictAt (intKind W.prog W.w) p.1 l ep /\ l.map (·.1) = is /\ is.length = kvs.length /\ kvs.length <= lid := by
 refine hide fun G_ g_ => ?_
 rcases H.obj _ _ _ hi hm with ⟨y_, o, es, c, h1, h2, h3, h4, h5, h6⟩
 have keys : ∀ (kvs : List (Ky × V)) (is : List Int), fK kvs = some is -> kvs.map (·.1) = is.map Ky.int := by
  intro kvs
  induction kvs with
  | nil => intro is h; cases h; rfl
  | cons q r ih =>
   intro is h
   rcases q with ⟨q1, q2⟩
   cases q1 <;> first | (exact nomatch (show (none : Option (List Int)) = some is from h)) | skip
   cases w : fK r with
   | none => have h : (fK r).map _ = some is := h; rw [w] at h; cases h
   | some js =>
    have h : (fK r).map _ = some is := h
    rw [w] at h
    simp only [Option.map_some, Option.some.injEq] at h
    subst h
    simp [ih js w]
 have ke := keys kvs is hk
 have hall : ∀ q ∈ kvs, ∃ j, q.1 = Ky.int j := fun q hq => by
  have : q.1 ∈ kvs.map (·.1) := List.mem_map.mpr ⟨q, hq, rfl⟩
  rw [ke] at this
  obtain ⟨j, y_, e⟩ := List.mem_map.mp this
  exact ⟨j, e.symm⟩
 rcases h4.pairs intEmb hall with ⟨l, l1, l2, l3⟩
 refine g_ ?_
 clear g_ G_
 have l4 : l.map (·.1) = is := by
  rw [ke] at l2
  have : (l.map (·.1)).map Ky.int = is.map Ky.int := by rw [List.map_map]; exact l2
  exact (List.map_inj_right fun y_ y_ e => ky_i e).mp this
 refine ⟨l, c, ⟨o, es, h1, h2, h3, ?_, l1, ?_⟩, l4, ?_, h6⟩
 ·intro e he
  exact h4.keysOf intEmb hall e (by simpa using he)
 ·rw [l4]
  rw [ke] at h5
  exact (List.pairwise_map.mp h5).imp fun h q => h (by rw [q])
 ·have := congrArg List.length ke
  simpa using this.symm
noncomputable def cU3 : Bi -> Bool
 | .len | .abs | .int | .list | .sorted | .max2 | .min2 => true
 | _ => false
set_option tactic.hygienic true in
theorem cC7 {l : List (Int × Value)} {acc : Array Value} (h : ItemsOf (fun i v => ∃ k x, l[i]? = some (k, x) /\ (intKind W.prog W.w).is k v = true) acc l.length) : IntsAre acc.toList (l.map (·.1)) := by
 have key : ∀ (l : List (Int × Value)) (vs : List Value), vs.length = l.length -> (∀ (j : Nat) (v : Value), vs[j]? = some v -> ∃ k x, l[j]? = some (k, x) /\ (intKind W.prog W.w).is k v = true) -> IntsAre vs (l.map (·.1)) := by
  intro l
  induction l with
  | nil => intro vs hl _; cases vs with
   | nil => exact .nil
   | cons => cases hl
  | cons q r ih =>
   intro vs hl hv
   cases vs with
   | nil => cases hl
   | cons v vs =>
    obtain ⟨k, x, e1, e2⟩ := hv 0 v rfl
    simp at e1
    subst e1
    have : ∃ t, v = .int k t := by
     cases v <;> simp [intKind, Value.isInt] at e2
     rename_i j t
     exact ⟨t, by rw [e2]⟩
    rcases this with ⟨t, rfl⟩
    exact .cons k t (ih vs (by simpa using hl) fun j v e => by simpa using hv (j + 1) v (by simpa using e))
 exact key l acc.toList (by simpa using h.1) fun j v e => h.2 j v (by rw [<- Array.getElem?_toList]; exact e)
theorem cF5 {Pr : Bi -> List V -> Prop} (l1 : ∀ s, Pr .len [.str s]) (l2 : ∀ xs, Pr .len [.tup xs]) (l3 : ∀ ns, Pr .len [.scr ns]) (l4 : ∀ n, Pr .len [.ref n]) (a1 : ∀ i, Pr .abs [.int i]) (i1 : ∀ c, Pr .int [.bool c]) (i2 : ∀ s, Pr .int [.str s]) (s1 : ∀ i, Pr .str [.int i]) (t1 : ∀ xs, Pr .list [.tup xs]) (t2 : ∀ n, Pr .list [.ref n])
  (o1 : ∀ n, Pr .sorted [.ref n]) (u1 : ∀ n, Pr .tuple [.ref n]) (d1 : ∀ n, Pr .dict [.ref n]) (x1 : ∀ i j, Pr .max2 [.int i, .int j]) (x2 : ∀ i j, Pr .min2 [.int i, .int j]) (bad : ∀ b vs, cU3 b = false \/ biV b vs = (fun y_ => .bad) -> Pr b vs) (b : Bi) (vs : List V) : Pr b vs := by
 cases hb : cU3 b with
 | false => exact bad b vs (.inl hb)
 | true =>
  cases vs with
  | nil => exact bad b [] (.inr (by cases b <;> rfl))
  | cons v vs =>
   cases vs with
   | nil =>
    cases b <;> first | (cases hb; done) | skip
    all_goals cases v <;> first | (exact l1 _) | (exact l2 _) | (exact l3 _) | (exact l4 _) | (exact a1 _) | (exact i1 _) | (exact i2 _) | (exact s1 _) | (exact t1 _) | (exact t2 _) | (exact o1 _) | (exact u1 _) | (exact d1 _) | (exact bad _ _ (.inr rfl))
   | cons v' vs =>
    cases vs with
    | nil =>
     cases b <;> first | (exact bad _ _ (.inr rfl)) | skip
     all_goals cases v <;> first | (exact bad _ _ (.inr rfl)) | skip
     all_goals cases v' <;> first | (exact x1 _ _) | (exact x2 _ _) | (exact bad _ _ (.inr rfl))
    | cons v'' vs => exact bad _ _ (.inr (by cases b <;> first | rfl | (cases v <;> first | rfl | (cases v' <;> rfl))))
set_option tactic.hygienic true in
theorem dC4 (ok : WOk W) (hh : A.handled = none) {b : Bi} (hb : cU3 b = true) : SiF W A fs (dC5 b) (biV b) := by
 intro s io m vs us H G hu
 revert us
 revert hb
 refine cF5 (Pr := fun b vs => cU3 b = true -> ∀ us, VRs W s.heap io vs us -> Si W [] A fs (VP W) (call (dC5 b) us) s io m (biV b vs m)) ?_ ?_ ?_ ?_ ?_ ?_ ?_ ?_ ?_ ?_ ?_ ?_ ?_ ?_ ?_ ?_ b vs
 ·intro x hb us hu
  refine VRs.d1 hu fun y_ k1 => ?_; refine VR.dStr k1 fun t hx => ?_
  show Si W [] A fs (VP W) _ s io m (if x.length <= lid then .ok (.int x.length) m else .bad)
  split
  ·rename_i hl
   exact fun y_ => P.len_str (by have := aA6 hl; omega) (bC H (.int _ _))
  ·exact .bad
 ·intro xs hb us hu
  refine VRs.d1 hu fun y_ k1 => ?_; refine VR.dTup k1 fun a ws c ha hx => ?_
  show Si W [] A fs (VP W) _ s io m (if xs.length <= lid then .ok (.int xs.length) m else .bad)
  split
  ·rename_i hl
   have e : ws.size = xs.length := hx.size
   have := PyProof.Rows.len_tuple (prog := W.prog) (w := W.w) (A := A) (E := NX) (s := s) (Q := NP W [] (frs fs) s io m (VP W) (.ok (.int xs.length) m)) ⟨_, ha, rfl, c, rfl⟩ (by rw [e]; exact aA6 hl) (by rw [e]; exact bC H (.int _ _))
   exact fun y_ => this
  ·exact .bad
 ·intro ns hb us hu
  refine VRs.d1 hu fun y_ k1 => ?_; refine VR.dScr k1 fun l o ws c hl hc hd hi hn => ?_
  have e : ws.size = ns.length := by simpa using hi.length
  refine fun y_ => Calls.call_len_list ⟨o, H.keep _ _ hl, hc, c, hd⟩ (by rw [e]; exact aA6 hn) ?_
  rw [e]; exact bC H (.int _ _)
 ·intro k hb us hu
  refine VRs.d1 hu fun y_ k1 => ?_; refine VR.dRef k1 fun a d hi => ?_
  show Si W [] A fs (VP W) _ s io m (match m[k]? with | some (.list xs) => .ok (.int xs.length) m | _ => .bad)
  split
  ·rename_i xs hm
   obtain ⟨y_, ws, c, h1, h2, h3⟩ := H.obj _ _ _ hi hm
   have e : ws.size = xs.length := h2.size
   refine fun y_ => Calls.call_len_list ⟨_, h1, rfl, c, rfl⟩ (by rw [e]; exact aA6 h3) ?_
   rw [e]; exact bC H (.int _ _)
  ·exact .bad
 ·intro i hb us hu
  refine VRs.d1 hu fun y_ k1 => ?_; cases k1
  exact fun y_ => PyProof.Rows.call_abs_int fun u tk => bC H (.int _ _)
 ·intro c hb us hu
  refine VRs.d1 hu fun y_ k1 => ?_; cases k1
  exact fun y_ => call_int_bool (bC H (.int _ _))
 ·intro x hb us hu; exact .bad
 ·intro i hb; cases hb
 ·intro xs hb us hu; exact .bad
 ·intro k hb us hu
  refine VRs.d1 hu fun y_ k1 => ?_; refine VR.dRef k1 fun a d hi => ?_
  show Si W [] A fs (VP W) _ s io m (match m[k]? with | some (.list xs) => alloc (.list xs) m | some (.dict kvs _) => alloc (.list (kvs.map fun p => p.1.val)) m | _ => .bad)
  split
  ·rename_i xs hm
   obtain ⟨y_, ws, c, h1, h2, h3⟩ := H.obj _ _ _ hi hm
   refine fun y_ => call_list_seq a (.inl rfl) h1 rfl rfl (fun h' c' hk hD => ?_) (by rw [h2.size]; exact aK h3)
   exact bE4 (tk := s.toks) H hk hD h2 h3 (aR _)
  ·rename_i kvs e hm
   obtain ⟨y_, o, es, ep, h1, h2, h3, h4, h5⟩ := H.obj _ _ _ hi hm
   have ky := h4.keys
   have el : es.size = kvs.length := by have := ky.length; simpa using this
   refine fun y_ => kdl_call (kraw (H.notSys ok ⟨_, List.mem_of_getElem? hi, .inl rfl⟩) h2 h3) hh h1 (by rw [el]; exact aK h5.2) fun h' tk acc c' hk' hD hacc => ?_
   exact bE4 (tk := tk) H hk' hD (by rw [bJ3 hacc]; exact ky) (by rw [List.length_map]; exact h5.2) (aR _)
  ·exact .bad
 ·intro k hb us hu
  refine VRs.d1 hu fun y_ k1 => ?_; refine VR.dRef k1 fun a d hi => ?_
  show Si W [] A fs (VP W) _ s io m (match m[k]? with | some (.dict kvs _) => (match fK kvs with | some is => if is.length < 64 \/ is.Pairwise (· < ·) then alloc (.list ((sortI is).map .int)) m else .bad | Option.none => .bad) | _ => .bad)
  split
  ·rename_i kvs e hm
   split
   ·rename_i is hk
    split
    ·rename_i h64
     obtain ⟨l, ep, q1, q2, q3, q4⟩ := int_dict H hi hm hk
     have e : l.length = kvs.length := by rw [<- q3, <- q2]; simp
     intro y_
     refine Calls.call_function_entry kind_sorted plain_sorted entry_sorted (args_sorted1 _) ?_
     unfold Builtin.«sorted»
     refine wpAny_bind (m := checkCount "sorted" 1 1 _) (wpAny_pure ?_)
     refine wpAny_bind (kdu_collect (A := A.in1) (kdl_dict (H.notSys ok ⟨_, List.mem_of_getElem? hi, .inl rfl⟩)) hh q1 (by rw [e]; exact aK q4) fun h' tk acc hk' hacc => ?_)
     have ia := cC7 hacc
     rw [q2] at ia
     have il : is.length = kvs.length := q3
     have al : acc.toList.length = kvs.length := by
      have : acc.size = l.length := hacc.1
      simp only [Array.length_toList]; omega
     have hl : acc.toList.length < 64 \/ is.Pairwise (· < ·) := h64.imp (fun q => by omega) id
     have sl : acc.toList.length <= sizeLine := by rw [al]; exact aK q4
     refine wpAny_bind (wpAny_newList ?_ sl)
     have hoL : (h'.push (seqObj "list" acc.toList.toArray 0)).get? h'.objs.size = some (seqObj "list" acc.toList.toArray 0) := Heap.get?_push_size _ rfl
     refine wpAny_bind (wpAny_holding (wpAny_call_entry slot_list_sort ⟨_, hoL, rfl⟩ entry_list_sort (aU3 hoL ia hl sl fun out ns' a1 a2 a3 => ⟨_, rfl, ?_⟩) (args_list_sort _)))
     refine wpAny_pure ⟨_, rfl, ?_⟩
     rw [bU1 a2 a3] at a1
     rcases sortedHeap_at (out := out) hoL with ⟨ce, hat⟩
     have dead : s.heap.get? h'.objs.size = none := by
      cases q : s.heap.get? h'.objs.size with
      | none => rfl
      | some o => have := hk' _ _ q; rw [aR] at this; cases this
     refine bE4 (tk := tk) H (fun b o e => ?_) hat (bX0 a1) (by rw [List.length_map, (fM is).length_eq, il]; exact q4) dead
     have e1 := aL (seqObj "list" acc.toList.toArray 0) b o (hk' b o e)
     rw [sortedHeap_old (Nat.ne_of_lt (Heap.lt_size (hk' b o e))) (Heap.lt_size e1)]
     exact e1
    ·exact .bad
   ·exact .bad
  ·exact .bad
 ·intro i hb; cases hb
 ·intro i hb; cases hb
 ·intro i j hb us hu
  refine VRs.d2 hu fun y_ y_ k1 k2 => ?_; cases k1; cases k2
  show Si W [] A fs (VP W) _ s io m (.ok (.int (if j > i then j else i)) m)
  refine fun y_ => max_two_ints hh fun h' tk hk => ?_
  have st : Step [] (frs fs) s.heap io m h' io m := .of_keeps H hk
  split <;> exact ⟨_, m, io, rfl, st, H.of_keeps hk, .int _ _, rfl, rfl⟩
 ·intro i j hb us hu
  refine VRs.d2 hu fun y_ y_ k1 k2 => ?_; cases k1; cases k2
  show Si W [] A fs (VP W) _ s io m (.ok (.int (if j < i then j else i)) m)
  refine fun y_ => min_two_ints hh fun h' tk hk => ?_
  have st : Step [] (frs fs) s.heap io m h' io m := .of_keeps H hk
  split <;> exact ⟨_, m, io, rfl, st, H.of_keeps hk, .int _ _, rfl, rfl⟩
 ·intro b vs hq hb us hu
  rcases hq with hq | hq
  ·rw [hq] at hb; cases hb
  ·rw [hq]; exact .bad
end
end Mini
namespace Mini
open PySem PySem.W PyProof.Rows
noncomputable def bP1 : Nat -> String
 | 0 => "list"
 | 1 => "dict"
 | _ => "str"
noncomputable def bP2 : Sm -> String
 | .append => "append"
 | .pop => "pop"
 | .clear => "clear"
 | .get => "get"
 | .join => "join"
 | .split => "split"
 | .count => "count"
 | .index => "index"
noncomputable def smId (k : Nat) (n : Sm) : String := match k, n with
 | 0, .append => "list.append"
 | 0, .pop => "list.pop"
 | 0, .count => "list.count"
 | 0, .index => "list.index"
 | 1, .pop => "dict.pop"
 | 1, .get => "dict.get"
 | 2, .split => "str.split"
 | 0, .clear => "list.clear"
 | 1, .clear => "dict.clear"
 | _, _ => "str.join"
section
variable {W : Wd} {K : Frag} {h h' h₀ : Heap} {fs : List Env} {env : Env} {vis : List (Option Str)} {s s' s₀ : Shared} {io io' io₀ : Io} {m m' m₀ : MH} {r r' : Lo} {fr fr' own own' : List Addr} {A : Around} {n : Nat} {pos p : Pos}
theorem aL9 {α β : Type} {P : Heap -> Io -> β -> α -> Prop} (H : HR W s.heap io m) {i : Nat} {p : Addr × Addr} {xs xs' : List V} (hi : io[i]? = some p) (hm : m[i]? = some (.list xs)) {h' : Heap} {tk : Nat} (hs : Heap.SameBut p.1 s.heap h') {us' : Array Value} {c' : Nat} (h1 : h'.get? p.1 = some (fJ us' c')) (h2 : VRs W s.heap io xs' us'.toList) (h3 : xs'.length <= lid) {v : β} {u : α}
  (hP : ∀ st : Step own fr s.heap io m h' io (m.set i (.list xs')), P h' io v u) : NP W own fr s io m P (.ok v (m.set i (.list xs'))) u { s with heap := h', toks := tk } := by
 rcases H.obj _ _ _ hi hm with ⟨hpp, y_⟩
 have hk : ∀ b o, b ≠ p.1 -> b ≠ p.2 -> s.heap.get? b = some o -> h'.get? b = some o := fun b o q y_ ho => aB0 hs b o q ho
 have hd : ∀ kv ep, MObj.list xs = .dict kv ep -> ∃ kvs2 e2, MObj.list xs' = .dict kvs2 e2 /\ ep < e2 := fun kv ep q => by cases q
 have st : Step own fr s.heap io m h' io (m.set i (.list xs')) := aE8 H hi hm hk ⟨_, h1⟩ ⟨_, hpp ▸ h1⟩ hd
 exact ⟨v, _, io, rfl, st, H.set hi hm hk hd ⟨_, h1⟩ ⟨_, hpp ▸ h1⟩ ⟨hpp, us', c', h1, h2.step st, h3⟩, hP st, rfl, rfl⟩
set_option tactic.hygienic true in
theorem bZ1 {xs : List V} {l : List Str} {us : List Value} (h : dT xs = some l) (k : VRs W s.heap io xs us) : ∃ ts : List (Str × Tok), us = strValues ts /\ ts.map (·.1) = l /\ ∀ x ∈ l, PyData.strOk x = true := by
 induction xs generalizing l us with
 | nil => cases k; cases h; exact ⟨[], rfl, rfl, fun y_ q => nomatch q⟩
 | cons x xs ih =>
  refine VRs.dCons k fun y_ y_ k1 k2 => ?_
  ·
   induction k1 using VR.elim <;> first | (exact nomatch (show (none : Option (List Str)) = some _ from h)) | skip
   rename_i y t hy
   cases q : dT xs with
   | none => have h : (dT xs).map _ = some l := h; rw [q] at h; cases h
   | some js =>
    have h : (dT xs).map _ = some l := h
    rw [q] at h
    simp only [Option.map_some, Option.some.injEq] at h
    subst h
    obtain ⟨ts, a, b, c⟩ := ih q k2
    refine ⟨(y, t) :: ts, by rw [a]; rfl, by simp [b], fun z hz => ?_⟩
    rcases List.mem_cons.mp hz with rfl | hz
    ·exact hy
    ·exact c z hz
theorem cD7 (sep : Str) (l : List Str) : Txt.join sep l = aK0 sep l := by
 show (⟨(l.drop 1).foldl (fun acc p => acc ++ sep.cps ++ p.cps) (l.headD Str.empty).cps⟩ : Str) = aK0 sep l
 cases l with
 | nil => rfl
 | cons x r =>
  show (⟨r.foldl (fun acc p => acc ++ sep.cps ++ p.cps) x.cps⟩ : Str) = r.foldl (fun acc p => acc ++ sep ++ p) x
  induction r generalizing x with
  | nil => rfl
  | cons y r ih => exact ih (x ++ sep ++ y)
theorem cC9 {sep : Str} {l : List Str} (hs : PyData.strOk sep = true) (hl : ∀ x ∈ l, PyData.strOk x = true) : PyData.strOk (aK0 sep l) = true := by
 cases l with
 | nil => show PyData.strOk Str.empty = true; simp [PyData.strOk, Str.empty]
 | cons x r =>
  have key : ∀ (r : List Str) (x : Str), PyData.strOk x = true -> (∀ y ∈ r, PyData.strOk y = true) -> PyData.strOk (r.foldl (fun acc p => acc ++ sep ++ p) x) = true := by
   intro r
   induction r with
   | nil => intro x hx _; exact hx
   | cons y r ih => intro x hx hr; exact ih _ (eH (eH hx hs) (hr y (.head _))) fun z hz => hr z (.tail _ hz)
  exact key r x (hl x (.head _)) fun y hy => hl y (.tail _ hy)
theorem cG3 {k : Nat} {sm : Sm} (h : smH k sm = true) : (k = 0 /\ sm = .append) \/ (k = 0 /\ sm = .pop) \/ (k = 2 /\ sm = .join) \/ (k = 1 /\ sm = .pop) \/ (k = 1 /\ sm = .get) := by
 rcases k with _ | _ | _ | k <;> cases sm <;> first | (exact .inl ⟨rfl, rfl⟩) | (exact .inr (.inl ⟨rfl, rfl⟩)) | (exact .inr (.inr (.inl ⟨rfl, rfl⟩))) | (exact .inr (.inr (.inr (.inl ⟨rfl, rfl⟩)))) | (exact .inr (.inr (.inr (.inr ⟨rfl, rfl⟩)))) | (exact absurd h Bool.false_ne_true)
theorem Si.res0 {α β : Type} {P : Heap -> Io -> α -> β -> Prop} {t : Sem β} {R R' : Res α} (x : Si W own A fs P t s io m R) (e : R' = R) : Si W own A fs P t s io m R' := e ▸ x
theorem cW9 {q : Nat} {n : Sm} {vs : List V} {o : Option MObj} (hm : m[q]? = o) : dH 0 (.ref q) n vs m = (match (generalizing := false) o with | some (.list xs) => bS0 q xs n vs m | _ => .bad) := by subst hm; rfl
theorem bP0 {o : V} {n : Sm} {vs : List V} {u : Value} {t : Sem Value} (kx : VR W s.heap io o u) (h : ∀ (q : Nat) (a d : Addr) (xs : List V), o = .ref q -> u = .ref a -> io[q]? = some (a, d) -> m[q]? = some (.list xs) -> Si W [] A fs (VP W) t s io m (bS0 q xs n vs m)) : Si W [] A fs (VP W) t s io m (dH 0 o n vs m) := by
 induction kx using VR.elim with
 | @ref q a d hi =>
  cases hm : m[q]? with
  | none => rw [cW9 hm]; exact .bad
  | some o =>
   rw [cW9 hm]
   cases o with
   | list xs => exact h q a d xs rfl rfl hi hm
   | _ => exact .bad
 | _ => exact .bad
set_option tactic.hygienic true in
theorem cW8 (ok : WOk W) {k : Nat} {sm : Sm} (hH : smH k sm = true) (H : HR W s.heap io m) {x : V} {u : Value} {vs : List V} {us : List Value} (kx : VR W s.heap io x u) (hu : VRs W s.heap io vs us) :
  Si W [] A fs (VP W) (call (.builtin (smId k sm)) (u :: us)) s io m (dH k x sm vs m) := by
 rcases cG3 hH with ⟨rfl, rfl⟩ | ⟨rfl, rfl⟩ | ⟨rfl, rfl⟩ | ⟨rfl, rfl⟩ | ⟨rfl, rfl⟩
 ·refine bP0 kx fun q a d xs ho hu' hi hm => ?_
  subst ho; subst hu'
  rcases H.obj _ _ _ hi hm with ⟨y_, ws, c, h1, h2, h3⟩
  induction hu using VRs.elim with
  | nil => exact .bad
  | cons k1 k2 =>
   induction k2 using VRs.elim with
   | cons y_ y_ => exact .bad
   | nil =>
    show Si W [] A fs (VP W) _ s io m (if xs.length < lid then _ else _)
    split
    ·rename_i hl
     refine fun y_ => wpAny_list_append_plain ⟨c, h1⟩ (fun h' ⟨c', hD⟩ hs => ?_) (by rw [h2.size]; exact aK h3)
     exact aL9 (tk := s.toks) H hi hm hs hD (by rw [Array.toList_push]; exact h2.snoc k1) (by simp; omega) fun y_ => .none
    ·exact .bad
 ·refine bP0 kx fun q a d xs ho hu' hi hm => ?_
  subst ho; subst hu'
  rcases H.obj _ _ _ hi hm with ⟨y_, ws, c, h1, h2, h3⟩
  induction hu using VRs.elim with
  | nil => exact .bad
  | cons k1 k2 =>
   induction k2 using VRs.elim with
   | cons y_ y_ => exact .bad
   | nil =>
    induction k1 using VR.elim with
    | int j t =>
     show Si W [] A fs (VP W) _ s io m (if 0 <= j then (match xs[j.toNat]? with | some v => if j.natAbs < 2 ^ 60 then .ok v (m.set q (.list (xs.eraseIdx j.toNat))) else .bad | Option.none => .bad) else .bad)
     by_cases hj : 0 <= j
     ·rw [if_pos hj]
      cases hv : xs[j.toNat]? with
      | none => exact .bad
      | some v =>
       show Si W [] A fs (VP W) _ s io m (if j.natAbs < 2 ^ 60 then _ else _)
       by_cases hlt : j.natAbs < 2 ^ 60
       ·rw [if_pos hlt]
        rcases h2.get hv with ⟨y, hy, ky⟩
        have hlen : j.toNat < xs.length := (List.getElem?_eq_some_iff.mp hv).1
        have hy' : ws[j.toNat]? = some y := by rw [<- Array.getElem?_toList]; exact hy
        have hsz : ws.size = xs.length := h2.size
        refine fun y_ => call_meets PySem.F.slot_list_pop ⟨_, h1, rfl⟩ PySem.F.entry_list_pop (PySem.F.args_list_pop_2 _ _) (PySem.MeetsSeq.list_pop_at a ws c j t j.toNat y ?_ ?_ hy' (by rw [hsz]; exact aK h3)) ⟨h1, ?_⟩
        ·unfold Builtin.List.listFitsIndex; simp; omega
        ·unfold seqIndex?
         rw [hsz]
         simp only [show ¬ j < 0 from by omega, if_false]
         rw [if_pos (by simp; omega)]
        ·have q := PySem.IsL.update h1 (fun xs => xs.eraseIdxIfInBounds j.toNat)
         have e : (ws.eraseIdxIfInBounds j.toNat).toList = ws.toList.eraseIdx j.toNat := by
          unfold Array.eraseIdxIfInBounds
          rw [dif_pos (by omega)]
          simp
         exact aL9 (tk := s.toks) H hi hm (Heap.SameBut.update ..) q (by rw [e]; exact h2.eraseIdx _) (by have := List.length_eraseIdx_le xs j.toNat; omega) fun st => ky.step st
       ·rw [if_neg hlt]; exact .bad
     ·rw [if_neg hj]; exact .bad
    | _ => exact .bad
 ·induction kx using VR.elim with
  | str z tz hz =>
   induction hu using VRs.elim with
   | nil => exact .bad
   | cons k1 k2 =>
    induction k2 using VRs.elim with
    | cons y_ y_ => exact .bad
    | nil =>
     induction k1 using VR.elim with
     | @ref q a d hi =>
      show Si W [] A fs (VP W) _ s io m (match m[q]? with | some (.list xs) => (match dT xs with | some l => if fG z l <= lid then .ok (.str (aK0 z l)) m else .bad | Option.none => .bad) | _ => .bad)
      cases hm : m[q]? with
      | none => exact .bad
      | some o =>
       cases o with
       | list xs =>
        cases hl : dT xs with
        | none => show Si W [] A fs (VP W) _ s io m (match dT xs with | some l => if fG z l <= lid then .ok (.str (aK0 z l)) m else .bad | Option.none => .bad); rw [hl]; exact .bad
        | some l =>
         show Si W [] A fs (VP W) _ s io m (match dT xs with | some l => if fG z l <= lid then .ok (.str (aK0 z l)) m else .bad | Option.none => .bad)
         rw [hl]
         show Si W [] A fs (VP W) _ s io m (if fG z l <= lid then .ok (.str (aK0 z l)) m else .bad)
         by_cases hlen : fG z l <= lid
         ·rw [if_pos hlen]
          rcases H.obj _ _ _ hi hm with ⟨y_, ws, c, h1, h2, h3⟩
          rcases bZ1 (s := s) hl h2 with ⟨ts, e1, e2, e3⟩
          have htl : Builtin.Str.tooLong ((ts.map (·.1)).toArray.foldl (· + ·.length + z.length) 0) = false := by
           rw [e2]
           have : sizeLine = 16777216 := sizeLine_eq
           have q : (l.toArray.foldl (· + ·.length + z.length) 0) = fG z l := by simp [fG]
           rw [q]
           unfold Builtin.Str.tooLong
           have : lid = 4194304 := rfl
           simp; omega
          refine fun y_ => call_meets PySem.F.slot_str_join (typeIs_str _ _ _) PySem.F.entry_str_join (PySem.F.args_str_join_2 _ _) (meets_str_join_list z tz a ts htl) ⟨⟨_, h1, rfl, c, ?_⟩, post_join ts ⟨joinFit_length htl, fun t' k' => ?_⟩⟩
          ·show Data.seq ws c = _
           rw [<- e1, Array.toArray_toList]
          ·rw [e2, cD7]
           exact bC H (.str _ _ (cC9 hz e3))
         ·rw [if_neg hlen]; exact .bad
       | _ => exact .bad
     | _ => exact .bad
  | _ => exact .bad
 ·induction kx using VR.elim with
  | @ref q a d hi =>
   cases hm : m[q]? with
   | none => exact Si.res0 .bad (by show (match m[q]? with | some (.dict kvs e) => aI8 q kvs e .pop vs m | _ => .bad) = _; rw [hm])
   | some o =>
    cases o with
    | dict kvs e =>
     refine Si.res0 (R := aI8 q kvs e .pop vs m) ?_ (by show (match m[q]? with | some (.dict kvs e) => aI8 q kvs e .pop vs m | _ => .bad) = _; rw [hm])
     induction hu using VRs.elim with
     | nil => exact .bad
     | cons k1 k2 =>
      induction k2 using VRs.elim with
      | cons y_ y_ => exact .bad
      | nil =>
       induction k1 using VR.elim with
       | int j t =>
        by_cases hs : aJ (.int j) kvs = true
        ·cases hl : bM (.int j) kvs with
         | none => exact Si.res0 .bad (by show (if aJ (.int j) kvs = true then (match bM (.int j) kvs with | some v => Res.ok v (m.set q (.dict (eX (.int j) kvs) (e + 1))) | Option.none => .bad) else .bad) = _; rw [if_pos hs, hl])
         | some v => exact Si.res0 (cA7 H hi hm hs hl) (by show (if aJ (.int j) kvs = true then (match bM (.int j) kvs with | some v => Res.ok v (m.set q (.dict (eX (.int j) kvs) (e + 1))) | Option.none => .bad) else .bad) = _; rw [if_pos hs, hl])
        ·exact Si.res0 .bad (if_neg hs)
       | _ => exact .bad
    | _ => exact Si.res0 .bad (by show (match m[q]? with | some (.dict kvs e) => aI8 q kvs e .pop vs m | _ => .bad) = _; rw [hm])
  | _ => exact .bad
 ·induction kx using VR.elim with
  | @ref q a d hi =>
   cases hm : m[q]? with
   | none => exact Si.res0 .bad (by show (match m[q]? with | some (.dict kvs e) => aI8 q kvs e .get vs m | _ => .bad) = _; rw [hm])
   | some o =>
    cases o with
    | dict kvs e =>
     refine Si.res0 (R := aI8 q kvs e .get vs m) ?_ (by show (match m[q]? with | some (.dict kvs e) => aI8 q kvs e .get vs m | _ => .bad) = _; rw [hm])
     induction hu using VRs.elim with
     | nil => exact .bad
     | cons k1 k2 =>
      induction k2 using VRs.elim with
      | nil => exact .bad
      | cons k2 k3 =>
       induction k3 using VRs.elim with
       | cons y_ y_ => exact .bad
       | nil =>
        induction k1 using VR.elim with
        | int j t =>
         by_cases hs : aJ (.int j) kvs = true
         ·exact Si.res0 (bA5 ok H hi hm hs k2) (if_pos hs)
         ·exact Si.res0 .bad (if_neg hs)
        | _ => exact .bad
    | _ => exact Si.res0 .bad (by show (match m[q]? with | some (.dict kvs e) => aI8 q kvs e .get vs m | _ => .bad) = _; rw [hm])
  | _ => exact .bad
end
end Mini
namespace Mini
open PySem PySem.W PyProof.Rows
noncomputable def cP7 : Expr -> Bool
 | .Name _ _ => true
 | _ => false
noncomputable def eP : Expr -> Bool
 | .Call f a b _ => !(cP7 f && a.isEmpty && b.isEmpty)
 | _ => true
section
variable {W : Wd} {K : Frag} {h h' h₀ : Heap} {fs : List Env} {env : Env} {vis : List (Option Str)} {s s' s₀ : Shared} {io io' io₀ : Io} {m m' m₀ : MH} {r r' : Lo} {fr fr' own own' : List Addr} {A : Around} {n : Nat} {pos p apos : Pos}
set_option tactic.hygienic true in
theorem bC2 {o : Expr} {name : Str} (h : eP o = true) : attributeBase o name env (eval o env) = eval o env := by
 cases o <;> first | rfl | skip
 rename_i f es kws pos
 cases f <;> first | rfl | skip
 cases es <;> first | rfl | skip
 cases kws <;> first | rfl | (exact aE3 h)
theorem aS9 {es : List Expr} (h : aS es = true) : (backTo pos (starEach es env)).all (fun x => !x.1) = true := by
 induction es with
 | nil => rfl
 | cons e rest ih => rw [eJ h]; exact ih (fR h)
theorem cL8 (k : Nat) (sm : Sm) (h : smH k sm = true) : PlainAttrs (bP1 k) /\ Slot (bP1 k) (Str.ofString (bP2 sm)) (smId k sm) /\ typeOf (.builtin (smId k sm)) = Pure.pure (.type "method_descriptor") := by
 rcases cG3 h with ⟨rfl, rfl⟩ | ⟨rfl, rfl⟩ | ⟨rfl, rfl⟩ | ⟨rfl, rfl⟩ | ⟨rfl, rfl⟩
 ·exact ⟨PySem.F.plainAttrs_list, slot_list_append, type_list_append⟩
 ·exact ⟨PySem.F.plainAttrs_list, PySem.F.slot_list_pop, PySem.F.type_list_pop⟩
 ·exact ⟨PySem.F.plainAttrs_str, PySem.F.slot_str_join, PySem.F.type_str_join⟩
 ·exact ⟨PySem.F.plainAttrs_dict, PySem.F.slot_dict_pop, PySem.F.type_dict_pop⟩
 ·exact ⟨PySem.F.plainAttrs_dict, PySem.F.slot_dict_get, PySem.F.type_dict_get⟩
theorem Si.res {α β : Type} {P : Heap -> Io -> α -> β -> Prop} {t : Sem β} {R R' : Res α} (x : Si W own A fs P t s io m R) (e : R' = R) : Si W own A fs P t s io m R' := e ▸ x
set_option tactic.hygienic true in
theorem cR9 (ok : WOk W) {o : Expr} {es : List Expr} {sm : Sm} {co : Lo -> Mn V} {cl : Lo -> Mn (List V)} (hb : eP o = true) (hs : aS es = true) (hfew : es.length < 29) (hline : (apos.endLine == pos.line) = true) (ho : SiE W A fs env vis (eval o env) co) (hl : SiL W A fs env vis (spliced (backTo pos (starEach es env))) cl) :
  SiE W A fs env vis (eval (.Call (.Attribute o (Str.ofString (bP2 sm)) apos) es [] pos) env) (fun r => bnd (co r) fun x => fun m => match smK x m with | some k => if smH k sm then bnd (cl r) (fun vs => dH k x sm vs) m else .bad | none => .bad) := by
 intro s io m r Z hne
 dsimp only at hne ⊢
 refine wpAny_Call_method_late (bC2 hb) ?_ hline rfl ?_
 ·rw [aS9 hs]; rw [arm_keywordEach_nil]; simp [backToKw]; omega
 refine wpAny_mono (ho s io m r Z (Res.bind_ne hne)) (fun ov s₁ q => ?_) fun y_ y_ q => q
 obtain ⟨x, m₁, io₁, e1, st, H₁, kx, sm₁⟩ := q
 have ee : ∀ f : V -> Mn V, bnd (co r) f m = f x m₁ := fun f => by show (co r m).bind _ = _; rw [e1]; rfl
 rw [ee] at hne ⊢
 cases hk : smK x m₁ with
 | none => rw [hk] at hne; exact absurd rfl hne
 | some k =>
  rw [hk] at hne
  dsimp only at hne ⊢
  by_cases hH : smH k sm = true
  ·rw [if_pos hH] at hne ⊢
   have Z₁ := Z.step H₁ st
   have ty : s₁.TypeIs ov (bP1 k) /\ (∀ a, ov = .ref a -> ∃ ob, s₁.heap.get? a = some ob /\ ob.dict = none) := by
    induction kx using VR.elim with
    | @ref q a d hi =>
     simp only [smK] at hk
     split at hk
     ·rename_i xs hm
      cases hk
      obtain ⟨y_, ws, c, h1, y_⟩ := H₁.obj _ _ _ hi hm
      exact ⟨⟨_, h1, rfl⟩, fun b e => by cases e; exact ⟨_, h1, rfl⟩⟩
     ·rename_i kvs e hm
      cases hk
      obtain ⟨y_, o', es', c, h1, h2, y_⟩ := H₁.obj _ _ _ hi hm
      exact ⟨⟨_, h1, h2.1⟩, fun b e => by cases e; exact ⟨_, h1, h2.2.1⟩⟩
     ·cases hk
    | str x t hx => cases hk; exact ⟨typeIs_str _ _ _, fun y_ e => nomatch e⟩
    | none => cases hk
    | bool b => cases hk
    | int i t => cases hk
    | fn k => cases hk
    | tup => cases hk
    | exc => cases hk
    | scr => cases hk
   have call : wpAny (model W.prog W.w) A (callWith pos (.builtin (smId k sm)) [ov] (backTo pos (starEach es env)) []) (NP W [] (frs fs) s io m (VP W) (bnd (cl r) (fun vs => dH k x sm vs) m₁)) NX s₁ := by
    refine Calls.callWith_builtin (cU hs) (cM hs ?_)
    refine wpAny_mono (hl s₁ io₁ m₁ r Z₁ (Res.bind_ne hne)) (fun us s₂ q => ?_) fun y_ y_ q => q
    obtain ⟨vs, m₂, io₂, e2, st2, H2, kv, sm2⟩ := q
    have ee2 : bnd (cl r) (fun vs => dH k x sm vs) m₁ = dH k x sm vs m₂ := by show (cl r m₁).bind _ = _; rw [e2]; rfl
    rw [ee2] at hne ⊢
    exact wpAny_mono (cW8 ok hH H2 (VR.step st2 kx) kv hne) (fun y_ y_ z => z.mono (st.trans st2) (sm₁.trans sm2)) fun y_ y_ z => z
   obtain ⟨p1, p2, p3⟩ := cL8 k sm hH
   exact ⟨_, _, p1, p2, p3, ty.1, ty.2, call⟩
  ·rw [if_neg hH] at hne; exact absurd rfl hne
theorem cM9 (R : AR A fs n) (H : HR W s.heap io m) {x y v : V} {u iu vu : Value} (kx : VR W s.heap io x u) (ky : VR W s.heap io y iu) (kv : VR W s.heap io v vu) : Si W own A fs (fun y_ y_ (_ _ : Unit) => True) (setItem u iu vu) s io m (dK x y v m) := by
 have bad : ∀ {R : Res Unit}, R = .bad -> Si W own A fs (fun y_ y_ (_ _ : Unit) => True) (setItem u iu vu) s io m R := fun e => e ▸ .bad
 induction kx using VR.elim with
 | @ref q a d hi =>
  cases hm : m[q]? with
  | none => exact bad (by unfold dK; dsimp only; rw [hm])
  | some o =>
   cases o with
   | inst c fls => exact bad (by unfold dK; dsimp only; rw [hm])
   | dict kvs e =>
    have ee : dK (.ref q) y v m = match dM y with | some k => if aJ k kvs && kvs.length < lid then .ok () (m.set q (.dict (put k v kvs) (e + 1))) else .bad | Option.none => .bad := by unfold dK; dsimp only; rw [hm] <;> rfl
    refine Si.res ?_ ee
    cases hk : dM y with
    | none => exact .bad
    | some k =>
     dsimp only
     by_cases hc : (aJ k kvs && decide (kvs.length < lid)) = true
     ·refine Si.res ?_ (if_pos hc)
      rcases Bool.and_eq_true_iff.mp hc with ⟨h1, h2⟩
      exact cA4 H R hi hm ky kv hk h1 (of_decide_eq_true h2)
     ·exact Si.res .bad (if_neg hc)
   | list xs => exact bad (by unfold dK; dsimp only; rw [hm])
 | _ => exact bad rfl
theorem a_idx {o i : Expr} {co ci : Lo -> Mn V} (R : AR A (env :: fs) n) (ho : SiE W A (env :: fs) env vis (eval o env) co) (hi : SiE W A (env :: fs) env vis (eval i env) ci) : SiA W A fs env vis (.Subscript o i pos) (fun v r => bnd (co r) fun x => bnd (ci r) fun y => bnd (dK x y v) fun y_ => ret r) := by
 intro s io m r v u Z k
 rw [arm_assign_Subscript]
 refine Si.bindE (Si.holding (ho s io m r Z.sit)) fun ov s₁ io₁ m₁ x y_ st₁ H₁ kx sm₁ => ?_
 have Z₁ := Z.step H₁ st₁
 refine Si.bindE (Si.holding (hi s₁ io₁ m₁ r Z₁.sit)) fun iv s₂ io₂ m₂ y y_ st₂ H₂ ky sm₂ => .standAt ?_
 have Z₂ := Z₁.step H₂ st₂
 refine Si.bindE (Si.holding (cM9 R H₂ (VR.step st₂ kx) ky ((VR.step st₁ k).step st₂))) fun y_ s₃ io₃ m₃ y_ y_ st₃ H₃ y_ sm₃ => ?_
 exact fun y_ => wpAny_release ⟨r, m₃, io₃, rfl, .refl, H₃, Z₂.F.step0 Z₂.H st₃, .refl _⟩
theorem cS1 : SiE W A fs env vis (eval (.Dict [] [] pos) env) (fun y_ => alloc (.dict [] 0)) := by
 intro s io m r Z
 exact fun y_ => wpAny_Dict_empty (cN8 (tk := s.toks) Z.H)
theorem bB9 {x y : Str} {p' pos' : Pos} {es : List Expr} {cl : Lo -> Mn (List V)} (hh : A.handled = none) (gl : Gl W K) (e : nsIn K mainGlobals x = some none) (hv : bootBuiltins x = some (.type "range")) (hn : (x == ("__name__" : Str)) = false) (hx : env.kindOf x = some .globalImplicit) (hd : (x == ("__debug__" : Str)) = false)
  (e' : nsIn K mainGlobals y = some none) (hv' : bootBuiltins y = some (.type "list")) (hn' : (y == ("__name__" : Str)) = false) (hx' : env.kindOf y = some .globalImplicit) (hd' : (y == ("__debug__" : Str)) = false) (hs : aS es = true)
  (hl : SiL W A fs env vis (spliced (backTo pos (starEach es env))) cl) :
  SiE W A fs env vis (eval (.Call (.Name y p') [.Call (.Name x p) es [] pos] [] pos') env) (fun r => bnd (cl r) fun vs => match dR vs with | some l => if l.length <= lid then alloc (.list l) else bad | none => bad) := by
 intro s io m r Z hne
 dsimp only at hne ⊢
 refine wpAny_Call_NameR (fI gl Z e' hv' hn' hx' hd' (PySem.callWith_type rfl (cM (s := s) (es := [.Call (.Name x p) es [] pos]) rfl ?_)))
 refine PyProof.Rows.spliced_more ?_
 refine wpAny_Call_NameR (fI gl Z e hv hn hx hd (PySem.callWith_type (cU hs) (cM hs ?_)))
 refine wpAny_mono (hl s io m r Z (Res.bind_ne hne)) (fun us s₁ q => ?_) fun y_ y_ q => q
 obtain ⟨vs, m₁, io₁, e1, st, H, k, sm⟩ := q
 have ee : ∀ f : List V -> Mn V, bnd (cl r) f m = f vs m₁ := fun f => by show (cl r m).bind _ = _; rw [e1]; rfl
 rw [ee] at hne ⊢
 show wpAny (model W.prog W.w) A (call (.type "range") us) _ _ s₁
 cases hr : dR vs with
 | none => rw [hr] at hne; exact absurd rfl hne
 | some l =>
  rw [hr] at hne
  dsimp only at hne ⊢
  by_cases hll : l.length <= lid
  ·rw [if_pos hll] at hne ⊢
   refine fL H k hr fun a b c o tk t u v ha hb hc h0 hsz hle hR => ?_
   refine PyProof.Rows.spliced_none ?_
   show wpAny (model W.prog W.w) A (call (.type "list") [.ref s₁.heap.objs.size]) _ _ _
   have st1 : Step [] (frs fs) s₁.heap io₁ m₁ (s₁.heap.push o) io₁ m₁ := .of_keeps H (aL _)
   have H1 : HR W (s₁.heap.push o) io₁ m₁ := H.of_keeps (aL _)
   refine call_list_range hh hR (aH2 ha hb hc h0) hsz.symm (Nat.le_trans hll (by decide)) fun h' tk' acc c' hk hD hacc => ?_
   have va : VRs W (s₁.heap.push o) io₁ l acc.toList := by
    have key : ∀ (l : List V) (us : List Value), us.length = l.length -> (∀ (i : Nat) (v : V) (w : Value), l[i]? = some v -> us[i]? = some w -> VR W (s₁.heap.push o) io₁ v w) -> VRs W (s₁.heap.push o) io₁ l us := by
     intro l
     induction l with
     | nil => intro us hl _; cases us with
      | nil => exact .nil
      | cons => cases hl
     | cons z zs ih =>
      intro us hl hv
      cases us with
      | nil => cases hl
      | cons w ws => exact .cons (hv 0 z w rfl rfl) (ih ws (by simpa using hl) fun i v w' h1 h2 => hv (i + 1) v w' (by simpa using h1) (by simpa using h2))
    refine key l acc.toList ?_ fun i v w h1 h2 => ?_
    ·have : acc.size = l.length := hacc.1
     simpa using this
    ·rcases hacc.2 i w (by rw [<- Array.getElem?_toList]; exact h2) with ⟨t', q⟩
     rw [hle i v h1, q]
     exact .int _ _
   have dead : s₁.heap.get? (s₁.heap.push o).objs.size = none := by
    cases q : s₁.heap.get? (s₁.heap.push o).objs.size with
    | none => rfl
    | some o' => have := aL o _ _ q; rw [aR] at this; cases this
   exact (bE4 (s := { s₁ with heap := s₁.heap.push o, toks := tk }) (tk := tk') H1 hk hD va hll (aR _)).mono (st.trans st1) (sm.trans ⟨rfl, rfl⟩)
  ·rw [if_neg hll] at hne; exact absurd rfl hne
end
end Mini
namespace Mini
open PySem PySem.W PyProof.Rows
section
variable {W : Wd} {K : Frag} {fs : List Env} {env : Env} {vis : List (Option Str)} {s : Shared} {io : Io} {m : MH} {r : Lo} {A : Around} {pos p : Pos}
theorem bJ6 : ∀ ns : List Int, (List.range ns.length).map (fun i => ns.getD i 0) = ns := fun ns => by
 apply List.ext_getElem
 ·simp
 ·intro i h1 h2
  simp at h1
  simp [h1]
theorem bA6 (ns : List Int) : (firstMet (fun i => ns.getD i 0) ns.length) = aJ0 ns := by
 unfold firstMet aJ0
 rw [bJ6]
 rfl
theorem cO9 {vs : List V} (h : biV .lenset vs m ≠ .bad) : ∃ n xs is, vs = [.ref n] /\ m[n]? = some (.list xs) /\ eU xs = some is /\ is.length < 4000 /\ biV .lenset vs m = .ok (.int (aJ0 is).length) m := by
 cases vs with
 | nil => exact absurd rfl h
 | cons v vs =>
  cases vs with
  | cons y_ y_ => exact absurd (by cases v <;> rfl) h
  | nil =>
   cases v with
   | ref n =>
    have e : biV .lenset [.ref n] m = (match m[n]? with | some (.list xs) => (match eU xs with | some is => (if is.length < 4000 then (.ok (.int (aJ0 is).length) m : Res V) else .bad) | none => .bad) | _ => .bad) := rfl
    rw [e] at h ⊢
    cases hm : m[n]? with
    | none => rw [hm] at h; exact absurd rfl h
    | some o =>
     rw [hm] at h
     cases o with
     | dict y_ y_ => exact absurd rfl h
     | inst y_ y_ => exact absurd rfl h
     | list xs =>
      dsimp only at h ⊢
      cases hk : eU xs with
      | none => rw [hk] at h; exact absurd rfl h
      | some is =>
       rw [hk] at h
       dsimp only at h ⊢
       by_cases hb : is.length < 4000
       ·exact ⟨n, xs, is, rfl, hm, hk, hb, if_pos hb⟩
       ·rw [if_neg hb] at h; exact absurd rfl h
   | _ => exact absurd rfl h
theorem cE9 {x y : Str} {p' pos' : Pos} {es : List Expr} {cl : Lo -> Mn (List V)} (hh : A.handled = none) (gl : Gl W K) (e : nsIn K mainGlobals x = some none) (hv : bootBuiltins x = some (.type "set")) (hn : (x == ("__name__" : Str)) = false) (hx : env.kindOf x = some .globalImplicit) (hd : (x == ("__debug__" : Str)) = false)
  (e' : nsIn K mainGlobals y = some none) (hv' : bootBuiltins y = some (.builtin "len")) (hn' : (y == ("__name__" : Str)) = false) (hx' : env.kindOf y = some .globalImplicit) (hd' : (y == ("__debug__" : Str)) = false) (hs : aS es = true)
  (hl : SiL W A fs env vis (spliced (backTo pos (starEach es env))) cl) :
  SiE W A fs env vis (eval (.Call (.Name y p') [.Call (.Name x p) es [] pos] [] pos') env) (fun r => bnd (cl r) fun vs => biV .lenset vs) := by
 intro s io m r Z hne
 dsimp only at hne ⊢
 refine wpAny_Call_NameR (fI gl Z e' hv' hn' hx' hd' (Calls.callWith_builtin rfl (cM (s := s) (es := [.Call (.Name x p) es [] pos]) rfl ?_)))
 refine PyProof.Rows.spliced_more ?_
 refine wpAny_Call_NameR (fI gl Z e hv hn hx hd (PySem.callWith_type (cU hs) (cM hs ?_)))
 refine wpAny_mono (hl s io m r Z (Res.bind_ne hne)) (fun us s₁ q => ?_) fun y_ y_ q => q
 obtain ⟨vs, m₁, io₁, e1, st, H, k, sm⟩ := q
 have ee : ∀ f : List V -> Mn V, bnd (cl r) f m = f vs m₁ := fun f => by show (cl r m).bind _ = _; rw [e1]; rfl
 rw [ee] at hne ⊢
 show wpAny (model W.prog W.w) A (call (.type "set") us) _ _ s₁
 refine hide fun G_ g_ => ?_
 rcases cO9 hne with ⟨n, xs, is, rfl, hm, hk, hb, eq⟩
 refine g_ ?_
 clear g_ G_ hne
 rw [eq]
 refine VRs.dCons k fun y_ y_ k1 k2 => ?_
 ·
  cases k2
  refine VR.dRef k1 fun a d hi => ?_
  ·
   obtain ⟨y_, ws, c, h1, h2, h3⟩ := H.obj _ _ _ hi hm
   rcases cP9 (s := s₁) hk h2 with ⟨ia, il⟩
   have sz : ws.size = is.length := by rw [h2.size, il]
   refine call_set_list hh ⟨_, h1, rfl, c, rfl⟩ ia (by rw [sz]; unfold scanBound; omega) fun h' tk hS hkp => ?_
   refine PyProof.Rows.spliced_none ?_
   rw [sz, bA6] at hS
   obtain ⟨so, se, sep, stt, q1, q2, q3, y_, y_, q6, q7, q8⟩ := hS
   have kp : ∀ b o, s₁.heap.get? b = some o -> h'.get? b = some o := fun b o e => hkp b o (Heap.lt_size e) e
   show wpAny (model W.prog W.w) A (call (.builtin "len") [.ref s₁.heap.objs.size]) _ _ _
   refine call_len_set q1 q2 q3 q7 (by have : scanBound = 4096 := rfl; omega) ?_
   rw [q8]
   have := bC (own := []) (fr := frs fs) (s := { s₁ with heap := h', toks := tk }) (tk := tk + 1 + 1) (H.of_keeps kp) (.int (aJ0 is).length (tk + 1))
   exact (this.mono (.of_keeps H kp) ⟨rfl, rfl⟩).mono st sm
end
end Mini
namespace Mini
open PySem PySem.W PyProof.Rows
section
variable {W : Wd} {K : Frag} {h h' h₀ : Heap} {fs : List Env} {env : Env} {vis : List (Option Str)} {s s' s₀ : Shared} {io io' io₀ : Io} {m m' m₀ : MH} {r r' : Lo} {fr fr' own own' : List Addr} {A : Around} {n : Nat} {pos p apos : Pos}
theorem bT4 {v : V} {u : Value} (k : VR W h io v u) : handedOut u = Pure.pure u := by induction k using VR.elim <;> rfl
theorem bA4 {a d : Addr} {c : Nat} {mA : Str -> Option Value} (hne : a ≠ d) (h1 : h.get? a = some (cQ1 (W.ca c) d)) (h2 : h.Ns1 d mA) : h.Inst a (W.ca c) mA :=
 ⟨_, h1, rfl, (fun y_ q => by cases q), .inr ⟨d, rfl, fun q => hne q.symm, h2⟩⟩
theorem cF6 {v : V} {u : Value} {k : Nat} {x : Str} (hx : W.S.attrs[k]? = some x) (hf : ∀ (c : Nat) (D : ClsD), W.S.cls[c]? = some D -> D.meths.lookup k = none) (H : HR W s.heap io m) (kv : VR W s.heap io v u) : Si W own A fs (VP W) (getAttr u x true) s io m (aC0 v k m) := by
 intro hne
 have bad : aC0 v k m = .bad -> False := hne
 induction kv using VR.elim with
 | @ref q a d hi =>
  cases hm : m[q]? with
  | none => exact (bad (by unfold aC0; dsimp only; rw [hm])).elim
  | some o =>
   cases o with
   | list xs => exact (bad (by unfold aC0; dsimp only; rw [hm])).elim
   | dict kvs e => exact (bad (by unfold aC0; dsimp only; rw [hm])).elim
   | inst c fls =>
    have ea : aC0 (.ref q) k m = ofO (aK1 k fls) m := by unfold aC0; dsimp only; rw [hm]
    rw [ea] at hne ⊢
    cases hg : aK1 k fls with
    | none => rw [hg] at hne; exact absurd rfl hne
    | some w =>
     obtain ⟨e1, mA, h1, h2, h3, D, N, mN, C⟩ := H.obj _ _ _ hi hm
     rcases h3.2 k w hg with ⟨x', u', ex', hu, kw⟩
     rw [hx] at ex'
     cases ex'
     rcases C.obj with ⟨nm, qn, bs, sn, sub, col, dd, k0, k1, k2, k3, k5, hC⟩
     have hna : mN x = none := by rw [C.has k x hx, hf c D C.dat]; rfl
     exact load_attr (H.keep _ _ hC) (C.ns.keeps H.keep) C.ga hna (C.low k x hx) (bA4 e1 h1 h2) hu (bT4 kw) ⟨w, m, io, rfl, .refl, H, kw, .refl _⟩
 | none => exact (bad rfl).elim
 | bool b => exact (bad rfl).elim
 | int i t => exact (bad rfl).elim
 | str y t hy => exact (bad rfl).elim
 | fn k => exact (bad rfl).elim
 | tup => exact (bad rfl).elim
 | exc => exact (bad rfl).elim
 | scr => exact (bad rfl).elim
theorem dB5 {o : Expr} {x : Str} {k : Nat} {ca : Lo -> Mn V} (hb : eP o = true) (hx : W.S.attrs[k]? = some x) (hf : ∀ (c : Nat) (D : ClsD), W.S.cls[c]? = some D -> D.meths.lookup k = none) (ho : SiE W A fs env vis (eval o env) ca) :
  SiE W A fs env vis (eval (.Attribute o x apos) env) (fun r => bnd (ca r) fun v => aC0 v k) := by
 intro s io m r Z
 refine Si.res (R := (ca r m).bind fun v => aC0 v k) ?_ rfl
 intro hne
 refine Attribute_any_ ?_ (by rw [arm_eval_Attribute, bC2 hb])
 refine wpAny_mono (ho s io m r Z (Res.bind_ne hne)) (fun u s₁ q => ?_) fun y_ y_ q => q
 rcases q with ⟨v, m₁, io₁, e1, st, H₁, kv, sm⟩
 have ee : (ca r m).bind (fun v => aC0 v k) = aC0 v k m₁ := by rw [e1]; rfl
 rw [ee] at hne ⊢
 exact wpAny_mono (cF6 (own := []) (fs := fs) hx hf H₁ kv hne) (fun y_ y_ z => z.mono st sm) fun y_ y_ z => z
theorem aF3 {k j : Nat} {v : V} : ∀ {fls : List (Nat × V)}, aK1 j (eG k v fls) = if j = k then some v else aK1 j fls
 | [] => by
  show (if k = j then some v else none) = _
  by_cases q : j = k
  ·rw [if_pos q, if_pos q.symm]
  ·rw [if_neg q, if_neg (fun z => q z.symm)]; rfl
 | (i, w) :: fls => by
  show aK1 j (if i = k then (i, v) :: fls else (i, w) :: eG k v fls) = _
  by_cases z : i = k
  ·rw [if_pos z]
   subst z
   show (if i = j then some v else aK1 j fls) = if j = i then some v else if i = j then some w else aK1 j fls
   by_cases q : j = i
   ·rw [if_pos q, if_pos q.symm]
   ·rw [if_neg q, if_neg (fun z => q z.symm), if_neg (fun z => q z.symm)]
  ·rw [if_neg z]
   show (if i = j then some w else aK1 j (eG k v fls)) = if j = k then some v else if i = j then some w else aK1 j fls
   rw [aF3]
   by_cases q : i = j
   ·rw [if_pos q, if_neg (fun e => z (q.trans e)), if_pos q]
   ·rw [if_neg q, if_neg q]
theorem FEs.put {fls : List (Nat × V)} {mA : Str -> Option Value} {k : Nat} {x : Str} {v : V} {u : Value} (e : FEs W h io fls mA) (hx : W.S.attrs[k]? = some x) (hu : ∀ (i j : Nat) (x : Str), W.S.attrs[i]? = some x -> W.S.attrs[j]? = some x -> i = j) (kv : VR W h io v u) :
  FEs W h io (eG k v fls) (fun y => if y = x then some u else mA y) := by
 constructor
 ·intro y w q
  by_cases z : y = x
  ·subst z
   have q' : some u = some w := by rw [<- q]; exact (if_pos rfl).symm
   cases q'
   exact ⟨k, v, hx, by rw [aF3, if_pos rfl], kv⟩
  ·have q' : mA y = some w := by rw [<- q]; exact (if_neg z).symm
   rcases e.1 y w q' with ⟨i, w', a, b, c⟩
   refine ⟨i, w', a, ?_, c⟩
   rw [aF3, if_neg (fun ik => ?_)]
   ·exact b
   ·subst ik; rw [hx] at a; cases a; exact z rfl
 ·intro i w q
  rw [aF3] at q
  by_cases z : i = k
  ·rw [if_pos z] at q
   cases q
   subst z
   exact ⟨x, u, hx, if_pos rfl, kv⟩
  ·rw [if_neg z] at q
   rcases e.2 i w q with ⟨y, w', a, b, c⟩
   refine ⟨y, w', a, ?_, c⟩
   show (if y = x then some u else mA y) = some w'
   rw [if_neg (fun yx => ?_)]
   ·exact b
   ·subst yx; exact z (hu i k y a hx)
theorem bL4 {fls : List (Nat × V)} {mA : Str -> Option Value} (e : FEs W h io fls mA) : Within mA W.S.attrs := by
 intro y hy
 cases q : mA y with
 | none => exact absurd q hy
 | some u =>
  rcases e.1 y u q with ⟨i, v, a, y_⟩
  exact List.mem_of_getElem? a
theorem aZ1 {v y : V} {u w : Value} {k : Nat} {x : Str} (hx : W.S.attrs[k]? = some x) (hf : ∀ (c : Nat) (D : ClsD), W.S.cls[c]? = some D -> D.meths.lookup k = none) (H : HR W s.heap io m) (kv : VR W s.heap io v u) (ky : VR W s.heap io y w) : Si W own A fs (fun y_ y_ (_ _ : Unit) => True) (setAttr u x w) s io m (dN v k y m) := by
 intro hne
 have bad : dN v k y m = .bad -> False := hne
 induction kv using VR.elim with
 | @ref q a d hi =>
  cases hm : m[q]? with
  | none => exact (bad (by unfold dN; dsimp only; rw [hm])).elim
  | some o =>
   cases o with
   | list xs => exact (bad (by unfold dN; dsimp only; rw [hm])).elim
   | dict kvs e => exact (bad (by unfold dN; dsimp only; rw [hm])).elim
   | inst c fls =>
    have ea : dN (.ref q) k y m = .ok () (m.set q (.inst c (eG k y fls))) := by unfold dN; dsimp only; rw [hm]
    rw [ea]
    obtain ⟨e1, mA, h1, h2, h3, D, N, mN, C⟩ := H.obj _ _ _ hi hm
    rcases C.obj with ⟨nm, qn, bs, sn, sub, col, dd, k0, k1, k2, k3, k5, hC⟩
    have hna : mN x = none := by rw [C.has k x hx, hf c D C.dat]; rfl
    have hac : a ≠ W.ca c := fun q => by
     have := H.fresh a ⟨_, List.mem_of_getElem? hi, .inl rfl⟩
     rw [q, hC] at this; cases this
    refine store_attr F.store_object (H.keep _ _ hC) (C.ns.keeps H.keep) C.sa hna (C.low k x hx) hac (bA4 e1 h1 h2) (fun h' tk' I' hk hsame => ?_) (bL4 h3) (Nat.le_trans C.few (by decide))
    rcases hsame _ h1 with ⟨o₁, g1, c1, c2, c3, c4⟩
    have eo : o₁ = cQ1 (W.ca c) d := by
     rcases o₁ with ⟨oc, od, odt, osl⟩
     have c4' := c4 d rfl
     dsimp only at c1 c2 c3 c4'
     rw [c1, c2, c3, c4']
    rw [eo] at g1
    rcases I' with ⟨o₂, g2, y_, y_, hd⟩
    rw [g1] at g2
    cases g2
    rcases hd with ⟨q, _⟩ | ⟨d', ed, _, hns⟩
    ·cases q
    cases ed
    have hk' : ∀ b o, b ≠ a -> b ≠ d -> s.heap.get? b = some o -> h'.get? b = some o := fun b o n1 n2 e => hk b o n1 (fun o₀ dx e0 e2 => by rw [h1] at e0; cases e0; cases e2; exact n2) e
    have hd' : ∃ o', h'.get? d = some o' := let ⟨o', _, _, e, _⟩ := hns; ⟨o', e⟩
    have st : Step own (frs fs) s.heap io m h' io (m.set q (.inst c (eG k y fls))) := aE8 H hi hm hk' ⟨_, g1⟩ hd' (fun y_ y_ q => by cases q)
    exact ⟨(), _, io, rfl, st, H.set hi hm hk' (fun y_ y_ q => by cases q) ⟨_, g1⟩ hd' ⟨e1, _, g1, hns, (h3.step st).put hx C.uniq (ky.step st), D, N, mN, C⟩, trivial, rfl, rfl⟩
 | none => exact (bad rfl).elim
 | bool b => exact (bad rfl).elim
 | int i t => exact (bad rfl).elim
 | str y t hy => exact (bad rfl).elim
 | fn k => exact (bad rfl).elim
 | tup => exact (bad rfl).elim
 | exc => exact (bad rfl).elim
 | scr => exact (bad rfl).elim
theorem dD1 {o : Expr} {x : Str} {k : Nat} {co : Lo -> Mn V} (hx : W.S.attrs[k]? = some x) (hf : ∀ (c : Nat) (D : ClsD), W.S.cls[c]? = some D -> D.meths.lookup k = none) (ho : SiE W A (env :: fs) env vis (eval o env) co) : SiA W A fs env vis (.Attribute o x pos) (fun v r => bnd (co r) fun y => bnd (dN y k v) fun y_ => ret r) := by
 intro s io m r v u Z kv
 rw [arm_assign_Attribute]
 refine Si.bindE (Si.holding (ho s io m r Z.sit)) fun ov s₁ io₁ m₁ y y_ st₁ H₁ ky sm₁ => .standAt ?_
 have Z₁ := Z.step H₁ st₁
 refine Si.bindE (Si.holding (aZ1 hx hf H₁ ky (VR.step st₁ kv))) fun y_ s₃ io₃ m₃ y_ y_ st₃ H₃ y_ sm₃ => ?_
 exact fun y_ => wpAny_release ⟨r, m₃, io₃, rfl, .refl, H₃, Z₁.F.step0 Z₁.H st₃, .refl _⟩
theorem dB1 {o : Expr} {x : Str} {k : Nat} {es : List Expr} {co : Lo -> Mn V} {cl : Lo -> Mn (List V)} {F : Nat -> List V -> Mn V} (gl : Gl W K) (hb : eP o = true) (hs : aS es = true) (hfew : es.length < 29) (hline : (apos.endLine == pos.line) = true) (hx : W.S.attrs[k]? = some x)
  (hobj : ∀ j, j < W.S.fns.length -> ∃ ob fd, K.lookup (W.fa j) = some ob /\ ob.data = .func fd /\ ob.cls = .type "function") (hF : ∀ j, j < W.S.fns.length -> SiF W A fs (.ref (W.fa j)) (F j))
  (ho : SiE W A fs env vis (eval o env) co) (hl : SiL W A fs env vis (spliced (backTo pos (starEach es env))) cl) :
  SiE W A fs env vis (eval (.Call (.Attribute o x apos) es [] pos) env) (fun r => bnd (co r) fun v => bnd (fE W.S k v) fun j => bnd (cl r) fun vs => F j (v :: vs)) := by
 intro s io m r Z hne
 dsimp only at hne ⊢
 rw [arm_eval_Call, bC2 hb]
 refine wpAny_bind (wpAny_mono (ho s io m r Z (Res.bind_ne hne)) (fun u s₁ q => ?_) fun y_ y_ q => q)
 rcases q with ⟨v, m₁, io₁, e1, st, H₁, kv, sm⟩
 have ee : ∀ f : V -> Mn V, bnd (co r) f m = f v m₁ := fun f => by show (co r m).bind _ = _; rw [e1]; rfl
 rw [ee] at hne ⊢
 refine wpAny_bind (wpAny_standAt ?_)
 have hform : methodCallForm (es.length + ([] : List Keyword).length) (backTo pos (starEach es env)) (backToKw pos (keywordEach [] env)) = true := by
  unfold methodCallForm
  rw [aS9 hs]; rw [arm_keywordEach_nil]; simp [backToKw]; omega
 have hpos : methodCallPos true o env apos pos = Pure.pure pos := by unfold methodCallPos; rw [hline]; rfl
 unfold methodCall
 rw [hform]
 have bad : fE W.S k v m₁ = .bad -> False := fun q => hne (by show (fE W.S k v m₁).bind _ = _; rw [q]; rfl)
 induction kv using VR.elim with
 | @ref q0 a d hi =>
  cases hm : m₁[q0]? with
  | none => exact (bad (by unfold fE; dsimp only; rw [hm])).elim
  | some ob =>
   cases ob with
   | list xs => exact (bad (by unfold fE; dsimp only; rw [hm])).elim
   | dict kvs e => exact (bad (by unfold fE; dsimp only; rw [hm])).elim
   | inst c fls =>
    obtain ⟨g1, mA, h1, h2, h3, D, N, mN, C⟩ := H₁.obj _ _ _ hi hm
    cases hg : aK1 k fls with
    | some w => exact (bad (by unfold fE; dsimp only; rw [hm]; dsimp only; rw [C.dat]; dsimp only; rw [hg])).elim
    | none =>
     cases hq : D.meths.lookup k with
     | none => exact (bad (by unfold fE; dsimp only; rw [hm]; dsimp only; rw [C.dat]; dsimp only; rw [hg]; dsimp only; rw [hq]; rfl)).elim
     | some j =>
      have em : fE W.S k (.ref q0) m₁ = .ok j m₁ := by unfold fE; dsimp only; rw [hm]; dsimp only; rw [C.dat]; dsimp only; rw [hg]; dsimp only; rw [hq]; rfl
      have e2 : bnd (fE W.S k (.ref q0)) (fun j => bnd (cl r) fun vs => F j (.ref q0 :: vs)) m₁ = bnd (cl r) (fun vs => F j (.ref q0 :: vs)) m₁ := by show (fE W.S k (.ref q0) m₁).bind _ = _; rw [em]; rfl
      rw [e2] at hne ⊢
      rcases C.obj with ⟨nm, qn, bs, sn, sub, col, dd, k0, k1, k2, k3, k5, hC⟩
      rcases hobj j (C.mlt k j hq) with ⟨fo, fd, f1, f2, f3⟩
      have hmn : mN x = some (.ref (W.fa j)) := by rw [C.has k x hx, hq]; rfl
      have hma : mA x = none := by
       cases z : mA x with
       | none => rfl
       | some w =>
        rcases h3.1 x w z with ⟨i', v', a1, a2, y_⟩
        rw [C.uniq i' k x a1 hx, hg] at a2; cases a2
      have Z₁ := Z.step H₁ st
      refine wpAny_bind (wpAny_holding ?_)
      unfold calleeOf
      rw [if_pos rfl]
      refine method_of (H₁.keep _ _ hC) (C.ns.keeps H₁.keep) C.ga C.gh hmn (H₁.get gl f1) f3 (C.low k x hx) (bA4 g1 h1 h2) hma ?_
      refine wpAny_bind (wpAny_of_eq hpos ?_)
      refine Calls.callWith_function (o := fo) (fd := fd) (cM hs ?_)
      refine wpAny_mono (hl s₁ io₁ m₁ r Z₁ (Res.bind_ne hne)) (fun us s₂ q => ?_) fun y_ y_ q => q
      obtain ⟨vs, m₂, io₂, e3, st2, H2, kvs, sm2⟩ := q
      have ee2 : bnd (cl r) (fun vs => F j (.ref q0 :: vs)) m₁ = F j (.ref q0 :: vs) m₂ := by show (cl r m₁).bind _ = _; rw [e3]; rfl
      rw [ee2] at hne ⊢
      refine ⟨⟨H2.get gl f1, f2⟩, ?_⟩
      exact wpAny_mono (hF j (C.mlt k j hq) _ _ _ _ _ H2 (Z₁.G.step0 st2) (.cons (.ref (st2.io_get hi)) kvs) hne) (fun y_ y_ z => z.mono (st.trans st2) (sm.trans sm2)) fun y_ y_ z => z
 | none => exact (bad rfl).elim
 | bool b => exact (bad rfl).elim
 | int i t => exact (bad rfl).elim
 | str y t hy => exact (bad rfl).elim
 | fn k => exact (bad rfl).elim
 | tup => exact (bad rfl).elim
 | exc => exact (bad rfl).elim
 | scr => exact (bad rfl).elim
theorem bN2 {C : Addr} {rest : List Value} : A.under (.builtin "type.__call__" ⟨.ref C :: rest, []⟩) = born A := by
 have h1 : (Code.builtin "type.__call__" ⟨.ref C :: rest, []⟩).weight = 1 := by kernel_rfl
 have h2 : (Code.builtin "type.__call__" ⟨.ref C :: rest, []⟩).cUnits = 1 := by kernel_rfl
 have h3 : (Code.builtin "type.__call__" ⟨.ref C :: rest, []⟩).envs = [] := by kernel_rfl
 have h4 : (Code.builtin "type.__call__" ⟨.ref C :: rest, []⟩).guards = [] := by kernel_rfl
 unfold Around.under born
 rw [h1, h2, h3, h4]; rfl
theorem e_new {x : Str} {c k0 : Nat} {D : ClsD} {N : Addr} {mN : Str -> Option Value} {es : List Expr} {cl : Lo -> Mn (List V)} {F : Nat -> List V -> Mn V} (gl : Gl W K) (e : nsIn K mainGlobals x = some (some (.ref (W.ca c)))) (hx : env.kindOf x = some .globalImplicit) (hd : (x == ("__debug__" : Str)) = false) (hs : aS es = true)
  (C : ClsOk W c D N mN) (hD : D.init = some k0) (hkeep : keepIn K (.ref (W.ca c)) = true) (hmk : makesIn K (W.ca c) = true) (hin : findIn K (.ref (W.ca c)) "__init__" = some (some (.ref (W.fa k0)))) (hty : typeIn K (.ref (W.fa k0)) = some (.type "function")) (hF : SiK W (born A) fs (.ref (W.fa k0)) (F k0))
  (hl : SiL W A fs env vis (spliced (backTo pos (starEach es env))) cl) :
  SiE W A fs env vis (eval (.Call (.Name x p) es [] pos) env) (fun r => bnd (cl r) fun vs => cO3 W.S F c vs) := by
 intro s io m r Z hne
 dsimp only at hne ⊢
 refine wpAny_Call_NameR (bR4 gl Z e hx hd (callWith_of (P := fun h => K.In h) (by rw [cU hs]; rfl) (fun h X => keeps_K hkeep h X) (cM hs ?_)))
 refine wpAny_mono (hl s io m r Z (Res.bind_ne hne)) (fun us s₁ q => ?_) fun y_ y_ q => q
 rcases q with ⟨vs, m₁, io₁, e1, st, H₁, kvs, sm⟩
 have X : K.In s₁.heap := fun a o h => H₁.get gl h
 have ee : bnd (cl r) (fun vs => cO3 W.S F c vs) m = (F k0 (.ref m₁.length :: vs) (m₁ ++ [.inst c []])).bind (cY2 (.ref m₁.length)) := by
  show (cl r m).bind _ = _
  rw [e1]
  show cO3 W.S F c vs m₁ = _
  unfold cO3
  rw [C.dat]; dsimp only; rw [C.exc, hD]; rfl
 rw [ee] at hne ⊢
 refine ⟨X, ?_⟩
 rcases s₁ with ⟨hh, gg, dr, tk, os⟩
 dsimp only at st H₁ kvs X
 refine wpAny_call (make_core (makes_of X hmk) (looks_findIn X hin) (fun self => bind_fn X self hty) (.inl rfl) ?_)
 rw [bN2]
 have keeps : ∀ b o, hh.get? b = some o -> ((hh.push emptyDict).push (instObj (W.ca c) hh.objs.size)).get? b = some o := fun b o h => Heap.get?_push_of_some _ (Heap.get?_push_of_some _ h)
 have nx : hh.get? (hh.objs.size + 1) = none := Heap.get?_none_of_le (Nat.le_succ _)
 have nd : hh.get? hh.objs.size = none := aR hh
 have gx : ((hh.push emptyDict).push (instObj (W.ca c) hh.objs.size)).get? (hh.objs.size + 1) = some (instObj (W.ca c) hh.objs.size) := by heap_get
 have gd : ((hh.push emptyDict).push (instObj (W.ca c) hh.objs.size)).get? hh.objs.size = some emptyDict := Heap.get?_push_of_some _ (Heap.get?_push_at rfl rfl)
 have st2 : Step [] (frs fs) hh io₁ m₁ ((hh.push emptyDict).push (instObj (W.ca c) hh.objs.size)) (io₁ ++ [(hh.objs.size + 1, hh.objs.size)]) (m₁ ++ [.inst c []]) := e7 H₁ keeps nx nd
 have H2 : HR W ((hh.push emptyDict).push (instObj (W.ca c) hh.objs.size)) (io₁ ++ [(hh.objs.size + 1, hh.objs.size)]) (m₁ ++ [.inst c []]) :=
  H₁.alloc keeps nx nd ⟨fun q => absurd q (Nat.succ_ne_self _), fun y_ => none, gx, Heap.Ns1.of_empty ⟨_, #[], _, gd, rfl, fun e he => absurd he (by simp), fun y_ => rfl⟩, ⟨(fun y_ y_ q => by cases q), (fun y_ y_ q => by cases q)⟩, D, N, mN, C⟩
 have last : (io₁ ++ [(hh.objs.size + 1, hh.objs.size)])[m₁.length]? = some (hh.objs.size + 1, hh.objs.size) := by rw [<- H₁.len]; simp
 refine codeAny_mono (hF ⟨_, gg, dr, tk, os⟩ _ _ (.ref m₁.length :: vs) (.ref (hh.objs.size + 1) :: us) H2 ((Z.G.step0 st).step0 st2) (.cons (.ref last) (kvs.step st2)) (Res.bind_ne hne)) (fun rr s' z => ?_)
 have st3 := st.trans st2
 cases rr with
 | error e => exact z
 | ok f =>
  cases f with
  | ret v =>
   rcases z with ⟨u, m3, io3, e3, st4, H3, ku, sm3⟩
   have e4 : (F k0 (.ref m₁.length :: vs) (m₁ ++ [.inst c []])).bind (cY2 (.ref m₁.length)) = cY2 (.ref m₁.length) u m3 := by rw [e3]; rfl
   rw [e4] at hne
   have hu : u = .none := by
    cases u <;> first | rfl | exact absurd rfl hne
   subst hu
   cases ku
   refine ⟨rfl, ?_⟩
   show NP W [] (frs fs) s io m (VP W) _ _ s'
   rw [e4]
   exact ⟨_, m3, io3, rfl, st3.trans st4, H3, .ref (st4.io_get last), sm.trans sm3⟩
  | _ => exact z
end
end Mini
namespace Mini
open PySem PySem.W PyProof.Rows
structure Cx where
 sc : Scope
 vis : List (Option Str)
structure Px where
 K : Frag
 S : Sig
 fa : Nat -> Addr
 ca : Nat -> Addr
 /-- loops may stand eW (no exception is handled) -/
 loud : Bool
 /-- what may be called: all, or these -/
 ok : Option (List Nat)
 /-- what may be called while an exception is handled -/
 qok : List Nat
noncomputable def Px.can (P : Px) (k : Nat) : Bool := match P.ok with
 | none => true
 | some l => l.contains k
noncomputable def Px.quiet (P : Px) : Px := { P with loud := false, ok := some P.qok, qok := [] }
noncomputable def cZ4 (Γ : Cx) (i : Nat) (x : Str) : Bool := (Γ.vis[i]? == some (some x)) && (Γ.sc.names.lookup x == some .local || Γ.sc.names.lookup x == some .cell || Γ.sc.names.lookup x == some .free) && !(x == ("__debug__" : Str)) && !(x == ("__classdict__" : Str))
noncomputable def bJ4 (Γ : Cx) (i : Nat) (x : Str) : Bool := (Γ.vis[i]? == some (some x)) && (Γ.sc.names.lookup x == some .local || Γ.sc.names.lookup x == some .cell)
noncomputable def bJ5 (Γ : Cx) (x : Str) : Bool := (Γ.sc.names.lookup x == some .globalImplicit) && !(x == ("__debug__" : Str)) && !(x == ("__name__" : Str))
noncomputable def bS9 (P : Px) (Γ : Cx) (x : Str) (id : String) : Bool := bJ5 Γ x && (nsIn P.K mainGlobals x == some none) && (bootBuiltins x == some (.builtin id))
noncomputable def aI0 (P : Px) (Γ : Cx) (x : Str) (id : String) : Bool := bJ5 Γ x && (nsIn P.K mainGlobals x == some none) && (bootBuiltins x == some (.type id))
noncomputable def isFd (d : Data) : Bool := match d with
 | .func _ => true
 | _ => false
noncomputable def cZ5 (P : Px) (Γ : Cx) (k : Nat) (x : Str) : Bool := P.can k && bJ5 Γ x && (nsIn P.K mainGlobals x == some (some (.ref (P.fa k)))) && (P.K.lookup (P.fa k)).any fun o => isFd o.data
noncomputable def isBi (P : Px) (Γ : Cx) (b : Bi) (x : Str) : Bool := match dC5 b with
 | .builtin id => bS9 P Γ x id
 | .type id => aI0 P Γ x id
 | _ => false
noncomputable def cP6 (P : Px) (Γ : Cx) (c : Nat) (x : Str) : Bool := bJ5 Γ x && (nsIn P.K mainGlobals x == some (some (.ref (P.ca c))))
noncomputable def bT0 (P : Px) (n : Nat) (x : Str) : Bool := match P.S.attrs[n]? with | some y => y == x | none => false
noncomputable def cP8 (P : Px) (n : Nat) (x : Str) : Bool := bT0 P n x && P.S.cls.all fun d => (d.meths.lookup n).isNone
noncomputable def aF6 (P : Px) (N : Addr) (D : ClsD) : Nat -> List Str -> Bool
 | _, [] => true
 | i, x :: r => nsIn P.K N x == some ((D.meths.lookup i).map fun k => .ref (P.fa k)) && (match fastLookup "object" x with | some none => true | _ => false) && aF6 P N D (i + 1) r
noncomputable def six {α : Type} (l : List α) : Option (α × α × α × α × α × α) := match l with
 | [] => none
 | a :: l => match l with
  | [] => none
  | b :: l => match l with
   | [] => none
   | c :: l => match l with
    | [] => none
    | d :: l => match l with
     | [] => none
     | e :: l => match l with
      | [] => none
      | f :: l => match l with
       | [] => some (a, b, c, d, e, f)
       | _ :: _ => none
noncomputable def dB9 (d : Data) : Option ClassData := match d with
 | .cls cd => some cd
 | _ => none
noncomputable def bE2 (K : Frag) (C : Addr) : Option Addr := (K.lookup C).bind fun o => (dB9 o.data).bind fun cd => (six o.slots.toList).bind fun q =>
 if o.cls == .type "type" && cd.mro == [.ref C, .type "object"] && q.2.2.2.2.1 == some (.builtin "object.__new__") && !cd.hasDel && cd.hasDict && !cd.abstract && nsOkIn K cd.ns then some cd.ns else none
noncomputable def cB5 (P : Px) (c : Nat) : Bool := match P.S.cls[c]? with
 | some d => !d.exc && (match d.init with | some k => decide (k < P.S.fns.length) && findIn P.K (.ref (P.ca c)) "__init__" == some (some (.ref (P.fa k))) && typeIn P.K (.ref (P.fa k)) == some (.type "function") | none => false)
  && keepIn P.K (.ref (P.ca c)) && makesIn P.K (P.ca c)
  && (match bE2 P.K (P.ca c) with
   | some N => nsIn P.K N "__getattribute__" == some none && nsIn P.K N "__getattr__" == some none && nsIn P.K N "__setattr__" == some none && aF6 P N d 0 P.S.attrs
   | none => false)
  && decide P.S.attrs.Nodup && decide (P.S.attrs.length <= 1000) && (d.meths.all fun q => decide (q.2 < P.S.fns.length))
 | none => false
noncomputable def isCst : Lt -> Const -> Bool
 | .none, .none => true
 | .bool b, .bool d => b == d
 | .int i, .int j => i == j
 | .str x, .str y => x == y && PyData.strOk x
 | _, _ => false
noncomputable def cZ2 (v : Value) (l : Lt) : Bool := match l with
 | .int i => (match v with | .int j _ => i == j | _ => false)
 | .str x => (match v with | .str y _ => x == y && PyData.strOk x | _ => false)
 | .bool b => (match v with | .bool c => b == c | _ => false)
 | .none => (match v with | .none => true | _ => false)
noncomputable def cZ6 (P : Px) (Γ : Cx) (i : Nat) (x : Str) : Bool := bJ5 Γ x && (nsIn P.K mainGlobals x).any fun o => o.any fun v => (P.S.globs[i]?).any fun p => cZ2 v p.2
noncomputable def cZ3 : Bool -> BoolOp -> Bool
 | true, .And => true
 | false, .Or => true
 | _, _ => false
noncomputable def eV {β : Type} (d : β) (hBoolOp : BoolOp -> List Expr -> β) (hBinOp : Expr -> Operator -> Expr -> β) (hUnaryOp : UnaryOp -> Expr -> β) (hIfExp : Expr -> Expr -> Expr -> β) (hDict : List (Option Expr) -> List Expr -> β) (hSet : β) (hListComp : Expr -> List Comprehension -> Scope -> β) (hSetComp : β) (hDictComp : β) (hCompare : Expr -> List CmpOp -> List Expr -> β) (hCall : Expr -> List Expr -> List Keyword -> Pos -> β) (hConstant : Const -> β) (hAttribute : Expr -> Str -> Pos -> β) (hSubscript : Expr -> Expr -> β) (hName : Str -> Pos -> β) (hList : List Expr -> β) (hTuple : List Expr -> β) (hSlice : Option Expr -> Option Expr -> Option Expr -> β) (e : Expr) : β := Expr.casesOn (motive_1 := fun y_ => β) e (fun a0 a1 y_ => hBoolOp a0 a1) (fun y_ y_ y_ => d) (fun a0 a1 a2 y_ => hBinOp a0 a1 a2) (fun a0 a1 y_ => hUnaryOp a0 a1) (fun y_ y_ y_ y_ => d) (fun a0 a1 a2 y_ => hIfExp a0 a1 a2) (fun a0 a1 y_ => hDict a0 a1) (fun y_ y_ y_ => hSet) (fun a0 a1 a2 y_ => hListComp a0 a1 a2) (fun y_ y_ y_ y_ => hSetComp) (fun y_ y_ y_ y_ y_ => hDictComp) (fun y_ y_ y_ y_ => d) (fun y_ y_ => d) (fun y_ y_ => d) (fun y_ y_ => d) (fun a0 a1 a2 y_ => hCompare a0 a1 a2) (fun a0 a1 a2 a3 => hCall a0 a1 a2 a3) (fun y_ y_ y_ y_ => d) (fun y_ y_ => d) (fun a0 y_ y_ => hConstant a0) (fun a0 a1 a2 => hAttribute a0 a1 a2) (fun a0 a1 y_ => hSubscript a0 a1) (fun y_ y_ => d) (fun a0 a1 => hName a0 a1) (fun a0 y_ => hList a0) (fun a0 y_ y_ => hTuple a0) (fun a0 a1 a2 y_ => hSlice a0 a1 a2)
noncomputable def cO1 : Expr -> Bool := eV true (fun y_ y_ => true) (fun y_ y_ y_ => true) (fun y_ y_ => true) (fun y_ y_ y_ => true) (fun y_ y_ => true) true (fun y_ y_ y_ => true) true true (fun y_ y_ y_ => true) (fun y_ y_ y_ y_ => true) (fun y_ => true) (fun y_ y_ y_ => true) (fun y_ y_ => true) (fun y_ y_ => true) (fun y_ => true) (fun y_ => true) (fun y_ y_ y_ => false)
noncomputable def aP0 : Expr -> Bool := eV true (fun y_ y_ => true) (fun y_ y_ y_ => true) (fun y_ y_ => true) (fun y_ y_ y_ => true) (fun y_ y_ => true) false (fun y_ y_ y_ => true) true true (fun y_ y_ y_ => true) (fun y_ y_ y_ y_ => true) (fun y_ => true) (fun y_ y_ y_ => true) (fun y_ y_ => true) (fun y_ y_ => true) (fun y_ => true) (fun y_ => true) (fun y_ y_ y_ => true)
noncomputable def bI7 : CE -> Bool
 | .cnst .none => true
 | _ => false
noncomputable def cD1 : UnaryOp -> Bool | .Not => true | _ => false
noncomputable def aT0 : Expr -> Bool := eV true (fun y_ y_ => false) (fun y_ y_ y_ => true) (fun op y_ => !cD1 op) (fun y_ y_ y_ => false) (fun y_ y_ => true) true (fun y_ y_ y_ => true) true true (fun y_ y_ y_ => false) (fun y_ y_ y_ y_ => true) (fun y_ => true) (fun y_ y_ y_ => true) (fun y_ y_ => true) (fun y_ y_ => true) (fun y_ => true) (fun y_ => true) (fun y_ y_ y_ => true)
noncomputable def aO5 (scope : Scope) (x : Str) : List (Option Str) -> List (Option Str)
 | [] => [some x]
 | o :: r => (match o with | some y => (match scope.names.lookup y with | some .free => some y | _ => none) | none => none) :: aO5 scope x r
noncomputable def cM6 (scope : Scope) (sc : Scope) : Scope :=
 { scope with names := scope.names.map fun (n, k) => if (k == .free && sc.kind == .function && sc.names.lookup n == some .cell) then (n, .cell) else (n, k) }
noncomputable def aM9 (scope : Scope) (x : Str) (Γ : Cx) : Cx := ⟨cM6 scope Γ.sc, aO5 scope x Γ.vis⟩
noncomputable def bU7 (scope : Scope) (x : Str) (Γ : Cx) : Bool :=
 scope.kind == .function && (scope.names.all fun p => !(p.2 == .local) || scope.names.lookup p.1 == some .local) && (scope.names.all fun p => !(p.2 == .cell)) &&
 (scope.names.all fun p => !(p.2 == .free) || (Γ.vis.contains (some p.1) && (Γ.sc.names.lookup p.1 == some .cell || Γ.sc.names.lookup p.1 == some .free))) && scope.names.lookup x == some .local && decide (Γ.vis.filterMap id).Nodup && Γ.sc.kind == .function
noncomputable def aR8 : Expr -> Option Const := eV none (fun y_ y_ => none) (fun y_ y_ y_ => none) (fun y_ y_ => none) (fun y_ y_ y_ => none) (fun y_ y_ => none) none (fun y_ y_ y_ => none) none none (fun y_ y_ y_ => none) (fun y_ y_ y_ y_ => none) (fun c => some c) (fun y_ y_ y_ => none) (fun y_ y_ => none) (fun y_ y_ => none) (fun y_ => none) (fun y_ => none) (fun y_ y_ y_ => none)
noncomputable def cS : Expr -> Option (Str × Pos) := eV none (fun y_ y_ => none) (fun y_ y_ y_ => none) (fun y_ y_ => none) (fun y_ y_ y_ => none) (fun y_ y_ => none) none (fun y_ y_ y_ => none) none none (fun y_ y_ y_ => none) (fun y_ y_ y_ y_ => none) (fun y_ => none) (fun y_ y_ y_ => none) (fun y_ y_ => none) (fun x p => some (x, p)) (fun y_ => none) (fun y_ => none) (fun y_ y_ y_ => none)
noncomputable def cW0 : Expr -> Option (Expr × Operator × Expr) := eV none (fun y_ y_ => none) (fun l op r => some (l, op, r)) (fun y_ y_ => none) (fun y_ y_ y_ => none) (fun y_ y_ => none) none (fun y_ y_ y_ => none) none none (fun y_ y_ y_ => none) (fun y_ y_ y_ y_ => none) (fun y_ => none) (fun y_ y_ y_ => none) (fun y_ y_ => none) (fun y_ y_ => none) (fun y_ => none) (fun y_ => none) (fun y_ y_ y_ => none)
noncomputable def vUn : Expr -> Option (UnaryOp × Expr) := eV none (fun y_ y_ => none) (fun y_ y_ y_ => none) (fun op x => some (op, x)) (fun y_ y_ y_ => none) (fun y_ y_ => none) none (fun y_ y_ y_ => none) none none (fun y_ y_ y_ => none) (fun y_ y_ y_ y_ => none) (fun y_ => none) (fun y_ y_ y_ => none) (fun y_ y_ => none) (fun y_ y_ => none) (fun y_ => none) (fun y_ => none) (fun y_ y_ y_ => none)
noncomputable def aY6 : Expr -> Option (BoolOp × List Expr) := eV none (fun op es => some (op, es)) (fun y_ y_ y_ => none) (fun y_ y_ => none) (fun y_ y_ y_ => none) (fun y_ y_ => none) none (fun y_ y_ y_ => none) none none (fun y_ y_ y_ => none) (fun y_ y_ y_ y_ => none) (fun y_ => none) (fun y_ y_ y_ => none) (fun y_ y_ => none) (fun y_ y_ => none) (fun y_ => none) (fun y_ => none) (fun y_ y_ y_ => none)
noncomputable def cG0 : Expr -> Option (Expr × List CmpOp × List Expr) := eV none (fun y_ y_ => none) (fun y_ y_ y_ => none) (fun y_ y_ => none) (fun y_ y_ y_ => none) (fun y_ y_ => none) none (fun y_ y_ y_ => none) none none (fun l ops cs => some (l, ops, cs)) (fun y_ y_ y_ y_ => none) (fun y_ => none) (fun y_ y_ y_ => none) (fun y_ y_ => none) (fun y_ y_ => none) (fun y_ => none) (fun y_ => none) (fun y_ y_ y_ => none)
noncomputable def bL6 : Expr -> Option (List Expr) := eV none (fun y_ y_ => none) (fun y_ y_ y_ => none) (fun y_ y_ => none) (fun y_ y_ y_ => none) (fun y_ y_ => none) none (fun y_ y_ y_ => none) none none (fun y_ y_ y_ => none) (fun y_ y_ y_ y_ => none) (fun y_ => none) (fun y_ y_ y_ => none) (fun y_ y_ => none) (fun y_ y_ => none) (fun y_ => none) (fun es => some es) (fun y_ y_ y_ => none)
noncomputable def bM1 : Expr -> Option (List Expr) := eV none (fun y_ y_ => none) (fun y_ y_ y_ => none) (fun y_ y_ => none) (fun y_ y_ y_ => none) (fun y_ y_ => none) none (fun y_ y_ y_ => none) none none (fun y_ y_ y_ => none) (fun y_ y_ y_ y_ => none) (fun y_ => none) (fun y_ y_ y_ => none) (fun y_ y_ => none) (fun y_ y_ => none) (fun es => some es) (fun y_ => none) (fun y_ y_ y_ => none)
noncomputable def bM3 : Expr -> Option (List (Option Expr) × List Expr) := eV none (fun y_ y_ => none) (fun y_ y_ y_ => none) (fun y_ y_ => none) (fun y_ y_ y_ => none) (fun es fs => some (es, fs)) none (fun y_ y_ y_ => none) none none (fun y_ y_ y_ => none) (fun y_ y_ y_ y_ => none) (fun y_ => none) (fun y_ y_ y_ => none) (fun y_ y_ => none) (fun y_ y_ => none) (fun y_ => none) (fun y_ => none) (fun y_ y_ y_ => none)
noncomputable def bX3 : Expr -> Option (Expr × Expr) := eV none (fun y_ y_ => none) (fun y_ y_ y_ => none) (fun y_ y_ => none) (fun y_ y_ y_ => none) (fun y_ y_ => none) none (fun y_ y_ y_ => none) none none (fun y_ y_ y_ => none) (fun y_ y_ y_ y_ => none) (fun y_ => none) (fun y_ y_ y_ => none) (fun x y => some (x, y)) (fun y_ y_ => none) (fun y_ => none) (fun y_ => none) (fun y_ y_ y_ => none)
noncomputable def aR7 : Expr -> Option (Option Expr × Option Expr × Option Expr) := eV none (fun y_ y_ => none) (fun y_ y_ y_ => none) (fun y_ y_ => none) (fun y_ y_ y_ => none) (fun y_ y_ => none) none (fun y_ y_ y_ => none) none none (fun y_ y_ y_ => none) (fun y_ y_ y_ y_ => none) (fun y_ => none) (fun y_ y_ y_ => none) (fun y_ y_ => none) (fun y_ y_ => none) (fun y_ => none) (fun y_ => none) (fun l h s => some (l, h, s))
noncomputable def aN8 : Expr -> Option (Expr × List Expr × List Keyword × Pos) := eV none (fun y_ y_ => none) (fun y_ y_ y_ => none) (fun y_ y_ => none) (fun y_ y_ y_ => none) (fun y_ y_ => none) none (fun y_ y_ y_ => none) none none (fun y_ y_ y_ => none) (fun f es kws pos => some (f, es, kws, pos)) (fun y_ => none) (fun y_ y_ y_ => none) (fun y_ y_ => none) (fun y_ y_ => none) (fun y_ => none) (fun y_ => none) (fun y_ y_ y_ => none)
noncomputable def aG1 : Expr -> Option (Expr × Str × Pos) := eV none (fun y_ y_ => none) (fun y_ y_ y_ => none) (fun y_ y_ => none) (fun y_ y_ y_ => none) (fun y_ y_ => none) none (fun y_ y_ y_ => none) none none (fun y_ y_ y_ => none) (fun y_ y_ y_ y_ => none) (fun y_ => none) (fun x nm p => some (x, nm, p)) (fun y_ y_ => none) (fun y_ y_ => none) (fun y_ => none) (fun y_ => none) (fun y_ y_ y_ => none)
noncomputable def aR9 : Expr -> Option (Expr × List Comprehension × Scope) := eV none (fun y_ y_ => none) (fun y_ y_ y_ => none) (fun y_ y_ => none) (fun y_ y_ y_ => none) (fun y_ y_ => none) none (fun e gs sc => some (e, gs, sc)) none none (fun y_ y_ y_ => none) (fun y_ y_ y_ y_ => none) (fun y_ => none) (fun y_ y_ y_ => none) (fun y_ y_ => none) (fun y_ y_ => none) (fun y_ => none) (fun y_ => none) (fun y_ y_ y_ => none)
noncomputable def bW7 {α : Type} : List α -> Option α | [x] => some x | _ => none
noncomputable def vTwo {α : Type} : List α -> Option (α × α) | [x, y] => some (x, y) | _ => none
noncomputable def bT (e : Expr) : Option (Str × List Expr) := (aN8 e).bind fun q => if q.2.2.1.isEmpty then (cS q.1).map fun x => (x.1, q.2.1) else none
noncomputable def mSrc (P : Px) (Γ : Cx) (f : List Expr -> Bool) (k : IK) (e : Expr) : Bool := P.loud && match k with
 | .expr => f [e]
 | .range => (bT e).any fun q => aI0 P Γ q.1 "range" && aS q.2 && f q.2
 | .enum => false
noncomputable def cC4 (P : Px) (Γ : Cx) (f : List Expr -> Bool) (k : IK) (t : CT) (e : Expr) : Bool := match k with
 | .enum => P.loud && ((match t with | .many _ => true | .one _ => false) && (bT e).any fun q => aI0 P Γ q.1 "enumerate" && aS q.2 && f q.2)
 | k => mSrc P Γ f k e
noncomputable def isTy (P : Px) (Γ : Cx) (t : Ty) (y : Str) : Bool := match t with
 | .cls _ => false
 | t => aI0 P Γ y (dP t) && !(dP t == "")
mutual
noncomputable def mE (P : Px) (Γ : Cx) : CE -> Expr -> Bool
 | .cnst v, e => (aR8 e).any fun c => isCst v c
 | .var i, e => (cS e).any fun x => cZ4 Γ i x.1
 | .bin op a b, e => (cW0 e).any fun q => decide (op = q.2.1) && mE P Γ a q.1 && mE P Γ b q.2.2
 | .neg _, _ => false
 | .not a, e => (vUn e).any fun q => cD1 q.1 && mE P Γ a q.2
 | .boolop c as, e => (aY6 e).any fun q => cZ3 c q.1 && mEs P Γ as q.2 && !as.isEmpty
 | .cmp a ops bs, e => (cG0 e).any fun q => decide (ops = q.2.1) && mE P Γ a q.1 && mEs P Γ bs q.2.2 && decide (ops.length = bs.length) && !bs.isEmpty && q.2.2.all aP0
 | .ite _ _ _, _ => false
 | .tup as, e => (bL6 e).any fun es => mEs P Γ as es && aS es && decide (as.length <= 1000)
 | .list as, e => (bM1 e).any fun es => mEs P Γ as es && aS es && decide (as.length <= 1000)
 | .dict ks vs, e => (bM3 e).any fun q => if ks.isEmpty then vs.isEmpty && q.1.isEmpty && q.2.isEmpty else false
 | .idx a i, e => (bX3 e).any fun q => cO1 q.2 && mE P Γ a q.1 && mE P Γ i q.2
 | .slice a lo hi st, e => (bX3 e).any fun q => mE P Γ a q.1 && (aR7 q.2).any fun t => t.1.elim (bI7 lo) (fun l => mE P Γ lo l) && t.2.1.elim (bI7 hi) (fun l => mE P Γ hi l) && t.2.2.elim (bI7 st) (fun l => mE P Γ st l)
 | .call k as, e => (bT e).any fun q => cZ5 P Γ k q.1 && aS q.2 && mEs P Γ as q.2
 | .bi b as, e => (bT e).any fun q => P.loud && (if b = .lenset then ((bW7 q.2).any fun e1 => (bT e1).any fun p => bS9 P Γ q.1 "len" && aI0 P Γ p.1 "set" && aS p.2 && mEs P Γ as p.2) else (cU3 b && isBi P Γ b q.1 && aS q.2 && mEs P Γ as q.2))
 | .smeth o n as, e => (aN8 e).any fun q => (aG1 q.1).any fun t => t.2.1 == Str.ofString (bP2 n) && eP t.1 && aS q.2.1 && decide (q.2.1.length < 29) && t.2.2.endLine == q.2.2.2.line && q.2.2.1.isEmpty && mE P Γ o t.1 && mEs P Γ as q.2.1
 | .isi a t, e => (bT e).any fun q => (vTwo q.2).any fun p => (cS p.2).any fun y => bS9 P Γ q.1 "isinstance" && isTy P Γ t y.1 && aS [p.1] && mE P Γ a p.1
 | .listrange as, e => (bT e).any fun q => (bW7 q.2).any fun e1 => (bT e1).any fun p => P.loud && aI0 P Γ q.1 "list" && aI0 P Γ p.1 "range" && aS p.2 && mEs P Γ as p.2
 | .comp elt t nl k src ifs, e => (aR9 e).any fun q => (bW7 q.2.1).any fun g => (cS g.target).any fun x => decide (t = .one Γ.vis.length) && decide (nl = 1) && g.is_async == 0 && bU7 q.2.2 x.1 Γ && aP0 g.iter && mSrc P Γ (fun es => mEs P Γ src es) k g.iter && cC5 P (aM9 q.2.2 x.1 Γ) ifs g.ifs && mE P (aM9 q.2.2 x.1 Γ) elt q.1
 | .glob i, e => (cS e).any fun x => cZ6 P Γ i x.1
 | .fnv _, _ => false
 | .attr a n, e => (aG1 e).any fun q => eP q.1 && cP8 P n q.2.1 && mE P Γ a q.1
 | .callv _ _, _ => false
 | .new c as, e => (bT e).any fun q => P.ok.isNone && cP6 P Γ c q.1 && cB5 P c && aS q.2 && mEs P Γ as q.2
 | .meth o n as, e => (aN8 e).any fun q => (aG1 q.1).any fun t => P.ok.isNone && bT0 P n t.2.1 && eP t.1 && aS q.2.1 && decide (q.2.1.length < 29) && t.2.2.endLine == q.2.2.2.line && q.2.2.1.isEmpty && mE P Γ o t.1 && mEs P Γ as q.2.1
noncomputable def mEs (P : Px) (Γ : Cx) : List CE -> List Expr -> Bool
 | [], es => es.isEmpty
 | a :: as, es => match es with
  | [] => false
  | e :: es => mE P Γ a e && mEs P Γ as es
noncomputable def mB (P : Px) (Γ : Cx) : CB -> Expr -> Bool
 | .not b, e => (vUn e).any fun q => cD1 q.1 && mB P Γ b q.2
 | .all c bs, e => (aY6 e).any fun q => cZ3 c q.1 && cC5 P Γ bs q.2
 | .val c, e => (aT0 e || (cG0 e).isSome) && mE P Γ c e
noncomputable def cC5 (P : Px) (Γ : Cx) : List CB -> List Expr -> Bool
 | [], es => es.isEmpty
 | b :: bs, es => match es with
  | [] => false
  | e :: es => mB P Γ b e && cC5 P Γ bs es
end
noncomputable def aB7 : Expr -> Bool := eV false (fun y_ y_ => false) (fun y_ y_ y_ => false) (fun y_ y_ => false) (fun y_ y_ y_ => false) (fun y_ y_ => false) false (fun y_ y_ y_ => true) true true (fun y_ y_ y_ => false) (fun y_ y_ y_ y_ => false) (fun y_ => false) (fun y_ y_ y_ => false) (fun y_ y_ => false) (fun y_ y_ => false) (fun y_ => false) (fun y_ => false) (fun y_ y_ y_ => false)
noncomputable def sV {β : Type} (d : β) (hReturn : Option Expr -> β) (hAssign : List Expr -> Expr -> Pos -> β) (hFor : Expr -> Expr -> List Stmt -> List Stmt -> β) (hWhile : Expr -> List Stmt -> List Stmt -> β) (hIf : Expr -> List Stmt -> List Stmt -> β) (hRaise : Option Expr -> Option Expr -> β) (hTry : List Stmt -> List ExceptHandler -> List Stmt -> List Stmt -> β) (hExpr : Expr -> β) (hPass : β) (hContinue : β) (e : Stmt) : β := Stmt.casesOn (motive_2 := fun y_ => β) e (fun y_ y_ y_ y_ y_ y_ y_ y_ y_ y_ => d) (fun y_ y_ y_ y_ y_ y_ y_ y_ y_ y_ => d) (fun y_ y_ y_ y_ y_ y_ y_ y_ y_ y_ y_ => d) (fun a0 y_ => hReturn a0) (fun y_ y_ => d) (fun a0 a1 a2 => hAssign a0 a1 a2) (fun y_ y_ y_ y_ y_ y_ y_ => d) (fun y_ y_ y_ y_ => d) (fun y_ y_ y_ y_ y_ => d) (fun a0 a1 a2 a3 y_ => hFor a0 a1 a2 a3) (fun y_ y_ y_ y_ y_ => d) (fun a0 a1 a2 y_ => hWhile a0 a1 a2) (fun a0 a1 a2 y_ => hIf a0 a1 a2) (fun y_ y_ y_ => d) (fun y_ y_ y_ => d) (fun y_ y_ y_ => d) (fun a0 a1 y_ => hRaise a0 a1) (fun a0 a1 a2 a3 y_ => hTry a0 a1 a2 a3) (fun y_ y_ y_ y_ y_ => d) (fun y_ y_ y_ => d) (fun y_ y_ => d) (fun y_ y_ y_ y_ => d) (fun y_ y_ => d) (fun y_ y_ => d) (fun a0 y_ => hExpr a0) (fun y_ => hPass) (fun y_ => d) (fun y_ => hContinue)
noncomputable def cW1 : Stmt -> Option (List Expr × Expr × Pos) := sV none (fun y_ => none) (fun ts v pos => some (ts, v, pos)) (fun y_ y_ y_ y_ => none) (fun y_ y_ y_ => none) (fun y_ y_ y_ => none) (fun y_ y_ => none) (fun y_ y_ y_ y_ => none) (fun y_ => none) none none
noncomputable def cV9 : Stmt -> Option Expr := sV none (fun y_ => none) (fun y_ y_ y_ => none) (fun y_ y_ y_ y_ => none) (fun y_ y_ y_ => none) (fun y_ y_ y_ => none) (fun y_ y_ => none) (fun y_ y_ y_ y_ => none) (fun v => some v) none none
noncomputable def cV7 : Stmt -> Option (Expr × List Stmt × List Stmt) := sV none (fun y_ => none) (fun y_ y_ y_ => none) (fun y_ y_ y_ y_ => none) (fun y_ y_ y_ => none) (fun t x y => some (t, x, y)) (fun y_ y_ => none) (fun y_ y_ y_ y_ => none) (fun y_ => none) none none
noncomputable def cV8 : Stmt -> Option (Expr × Expr × List Stmt × List Stmt) := sV none (fun y_ => none) (fun y_ y_ y_ => none) (fun t i b e => some (t, i, b, e)) (fun y_ y_ y_ => none) (fun y_ y_ y_ => none) (fun y_ y_ => none) (fun y_ y_ y_ y_ => none) (fun y_ => none) none none
noncomputable def vWh : Stmt -> Option (Expr × List Stmt × List Stmt) := sV none (fun y_ => none) (fun y_ y_ y_ => none) (fun y_ y_ y_ y_ => none) (fun t b e => some (t, b, e)) (fun y_ y_ y_ => none) (fun y_ y_ => none) (fun y_ y_ y_ y_ => none) (fun y_ => none) none none
noncomputable def cV6 : Stmt -> Option (Option Expr) := sV none (fun v => some v) (fun y_ y_ y_ => none) (fun y_ y_ y_ y_ => none) (fun y_ y_ y_ => none) (fun y_ y_ y_ => none) (fun y_ y_ => none) (fun y_ y_ y_ y_ => none) (fun y_ => none) none none
noncomputable def bY3 : Stmt -> Bool := sV false (fun y_ => false) (fun y_ y_ y_ => false) (fun y_ y_ y_ y_ => false) (fun y_ y_ y_ => false) (fun y_ y_ y_ => false) (fun y_ y_ => false) (fun y_ y_ y_ y_ => false) (fun y_ => false) false true
noncomputable def bX6 : Stmt -> Bool := sV false (fun y_ => false) (fun y_ y_ y_ => false) (fun y_ y_ y_ y_ => false) (fun y_ y_ y_ => false) (fun y_ y_ y_ => false) (fun y_ y_ => false) (fun y_ y_ y_ y_ => false) (fun y_ => false) true false
mutual
noncomputable def qS : CS -> Bool
 | .exp _ => true
 | .ret _ => true
 | .ite _ a b => qSs a && qSs b
 | _ => false
noncomputable def qSs : List CS -> Bool
 | [] => true
 | c :: cs => qS c && qSs cs
end
noncomputable def bQ9 (Γ : Cx) (y : Str × Pos) (v : Expr) : Bool := !aB7 v || (aR9 v).any fun q => !(Γ.sc.names.lookup y.1 == some .local) || (y.2.line == v.pos.line && !(q.2.2.names.any fun (n, k) => n == y.1 && (k == .local || k == .cell)))
noncomputable def mT (Γ : Cx) (t : CT) (e : Expr) : Bool := match t with
 | .one i => (cS e).any fun x => bJ4 Γ i x.1
 | .many _ => false
noncomputable def mTs (Γ : Cx) : List Nat -> List Expr -> Bool
 | [], es => es.isEmpty
 | i :: is, es => match es with
  | [] => false
  | e :: es => (cS e).any (fun x => bJ4 Γ i x.1) && mTs Γ is es
noncomputable def mTF (Γ : Cx) (t : CT) (e : Expr) : Bool := match t with
 | .one i => (cS e).any fun x => bJ4 Γ i x.1
 | .many is => (bL6 e).any fun es => mTs Γ is es
noncomputable def mAsg (P : Px) (Γ : Cx) (t : CTgt) (c : CE) (tg v : Expr) : Bool := match t with
 | .one t => match t with
  | .one i => mT Γ (.one i) tg && mE P Γ c v && (cS tg).any fun y => bQ9 Γ y v
  | .many is => P.loud && mTF Γ (.many is) tg && mE P Γ c v && !aB7 v && (bL6 v).isNone
 | .idx o i => (bX3 tg).any fun q => mE P Γ o q.1 && mE P Γ i q.2 && mE P Γ c v && !aB7 v
 | .attr o n => (aG1 tg).any fun q => cP8 P n q.2.1 && mE P Γ o q.1 && mE P Γ c v && !aB7 v
 | .idx2 _ _ _ _ => false
mutual
noncomputable def mS (P : Px) (Γ : Cx) : CS -> Stmt -> Bool
 | .asg t e, s => (cW1 s).any fun q => (bW7 q.1).any fun tg => mAsg P Γ t e tg q.2.1
 | .exp e, s => (cV9 s).any fun v => mE P Γ e v && !aB7 v
 | .ite c a b, s => (cV7 s).any fun q => mB P Γ c q.1 && mSs P Γ a q.2.1 && mSs P Γ b q.2.2
 | .for_ k t src body, s => (cV8 s).any fun q => q.2.2.2.isEmpty && mTF Γ t q.1 && aP0 q.2.1 && cC4 P Γ (fun es => mEs P Γ src es) k t q.2.1 && mSs P Γ body q.2.2.1
 | .wh c body, s => (vWh s).any fun q => q.2.2.isEmpty && mB P Γ c q.1 && mSs P Γ body q.2.1
 | .ret e, s => (cV6 s).any fun o => o.any fun v => mE P Γ e v
 | .cont, s => bY3 s
 | .pass, s => bX6 s
 | .rse _ _, _ => true
 | .try_ _ _ _ _, _ => false
noncomputable def mSs (P : Px) (Γ : Cx) : List CS -> List Stmt -> Bool
 | [], ss => ss.isEmpty
 | a :: as, ss => match ss with
  | [] => false
  | s :: ss => mS P Γ a s && mSs P Γ as ss
end
noncomputable def mF (P : Px) (k : Nat) (d : FnD) : Bool := match P.K.lookup (P.fa k) with
 | some o => (match o.data with
  | .func fd => (match fd.body with
   | .stmts body => o.cls == .type "function" && bT6 P.K fd d && mSs P ⟨fd.scope, d.names.map some⟩ d.body body
   | _ => false)
  | _ => false)
 | none => false
noncomputable def mFs (P : Px) : Nat -> List FnD -> Bool
 | _, [] => true
 | k, d :: ds => (!P.can k || mF P k d) && mFs P (k + 1) ds
end Mini
namespace Mini
open PySem PySem.W PyProof.Rows
structure Fx (W : Wd) (P : Px) (A : Around) (fs : List Env) (n : Nat) (F : Fns) : Prop where
 gl : Gl W P.K
 R : AR A fs n
 S : W.S = P.S
 fa : W.fa = P.fa
 ca : W.ca = P.ca
 hh : P.loud = true -> A.handled = none
 calls : ∀ k, P.can k = true -> SiF W A fs (.ref (W.fa k)) (F k)
 new : P.ok = none -> ∀ k, k < P.S.fns.length -> SiK W (born A) fs (.ref (W.fa k)) (F k)
 qcalls : ∀ A', AR A' fs n -> ∀ k, P.qok.contains k = true -> SiF W A' fs (.ref (W.fa k)) (F k)
 objs : P.ok = none -> ∀ k, k < P.S.fns.length -> ∃ o fd, P.K.lookup (P.fa k) = some o /\ o.data = .func fd /\ o.cls = .type "function"
section
variable {W : Wd} {P : Px} {fs : List Env} {env : Env} {A : Around} {n : Nat} {F : Fns} {pos p : Pos} {Γ : Cx}
theorem aZ {a b : Bool} (h : (a && b) = true) : a = true /\ b = true := Bool.and_eq_true_iff.mp h
theorem cH2 {a : Bool} (h : (!a) = true) : a = false := (Bool.not_eq_true' _).mp h
theorem aV3 {x : Str} (hsc : env.scope = Γ.sc) (h : bJ5 Γ x = true) : env.kindOf x = some .globalImplicit /\ (x == ("__debug__" : Str)) = false /\ (x == ("__name__" : Str)) = false := by
 refine ⟨?_, cH2 (aZ (aZ h).1).2, cH2 (aZ h).2⟩
 show env.scope.names.lookup x = _
 rw [hsc]; exact eq_of_beq (aZ (aZ h).1).1
theorem bV3 {x : Str} {id : String} (hsc : env.scope = Γ.sc) (h : bS9 P Γ x id = true) : env.kindOf x = some .globalImplicit /\ (x == ("__debug__" : Str)) = false /\ (x == ("__name__" : Str)) = false /\ nsIn P.K mainGlobals x = some none /\ bootBuiltins x = some (.builtin id) :=
 have g := aV3 hsc (aZ (aZ h).1).1
 ⟨g.1, g.2.1, g.2.2, eq_of_beq (aZ (aZ h).1).2, eq_of_beq (aZ h).2⟩
theorem aG2 {x : Str} {id : String} (hsc : env.scope = Γ.sc) (h : aI0 P Γ x id = true) : env.kindOf x = some .globalImplicit /\ (x == ("__debug__" : Str)) = false /\ (x == ("__name__" : Str)) = false /\ nsIn P.K mainGlobals x = some none /\ bootBuiltins x = some (.type id) :=
 have g := aV3 hsc (aZ (aZ h).1).1
 ⟨g.1, g.2.1, g.2.2, eq_of_beq (aZ (aZ h).1).2, eq_of_beq (aZ h).2⟩
theorem fd_of {d : Data} (h : isFd d = true) : ∃ fd, d = .func fd := by
 cases d with
 | func fd => exact ⟨fd, rfl⟩
 | _ => exact absurd h Bool.false_ne_true
theorem dA1 {x : Str} {k : Nat} (hsc : env.scope = Γ.sc) (h : cZ5 P Γ k x = true) : P.can k = true /\ env.kindOf x = some .globalImplicit /\ (x == ("__debug__" : Str)) = false /\ nsIn P.K mainGlobals x = some (some (.ref (P.fa k))) /\ ∃ o fd, P.K.lookup (P.fa k) = some o /\ o.data = .func fd := by
 have h1 := aZ (aZ h).1
 have g := aV3 hsc (aZ h1.1).2
 refine ⟨(aZ h1.1).1, g.1, g.2.1, eq_of_beq h1.2, ?_⟩
 have h2 := (aZ h).2
 cases q : P.K.lookup (P.fa k) with
 | none => rw [q] at h2; exact absurd h2 Bool.false_ne_true
 | some o => rw [q] at h2; exact (fd_of h2).elim fun fd e => ⟨o, fd, rfl, e⟩
theorem cX7 {x : Str} {c : Nat} (hsc : env.scope = Γ.sc) (h : cP6 P Γ c x = true) : env.kindOf x = some .globalImplicit /\ (x == ("__debug__" : Str)) = false /\ nsIn P.K mainGlobals x = some (some (.ref (P.ca c))) :=
 have g := aV3 hsc (aZ h).1
 ⟨g.1, g.2.1, eq_of_beq (aZ h).2⟩
theorem bB7 {S : Sig} : ∀ {cs : List CE} {r : Lo} {m : MH} {vs : List V} {m' : MH}, evs S F cs r m = .ok vs m' -> vs.length = cs.length
 | [], r, m, vs, m', h => by cases h; rfl
 | c :: cs, r, m, vs, m', h => by
  have h' : (ev S F c r m).bind (fun x => bnd (evs S F cs r) fun xs => ret (x :: xs)) = .ok vs m' := h
  cases e1 : ev S F c r m with
  | bad => rw [e1] at h'; cases h'
  | exc k m1 => rw [e1] at h'; cases h'
  | ok x m1 =>
   rw [e1] at h'
   have h2 : (evs S F cs r m1).bind (fun xs => ret (x :: xs)) = .ok vs m' := h'
   cases e2 : evs S F cs r m1 with
   | bad => rw [e2] at h2; cases h2
   | exc k m2 => rw [e2] at h2; cases h2
   | ok xs m2 =>
    rw [e2] at h2; cases h2
    simp [bB7 e2]
theorem cN5 {c : Bool} {op : BoolOp} (h : cZ3 c op = true) : (op = .And /\ c = true) \/ (op = .Or /\ c = false) := by
 cases c <;> cases op <;> first | (exact absurd h Bool.false_ne_true) | simp
theorem bD4 (scope : Scope) (x : Str) : ∀ vis, (aO5 scope x vis).length = vis.length + 1
 | [] => rfl
 | _ :: r => by simp [aO5, bD4 scope x r]
set_option tactic.hygienic true in
theorem aE9 (scope : Scope) (x : Str) : ∀ (vis : List (Option Str)) (i : Nat) (y : Str), (aO5 scope x vis)[i]? = some (some y) -> (i = vis.length /\ y = x) \/ (vis[i]? = some (some y) /\ scope.names.lookup y = some .free)
 | [], i, y, h => by
  cases i with
  | zero => simp [aO5] at h; exact .inl ⟨rfl, h.symm⟩
  | succ i => simp [aO5] at h
 | o :: r, i, y, h => by
  cases i with
  | zero =>
   simp only [aO5, List.getElem?_cons_zero, Option.some.injEq] at h
   right
   split at h
   ·split at h
    ·rename_i e; cases h; exact ⟨rfl, e⟩
    ·cases h
   ·cases h
  | succ i =>
   simp only [aO5, List.getElem?_cons_succ] at h
   rcases aE9 scope x r i y h with ⟨a, b⟩ | a
   ·exact .inl ⟨by simp [a], b⟩
   ·exact .inr (by simpa using a)
theorem aG9 (scope : Scope) (x : Str) : ∀ (vis : List (Option Str)), (aO5 scope x vis)[vis.length]? = some (some x)
 | [] => rfl
 | _ :: r => by simp [aO5, aG9 scope x r]
theorem aT6 : ∀ {vis : List (Option Str)}, (vis.filterMap id).Nodup -> ∀ (i j : Nat) (y : Str), vis[i]? = some (some y) -> vis[j]? = some (some y) -> i = j
 | [], _, i, j, y, h, _ => by simp at h
 | o :: r, hn, i, j, y, h1, h2 => by
  have tail : (r.filterMap id).Nodup := by
   cases o with
   | none => simpa using hn
   | some z => simp at hn; exact hn.2
  have no : o = some y -> ∀ k : Nat, r[k]? = some (some y) -> False := fun e k hk => by
   subst e
   simp at hn
   exact hn.1 (List.mem_of_getElem? hk)
  cases i with
  | zero =>
   cases j with
   | zero => rfl
   | succ j => simp at h1 h2; exact (no h1 j h2).elim
  | succ i =>
   cases j with
   | zero => simp at h1 h2; exact (no h2 i h1).elim
   | succ j => simp at h1 h2; rw [aT6 tail i j y h1 h2]
theorem aX0 {scope : Scope} {x : Str} (hsc : env.scope = Γ.sc) (h : bU7 scope x Γ = true) : CompOk scope env Γ.vis (aO5 scope x Γ.vis) 1 := by
 simp only [bU7, Bool.and_eq_true, beq_iff_eq, decide_eq_true_eq] at h
 obtain ⟨⟨⟨⟨⟨⟨h1, h2⟩, h3⟩, h4⟩, h5⟩, h6⟩, h7⟩ := h
 refine ⟨h1, fun q hq e => ?_, fun q hq e => ?_, fun q hq e => ?_, fun i y hy => ?_, fun i j y h1' h2' => ?_, bD4 ..⟩
 ·have := List.all_eq_true.mp h2 q hq
  simpa [e] using this
 ·have := List.all_eq_true.mp h3 q hq
  simp [e] at this
 ·have := List.all_eq_true.mp h4 q hq
  simp only [e, beq_self_eq_true, Bool.not_true, Bool.false_or, Bool.and_eq_true, Bool.or_eq_true, beq_iff_eq] at this
  rcases this with ⟨a, b⟩
  rcases List.getElem?_of_mem (List.contains_iff_mem.mp a) with ⟨i, hi⟩
  refine ⟨i, hi, ?_⟩
  show env.scope.names.lookup q.1 = _ \/ env.scope.names.lookup q.1 = _
  rw [hsc]; exact b
 ·rcases aE9 scope x Γ.vis i y hy with ⟨a, b⟩ | ⟨a, b⟩
  ·exact .inl ⟨by omega, by rw [b]; exact h5⟩
  ·exact .inr ⟨a, b⟩
 ·rcases aE9 scope x Γ.vis i y h1' with ⟨a, b⟩ | ⟨a, b⟩ <;> rcases aE9 scope x Γ.vis j y h2' with ⟨c, d⟩ | ⟨c, d⟩
  ·omega
  ·rw [b, h5] at d; cases d
  ·rw [d, h5] at b; cases b
  ·exact aT6 h6 i j y a c
theorem aF0 {scope : Scope} (hsc : env.scope = Γ.sc) : relabel scope env = cM6 scope Γ.sc := by
 unfold relabel cM6 Env.kindOf
 rw [hsc]
theorem bD3 {iter : Expr} (h : aP0 iter = true) (x : Value) : foldedSetIterable iter env x = Pure.pure x := by
 unfold foldedSetIterable
 cases iter <;> first | (exact absurd h Bool.false_ne_true) | rfl
theorem bE6 {op : CmpOp} {e : Expr} (h : aP0 e = true) : behindInMarks op e = false := by
 cases e <;> first | (exact absurd h Bool.false_ne_true) | rfl
set_option tactic.hygienic true in
theorem aO7 {e : Expr} (h : aT0 e = true) : isTrue e env (eval e env) = (do let v <- eval e env; PySem.standAt e.pos; PySem.holding [v] (truthy v)) := by
 cases e <;> first | rfl | (exact absurd h Bool.false_ne_true) | skip
 rename_i op x pos
 cases op <;> first | rfl | (exact absurd h Bool.false_ne_true)
end
end Mini
namespace Mini
open PySem PySem.W PyProof.Rows
theorem aD {C : Prop} (h : false = true) : C := by cases h
theorem aB {a b : Bool} (h : (a && b) = true) : a = true /\ b = true := by cases a <;> cases b <;> first | (exact ⟨rfl, rfl⟩) | (exact aD h)
theorem dC {p : Prop} [Decidable p] (h : decide p = true) : p := of_decide_eq_true h
section
variable {W : Wd} {P : Px} {fs : List Env} {env : Env} {A : Around} {n : Nat} {F : Fns} {pos p : Pos} {Γ : Cx} {K : Frag} {h : Heap}
theorem cX0 {α : Type} {l : List α} {q : α × α × α × α × α × α} (h : six l = some q) : l = [q.1, q.2.1, q.2.2.1, q.2.2.2.1, q.2.2.2.2.1, q.2.2.2.2.2] := by
 cases l with
 | nil => cases h
 | cons a l => cases l with
  | nil => cases h
  | cons b l => cases l with
   | nil => cases h
   | cons c l => cases l with
    | nil => cases h
    | cons d l => cases l with
     | nil => cases h
     | cons e l => cases l with
      | nil => cases h
      | cons f l => cases l with
       | nil => cases h; rfl
       | cons y_ y_ => cases h
theorem cF3 {d : Data} {cd : ClassData} (h : dB9 d = some cd) : d = .cls cd := by
 cases d <;> cases h
 rfl
theorem bQ6 {C N : Addr} (X : K.In h) (e : bE2 K C = some N) : (∃ nm q bs sn sub col dd k0 k1 k2 k3 k5, h.get? C = some (excClassObj nm q C N bs [.type "object"] true sn sub false col dd k0 k1 k2 k3 k5 "object.__new__")) /\ nsOkIn K N = true := by
 refine hide fun G_ g_ => ?_
 rcases Option.bind_eq_some_iff.mp e with ⟨o, ho, e⟩
 rcases Option.bind_eq_some_iff.mp e with ⟨cd, hd, e⟩
 rcases Option.bind_eq_some_iff.mp e with ⟨q, hq, e⟩
 replace hd := cF3 hd
 replace hq := cX0 hq
 rcases o with ⟨oc, dd, od, sl⟩
 rcases q with ⟨k0, k1, k2, k3, k4, k5⟩
 dsimp only at hd hq e
 by_cases hc : (oc == .type "type" && cd.mro == [.ref C, .type "object"] && k4 == some (.builtin "object.__new__") && !cd.hasDel && cd.hasDict && !cd.abstract && nsOkIn K cd.ns) = true
 ·rw [if_pos hc] at e
  cases e
  simp only [Bool.and_eq_true, beq_iff_eq, Bool.not_eq_true'] at hc
  rcases hc with ⟨⟨⟨⟨⟨⟨rfl, hm⟩, rfl⟩, hdel⟩, hdict⟩, hab⟩, hok⟩
  rcases cd with ⟨nm, bs, mro, ns, qn, hd', sn, sub, ab, col, del⟩
  dsimp only at hm hdel hdict hab hok
  subst hm hdel hdict hab hd
  have hsl : sl = #[k0, k1, k2, k3, some (.builtin "object.__new__"), k5] := by
   rcases sl with ⟨l⟩
   have hq : l = _ := hq
   rw [hq]
  subst hsl
  exact g_ ⟨⟨nm, qn, bs, sn, sub, col, dd, k0, k1, k2, k3, k5, X _ _ ho⟩, hok⟩
 ·rw [if_neg hc] at e; cases e
theorem cY0 {N : Addr} {mN : Str -> Option Value} {x : Str} {v : Value} (X : K.In h) (G : h.Ns N mN) (e : nsIn K N x = some (some v)) : mN x = some v := by
 obtain ⟨ob, es, ep, ho, hd, y_, hf⟩ := G
 rw [<- hf x]
 cases q : K.lookup N with
 | none => unfold nsIn at e; rw [q] at e; cases e
 | some o2 =>
  have z := (X _ _ q).symm.trans ho
  cases z
  rcases o2 with ⟨o1, o5, o3, o4⟩
  have hd : o3 = _ := hd
  subst hd
  unfold nsIn at e
  rw [q] at e
  have e : (match es.toList.find? (·.key.isStr x) with | some en => some (some en.val) | none => if es.toList.any (·.refKey) then none else some none) = some (some v) := e
  unfold nsFind findBy
  rw [<- Array.find?_toList]
  cases he : es.toList.find? (·.key.isStr x) with
  | none =>
   rw [he] at e
   have e : (if es.toList.any (·.refKey) then none else some none) = some (some v) := e
   by_cases w : es.toList.any (·.refKey) = true
   ·rw [if_pos w] at e; cases e
   ·rw [if_neg w] at e; cases e
  | some en =>
   rw [he] at e
   have e : some (some en.val) = some (some v) := e
   cases e
theorem cY4 {x : Str} (e : fastLookup "object" x = some none) : typeLookup (.type "object") x = Pure.pure none := by
 rw [typeLookup_type, builtinLookup_eq_fast, e]
theorem aR6 {N : Addr} {D : ClsD} : ∀ {xs : List Str} {j i : Nat} {x : Str}, aF6 P N D j xs = true -> xs[i]? = some x -> nsIn P.K N x = some ((D.meths.lookup (j + i)).map fun k => .ref (P.fa k)) /\ fastLookup "object" x = some none
 | [], _, _, _, _, e => by simp at e
 | y :: ys, j, i, x, h, e => by
  rcases aB (b := aF6 P N D (j + 1) ys) h with ⟨h, h3⟩
  have h2 := (aB h).2
  have h1 := (aB h).1
  cases i with
  | zero =>
   have q : y = x := by simpa using e
   subst q
   refine ⟨beq_iff_eq.mp h1, ?_⟩
   split at h2
   ·assumption
   ·cases h2
  | succ i =>
   have := aR6 (i := i) h3 (by simpa using e)
   rw [show j + (i + 1) = j + 1 + i by omega]
   exact this
theorem dB8 (X : Fx W P A fs n F) {c : Nat} (h : cB5 P c = true) : ∃ D N mN k0, ClsOk W c D N mN /\ D.init = some k0 /\ k0 < P.S.fns.length /\ keepIn P.K (.ref (W.ca c)) = true /\ makesIn P.K (W.ca c) = true /\ findIn P.K (.ref (W.ca c)) "__init__" = some (some (.ref (W.fa k0))) /\ typeIn P.K (.ref (W.fa k0)) = some (.type "function") := by
 refine hide fun G_ g_ => ?_
 unfold cB5 at h
 cases hD : P.S.cls[c]? with
 | none => rw [hD] at h; exact aD h
 | some D =>
  rw [hD] at h
  dsimp only at h
  have h8 := (aB h).2
  have h := (aB h).1
  have h7 := (aB h).2
  have h := (aB h).1
  have h6 := (aB h).2
  have h := (aB h).1
  have h5 := (aB h).2
  have h := (aB h).1
  have h4 := (aB h).2
  have h := (aB h).1
  have h3 := (aB h).2
  have h := (aB h).1
  have h2 := (aB h).2
  have h1 := (aB h).1
  cases hi : D.init with
  | none => rw [hi] at h2; exact aD h2
  | some k0 =>
   rw [hi] at h2
   dsimp only at h2
   have t3 := (aB h2).2
   have h2 := (aB h2).1
   have t2 := (aB h2).2
   have t1 := (aB h2).1
   cases hN : bE2 P.K (P.ca c) with
   | none => rw [hN] at h5; exact aD h5
   | some N =>
    rw [hN] at h5
    dsimp only at h5
    have g4 := (aB h5).2
    have h5 := (aB h5).1
    have g3 := (aB h5).2
    have h5 := (aB h5).1
    have g2 := (aB h5).2
    have g1 := (aB h5).1
    rcases bQ6 X.gl.X hN with ⟨ob, hok⟩
    have ns : W.base.Ns N (W.base.nsMap N) := .of_isNs (isNs_of_in X.gl.X hok)
    have nd : P.S.attrs.Nodup := dC h6
    refine g_ ⟨D, N, _, k0, ⟨X.S ▸ hD, (Bool.not_eq_true' _).mp h1, X.ca ▸ ob, ns, ns_none_of X.gl.X ns (beq_iff_eq.mp g1), ns_none_of X.gl.X ns (beq_iff_eq.mp g2), ns_none_of X.gl.X ns (beq_iff_eq.mp g3), ?_, ?_, ?_, X.S ▸ dC h7, ?_⟩, hi, dC t1, X.ca ▸ h3, X.ca ▸ h4, X.ca ▸ X.fa ▸ beq_iff_eq.mp t2, X.fa ▸ beq_iff_eq.mp t3⟩
    ·intro i x e
     rw [X.S] at e
     rcases aR6 g4 e with ⟨q, y_⟩
     rw [Nat.zero_add] at q
     rw [X.fa]
     cases hl : D.meths.lookup i with
     | none => rw [hl] at q; exact ns_none_of X.gl.X ns q
     | some k => rw [hl] at q; exact cY0 X.gl.X ns q
    ·intro i x e
     rw [X.S] at e
     exact cY4 (aR6 g4 e).2
    ·intro i j x e1 e2
     rw [X.S] at e1 e2
     have l1 := (List.getElem?_eq_some_iff.mp e1).1
     exact (List.getElem?_inj l1 nd).mp (e1.trans e2.symm)
    ·intro i k e
     rw [X.S]
     have : ∀ (l : List (Nat × Nat)), (l.all fun q => decide (q.2 < P.S.fns.length)) = true -> l.lookup i = some k -> k < P.S.fns.length := by
      intro l
      induction l with
      | nil => intro _ q; cases q
      | cons a l ih =>
       intro ha q
       rw [List.all_cons] at ha
       have a2 := (aB ha).2
       have a1 := (aB ha).1
       rcases a with ⟨a0, a3⟩
       rw [List.lookup_cons] at q
       cases z : i == a0 with
       | true => rw [z] at q; cases q; exact dC a1
       | false => rw [z] at q; exact ih a2 q
     exact this _ h8 e
theorem cI9 {k : Nat} {x : Str} (h : bT0 P k x = true) : P.S.attrs[k]? = some x := by
 unfold bT0 at h
 cases q : P.S.attrs[k]? with
 | none => rw [q] at h; exact aD h
 | some y => rw [q] at h; rw [beq_iff_eq.mp h]
theorem cI2 {k : Nat} {x : Str} (h : cP8 P k x = true) : P.S.attrs[k]? = some x /\ ∀ (c : Nat) (D : ClsD), P.S.cls[c]? = some D -> D.meths.lookup k = none := by
 have h2 := (aB h).2
 have h1 := (aB h).1
 exact ⟨cI9 h1, fun c D e => Option.isNone_iff_eq_none.mp (List.all_eq_true.mp h2 D (List.mem_of_getElem? e))⟩
end
end Mini
namespace Mini
open PySem PySem.W PyProof.Rows
section
variable {W : Wd} {P : Px} {fs : List Env} {A : Around} {n : Nat} {F : Fns}
theorem e_isi {vis : List (Option Str)} {env : Env} {x y : Str} {a : Expr} {pos px py : Pos} {t : Ty} {tv : Value} {ca : Lo -> Mn V} {K : Frag} (gl : Gl W K) (e1 : nsIn K mainGlobals x = some none) (b1 : bootBuiltins x = some (.builtin "isinstance")) (n1 : (x == ("__name__" : Str)) = false) (k1 : env.kindOf x = some .globalImplicit) (d1 : (x == ("__debug__" : Str)) = false)
  (hy : ∀ {s : Shared} {io : Io} {m : MH} {r : Lo} {Q : Value -> Shared -> Prop} {E : Value -> Shared -> Prop}, Sit W fs env vis s io m r -> Q tv s -> wpAny (model W.prog W.w) A (eval (.Name y py) env) Q E s)
  (hsim : ∀ {s : Shared} {io : Io} {m : MH} {v : V} {u : Value}, HR W s.heap io m -> VR W s.heap io v u -> Si W [] A fs BV (call (.builtin "isinstance") [u, tv]) s io m (aM4 W.S v t m)) (hs : aS [a] = true) (ha : SiE W A fs env vis (eval a env) ca) :
  SiE W A fs env vis (eval (.Call (.Name x px) [a, .Name y py] [] pos) env) (fun r => bnd (ca r) fun v => bnd (aM4 W.S v t) fun b => ret (.bool b)) := by
 intro s io m r Z hne
 dsimp only at hne ⊢
 have hs' : aS [a, .Name y py] = true := by cases a <;> first | rfl | exact absurd hs Bool.false_ne_true
 refine wpAny_Call_NameR (fI gl Z e1 b1 n1 k1 d1 (Calls.callWith_builtin (cU hs') (cM hs' ?_)))
 refine PyProof.Rows.spliced_more ?_ (eJ hs')
 refine wpAny_mono (ha s io m r Z (Res.bind_ne hne)) (fun u s₁ q => ?_) fun y_ y_ q => q
 rcases q with ⟨v, m₁, io₁, e, st, H, k, sm⟩
 have ee : ∀ f : V -> Mn V, bnd (ca r) f m = f v m₁ := fun f => by show (ca r m).bind _ = _; rw [e]; rfl
 rw [ee] at hne ⊢
 refine PyProof.Rows.spliced_more (hy (Z.step H st) ?_) rfl
 refine PyProof.Rows.spliced_none ?_
 show wpAny (model W.prog W.w) A (call (.builtin "isinstance") [u, tv]) _ _ s₁
 refine wpAny_mono (hsim H k (Res.bind_ne hne)) (fun w s₂ q => ?_) fun y_ y_ q => q
 rcases q with ⟨b, m₂, io₂, e', st2, H2, k2', sm2⟩
 cases k2'
 exact ⟨.bool b, m₂, io₂, by show (aM4 W.S v t m₁).bind _ = _; rw [e']; rfl, st.trans st2, H2, .bool b, sm.trans sm2⟩
theorem ty_of {t : Ty} (h : (!(dP t == "")) = true) : ∀ c, t ≠ .cls c := fun c e => by subst e; exact absurd h Bool.false_ne_true
theorem aA {α : Type} {a : α} {C : Prop} (h : (none : Option α) = some a) : C := by cases h
theorem cO0 {α : Type} {a : α} {l : List α} {C : Prop} (h : [] = a :: l) : C := by cases h
theorem bR0 {n : Nat} {C : Prop} (h : 0 = n + 1) : C := by cases h
theorem aH {α : Type} {o : Option α} {f : α -> Bool} {G : Prop} (h : o.any f = true) (k : ∀ a, o = some a -> f a = true -> G) : G := by
 cases o with
 | none => exact aD h
 | some a => exact k a rfl h
noncomputable def bW6 (c : Const) (e : Expr) : Prop := ∃ k pos, e = .Constant c k pos
theorem bH9 {e : Expr} {c : Const} (h : aR8 e = some c) : bW6 c e :=
 Expr.casesOn (motive_1 := fun e => aR8 e = some c -> bW6 c e) e (fun y_ y_ y_ => aA) (fun y_ y_ y_ => aA) (fun y_ y_ y_ y_ => aA) (fun y_ y_ y_ => aA) (fun y_ y_ y_ y_ => aA) (fun y_ y_ y_ y_ => aA) (fun y_ y_ y_ => aA) (fun y_ y_ y_ => aA) (fun y_ y_ y_ y_ => aA) (fun y_ y_ y_ y_ => aA) (fun y_ y_ y_ y_ y_ => aA) (fun y_ y_ y_ y_ => aA) (fun y_ y_ => aA) (fun y_ y_ => aA) (fun y_ y_ => aA) (fun y_ y_ y_ y_ => aA) (fun y_ y_ y_ y_ => aA) (fun y_ y_ y_ y_ => aA) (fun y_ y_ => aA) (fun y_ y_ y_ h => by cases h; exact ⟨_, _, rfl⟩) (fun y_ y_ y_ => aA) (fun y_ y_ y_ => aA) (fun y_ y_ => aA) (fun y_ y_ => aA) (fun y_ y_ => aA) (fun y_ y_ y_ => aA) (fun y_ y_ y_ y_ => aA) h
theorem bM5 {e : Expr} {c : Const} (h : aR8 e = some c) : ∃ k pos, e = .Constant c k pos := bH9 h
noncomputable def cJ4 (c : Str × Pos) (e : Expr) : Prop := e = .Name c.1 c.2
theorem bL9 {e : Expr} {c : Str × Pos} (h : cS e = some c) : cJ4 c e :=
 Expr.casesOn (motive_1 := fun e => cS e = some c -> cJ4 c e) e (fun y_ y_ y_ => aA) (fun y_ y_ y_ => aA) (fun y_ y_ y_ y_ => aA) (fun y_ y_ y_ => aA) (fun y_ y_ y_ y_ => aA) (fun y_ y_ y_ y_ => aA) (fun y_ y_ y_ => aA) (fun y_ y_ y_ => aA) (fun y_ y_ y_ y_ => aA) (fun y_ y_ y_ y_ => aA) (fun y_ y_ y_ y_ y_ => aA) (fun y_ y_ y_ y_ => aA) (fun y_ y_ => aA) (fun y_ y_ => aA) (fun y_ y_ => aA) (fun y_ y_ y_ y_ => aA) (fun y_ y_ y_ y_ => aA) (fun y_ y_ y_ y_ => aA) (fun y_ y_ => aA) (fun y_ y_ y_ => aA) (fun y_ y_ y_ => aA) (fun y_ y_ y_ => aA) (fun y_ y_ => aA) (fun y_ y_ h => by cases h; rfl) (fun y_ y_ => aA) (fun y_ y_ y_ => aA) (fun y_ y_ y_ y_ => aA) h
theorem dG {e : Expr} {c : Str × Pos} (h : cS e = some c) : e = .Name c.1 c.2 := bL9 h
noncomputable def dD9 (c : Expr × Operator × Expr) (e : Expr) : Prop := ∃ pos, e = .BinOp c.1 c.2.1 c.2.2 pos
theorem bY5 {e : Expr} {c : Expr × Operator × Expr} (h : cW0 e = some c) : dD9 c e :=
 Expr.casesOn (motive_1 := fun e => cW0 e = some c -> dD9 c e) e (fun y_ y_ y_ => aA) (fun y_ y_ y_ => aA) (fun y_ y_ y_ y_ h => by cases h; exact ⟨_, rfl⟩) (fun y_ y_ y_ => aA) (fun y_ y_ y_ y_ => aA) (fun y_ y_ y_ y_ => aA) (fun y_ y_ y_ => aA) (fun y_ y_ y_ => aA) (fun y_ y_ y_ y_ => aA) (fun y_ y_ y_ y_ => aA) (fun y_ y_ y_ y_ y_ => aA) (fun y_ y_ y_ y_ => aA) (fun y_ y_ => aA) (fun y_ y_ => aA) (fun y_ y_ => aA) (fun y_ y_ y_ y_ => aA) (fun y_ y_ y_ y_ => aA) (fun y_ y_ y_ y_ => aA) (fun y_ y_ => aA) (fun y_ y_ y_ => aA) (fun y_ y_ y_ => aA) (fun y_ y_ y_ => aA) (fun y_ y_ => aA) (fun y_ y_ => aA) (fun y_ y_ => aA) (fun y_ y_ y_ => aA) (fun y_ y_ y_ y_ => aA) h
theorem cL2 {e : Expr} {c : Expr × Operator × Expr} (h : cW0 e = some c) : ∃ pos, e = .BinOp c.1 c.2.1 c.2.2 pos := bY5 h
noncomputable def IsUn (c : UnaryOp × Expr) (e : Expr) : Prop := ∃ pos, e = .UnaryOp c.1 c.2 pos
theorem cK6 {e : Expr} {c : UnaryOp × Expr} (h : vUn e = some c) : IsUn c e :=
 Expr.casesOn (motive_1 := fun e => vUn e = some c -> IsUn c e) e (fun y_ y_ y_ => aA) (fun y_ y_ y_ => aA) (fun y_ y_ y_ y_ => aA) (fun y_ y_ y_ h => by cases h; exact ⟨_, rfl⟩) (fun y_ y_ y_ y_ => aA) (fun y_ y_ y_ y_ => aA) (fun y_ y_ y_ => aA) (fun y_ y_ y_ => aA) (fun y_ y_ y_ y_ => aA) (fun y_ y_ y_ y_ => aA) (fun y_ y_ y_ y_ y_ => aA) (fun y_ y_ y_ y_ => aA) (fun y_ y_ => aA) (fun y_ y_ => aA) (fun y_ y_ => aA) (fun y_ y_ y_ y_ => aA) (fun y_ y_ y_ y_ => aA) (fun y_ y_ y_ y_ => aA) (fun y_ y_ => aA) (fun y_ y_ y_ => aA) (fun y_ y_ y_ => aA) (fun y_ y_ y_ => aA) (fun y_ y_ => aA) (fun y_ y_ => aA) (fun y_ y_ => aA) (fun y_ y_ y_ => aA) (fun y_ y_ y_ y_ => aA) h
theorem cF9 {e : Expr} {c : UnaryOp × Expr} (h : vUn e = some c) : ∃ pos, e = .UnaryOp c.1 c.2 pos := cK6 h
noncomputable def cJ9 (c : BoolOp × List Expr) (e : Expr) : Prop := ∃ pos, e = .BoolOp c.1 c.2 pos
theorem bM9 {e : Expr} {c : BoolOp × List Expr} (h : aY6 e = some c) : cJ9 c e :=
 Expr.casesOn (motive_1 := fun e => aY6 e = some c -> cJ9 c e) e (fun y_ y_ y_ h => by cases h; exact ⟨_, rfl⟩) (fun y_ y_ y_ => aA) (fun y_ y_ y_ y_ => aA) (fun y_ y_ y_ => aA) (fun y_ y_ y_ y_ => aA) (fun y_ y_ y_ y_ => aA) (fun y_ y_ y_ => aA) (fun y_ y_ y_ => aA) (fun y_ y_ y_ y_ => aA) (fun y_ y_ y_ y_ => aA) (fun y_ y_ y_ y_ y_ => aA) (fun y_ y_ y_ y_ => aA) (fun y_ y_ => aA) (fun y_ y_ => aA) (fun y_ y_ => aA) (fun y_ y_ y_ y_ => aA) (fun y_ y_ y_ y_ => aA) (fun y_ y_ y_ y_ => aA) (fun y_ y_ => aA) (fun y_ y_ y_ => aA) (fun y_ y_ y_ => aA) (fun y_ y_ y_ => aA) (fun y_ y_ => aA) (fun y_ y_ => aA) (fun y_ y_ => aA) (fun y_ y_ y_ => aA) (fun y_ y_ y_ y_ => aA) h
theorem bC9 {e : Expr} {c : BoolOp × List Expr} (h : aY6 e = some c) : ∃ pos, e = .BoolOp c.1 c.2 pos := bM9 h
noncomputable def dD8 (c : Expr × List CmpOp × List Expr) (e : Expr) : Prop := ∃ pos, e = .Compare c.1 c.2.1 c.2.2 pos
theorem bY4 {e : Expr} {c : Expr × List CmpOp × List Expr} (h : cG0 e = some c) : dD8 c e :=
 Expr.casesOn (motive_1 := fun e => cG0 e = some c -> dD8 c e) e (fun y_ y_ y_ => aA) (fun y_ y_ y_ => aA) (fun y_ y_ y_ y_ => aA) (fun y_ y_ y_ => aA) (fun y_ y_ y_ y_ => aA) (fun y_ y_ y_ y_ => aA) (fun y_ y_ y_ => aA) (fun y_ y_ y_ => aA) (fun y_ y_ y_ y_ => aA) (fun y_ y_ y_ y_ => aA) (fun y_ y_ y_ y_ y_ => aA) (fun y_ y_ y_ y_ => aA) (fun y_ y_ => aA) (fun y_ y_ => aA) (fun y_ y_ => aA) (fun y_ y_ y_ y_ h => by cases h; exact ⟨_, rfl⟩) (fun y_ y_ y_ y_ => aA) (fun y_ y_ y_ y_ => aA) (fun y_ y_ => aA) (fun y_ y_ y_ => aA) (fun y_ y_ y_ => aA) (fun y_ y_ y_ => aA) (fun y_ y_ => aA) (fun y_ y_ => aA) (fun y_ y_ => aA) (fun y_ y_ y_ => aA) (fun y_ y_ y_ y_ => aA) h
theorem bM7 {e : Expr} {c : Expr × List CmpOp × List Expr} (h : cG0 e = some c) : ∃ pos, e = .Compare c.1 c.2.1 c.2.2 pos := bY4 h
noncomputable def IsTup (c : List Expr) (e : Expr) : Prop := ∃ k pos, e = .Tuple c k pos
theorem bX1 {e : Expr} {c : List Expr} (h : bL6 e = some c) : IsTup c e :=
 Expr.casesOn (motive_1 := fun e => bL6 e = some c -> IsTup c e) e (fun y_ y_ y_ => aA) (fun y_ y_ y_ => aA) (fun y_ y_ y_ y_ => aA) (fun y_ y_ y_ => aA) (fun y_ y_ y_ y_ => aA) (fun y_ y_ y_ y_ => aA) (fun y_ y_ y_ => aA) (fun y_ y_ y_ => aA) (fun y_ y_ y_ y_ => aA) (fun y_ y_ y_ y_ => aA) (fun y_ y_ y_ y_ y_ => aA) (fun y_ y_ y_ y_ => aA) (fun y_ y_ => aA) (fun y_ y_ => aA) (fun y_ y_ => aA) (fun y_ y_ y_ y_ => aA) (fun y_ y_ y_ y_ => aA) (fun y_ y_ y_ y_ => aA) (fun y_ y_ => aA) (fun y_ y_ y_ => aA) (fun y_ y_ y_ => aA) (fun y_ y_ y_ => aA) (fun y_ y_ => aA) (fun y_ y_ => aA) (fun y_ y_ => aA) (fun y_ y_ y_ h => by cases h; exact ⟨_, _, rfl⟩) (fun y_ y_ y_ y_ => aA) h
theorem aY4 {e : Expr} {c : List Expr} (h : bL6 e = some c) : ∃ k pos, e = .Tuple c k pos := bX1 h
noncomputable def IsList (c : List Expr) (e : Expr) : Prop := ∃ pos, e = .List c pos
theorem bM0 {e : Expr} {c : List Expr} (h : bM1 e = some c) : IsList c e :=
 Expr.casesOn (motive_1 := fun e => bM1 e = some c -> IsList c e) e (fun y_ y_ y_ => aA) (fun y_ y_ y_ => aA) (fun y_ y_ y_ y_ => aA) (fun y_ y_ y_ => aA) (fun y_ y_ y_ y_ => aA) (fun y_ y_ y_ y_ => aA) (fun y_ y_ y_ => aA) (fun y_ y_ y_ => aA) (fun y_ y_ y_ y_ => aA) (fun y_ y_ y_ y_ => aA) (fun y_ y_ y_ y_ y_ => aA) (fun y_ y_ y_ y_ => aA) (fun y_ y_ => aA) (fun y_ y_ => aA) (fun y_ y_ => aA) (fun y_ y_ y_ y_ => aA) (fun y_ y_ y_ y_ => aA) (fun y_ y_ y_ y_ => aA) (fun y_ y_ => aA) (fun y_ y_ y_ => aA) (fun y_ y_ y_ => aA) (fun y_ y_ y_ => aA) (fun y_ y_ => aA) (fun y_ y_ => aA) (fun y_ y_ h => by cases h; exact ⟨_, rfl⟩) (fun y_ y_ y_ => aA) (fun y_ y_ y_ y_ => aA) h
theorem bX7 {e : Expr} {c : List Expr} (h : bM1 e = some c) : ∃ pos, e = .List c pos := bM0 h
noncomputable def cJ5 (c : List (Option Expr) × List Expr) (e : Expr) : Prop := ∃ pos, e = .Dict c.1 c.2 pos
theorem bM2 {e : Expr} {c : List (Option Expr) × List Expr} (h : bM3 e = some c) : cJ5 c e :=
 Expr.casesOn (motive_1 := fun e => bM3 e = some c -> cJ5 c e) e (fun y_ y_ y_ => aA) (fun y_ y_ y_ => aA) (fun y_ y_ y_ y_ => aA) (fun y_ y_ y_ => aA) (fun y_ y_ y_ y_ => aA) (fun y_ y_ y_ y_ => aA) (fun y_ y_ y_ h => by cases h; exact ⟨_, rfl⟩) (fun y_ y_ y_ => aA) (fun y_ y_ y_ y_ => aA) (fun y_ y_ y_ y_ => aA) (fun y_ y_ y_ y_ y_ => aA) (fun y_ y_ y_ y_ => aA) (fun y_ y_ => aA) (fun y_ y_ => aA) (fun y_ y_ => aA) (fun y_ y_ y_ y_ => aA) (fun y_ y_ y_ y_ => aA) (fun y_ y_ y_ y_ => aA) (fun y_ y_ => aA) (fun y_ y_ y_ => aA) (fun y_ y_ y_ => aA) (fun y_ y_ y_ => aA) (fun y_ y_ => aA) (fun y_ y_ => aA) (fun y_ y_ => aA) (fun y_ y_ y_ => aA) (fun y_ y_ y_ y_ => aA) h
theorem bY1 {e : Expr} {c : List (Option Expr) × List Expr} (h : bM3 e = some c) : ∃ pos, e = .Dict c.1 c.2 pos := bM2 h
noncomputable def dD3 (c : Expr × Expr) (e : Expr) : Prop := ∃ pos, e = .Subscript c.1 c.2 pos
theorem bX2 {e : Expr} {c : Expr × Expr} (h : bX3 e = some c) : dD3 c e :=
 Expr.casesOn (motive_1 := fun e => bX3 e = some c -> dD3 c e) e (fun y_ y_ y_ => aA) (fun y_ y_ y_ => aA) (fun y_ y_ y_ y_ => aA) (fun y_ y_ y_ => aA) (fun y_ y_ y_ y_ => aA) (fun y_ y_ y_ y_ => aA) (fun y_ y_ y_ => aA) (fun y_ y_ y_ => aA) (fun y_ y_ y_ y_ => aA) (fun y_ y_ y_ y_ => aA) (fun y_ y_ y_ y_ y_ => aA) (fun y_ y_ y_ y_ => aA) (fun y_ y_ => aA) (fun y_ y_ => aA) (fun y_ y_ => aA) (fun y_ y_ y_ y_ => aA) (fun y_ y_ y_ y_ => aA) (fun y_ y_ y_ y_ => aA) (fun y_ y_ => aA) (fun y_ y_ y_ => aA) (fun y_ y_ y_ => aA) (fun y_ y_ y_ h => by cases h; exact ⟨_, rfl⟩) (fun y_ y_ => aA) (fun y_ y_ => aA) (fun y_ y_ => aA) (fun y_ y_ y_ => aA) (fun y_ y_ y_ y_ => aA) h
theorem aY5 {e : Expr} {c : Expr × Expr} (h : bX3 e = some c) : ∃ pos, e = .Subscript c.1 c.2 pos := bX2 h
noncomputable def bW5 (c : Option Expr × Option Expr × Option Expr) (e : Expr) : Prop := ∃ pos, e = .Slice c.1 c.2.1 c.2.2 pos
theorem bH8 {e : Expr} {c : Option Expr × Option Expr × Option Expr} (h : aR7 e = some c) : bW5 c e :=
 Expr.casesOn (motive_1 := fun e => aR7 e = some c -> bW5 c e) e (fun y_ y_ y_ => aA) (fun y_ y_ y_ => aA) (fun y_ y_ y_ y_ => aA) (fun y_ y_ y_ => aA) (fun y_ y_ y_ y_ => aA) (fun y_ y_ y_ y_ => aA) (fun y_ y_ y_ => aA) (fun y_ y_ y_ => aA) (fun y_ y_ y_ y_ => aA) (fun y_ y_ y_ y_ => aA) (fun y_ y_ y_ y_ y_ => aA) (fun y_ y_ y_ y_ => aA) (fun y_ y_ => aA) (fun y_ y_ => aA) (fun y_ y_ => aA) (fun y_ y_ y_ y_ => aA) (fun y_ y_ y_ y_ => aA) (fun y_ y_ y_ y_ => aA) (fun y_ y_ => aA) (fun y_ y_ y_ => aA) (fun y_ y_ y_ => aA) (fun y_ y_ y_ => aA) (fun y_ y_ => aA) (fun y_ y_ => aA) (fun y_ y_ => aA) (fun y_ y_ y_ => aA) (fun y_ y_ y_ y_ h => by cases h; exact ⟨_, rfl⟩) h
theorem bL7 {e : Expr} {c : Option Expr × Option Expr × Option Expr} (h : aR7 e = some c) : ∃ pos, e = .Slice c.1 c.2.1 c.2.2 pos := bH8 h
noncomputable def cJ8 (c : Expr × List Expr × List Keyword × Pos) (e : Expr) : Prop := e = .Call c.1 c.2.1 c.2.2.1 c.2.2.2
theorem bM8 {e : Expr} {c : Expr × List Expr × List Keyword × Pos} (h : aN8 e = some c) : cJ8 c e :=
 Expr.casesOn (motive_1 := fun e => aN8 e = some c -> cJ8 c e) e (fun y_ y_ y_ => aA) (fun y_ y_ y_ => aA) (fun y_ y_ y_ y_ => aA) (fun y_ y_ y_ => aA) (fun y_ y_ y_ y_ => aA) (fun y_ y_ y_ y_ => aA) (fun y_ y_ y_ => aA) (fun y_ y_ y_ => aA) (fun y_ y_ y_ y_ => aA) (fun y_ y_ y_ y_ => aA) (fun y_ y_ y_ y_ y_ => aA) (fun y_ y_ y_ y_ => aA) (fun y_ y_ => aA) (fun y_ y_ => aA) (fun y_ y_ => aA) (fun y_ y_ y_ y_ => aA) (fun y_ y_ y_ y_ h => by cases h; rfl) (fun y_ y_ y_ y_ => aA) (fun y_ y_ => aA) (fun y_ y_ y_ => aA) (fun y_ y_ y_ => aA) (fun y_ y_ y_ => aA) (fun y_ y_ => aA) (fun y_ y_ => aA) (fun y_ y_ => aA) (fun y_ y_ y_ => aA) (fun y_ y_ y_ y_ => aA) h
theorem aN7 {e : Expr} {c : Expr × List Expr × List Keyword × Pos} (h : aN8 e = some c) : e = .Call c.1 c.2.1 c.2.2.1 c.2.2.2 := bM8 h
noncomputable def cK0 (c : Expr × Str × Pos) (e : Expr) : Prop := e = .Attribute c.1 c.2.1 c.2.2
theorem bN0 {e : Expr} {c : Expr × Str × Pos} (h : aG1 e = some c) : cK0 c e :=
 Expr.casesOn (motive_1 := fun e => aG1 e = some c -> cK0 c e) e (fun y_ y_ y_ => aA) (fun y_ y_ y_ => aA) (fun y_ y_ y_ y_ => aA) (fun y_ y_ y_ => aA) (fun y_ y_ y_ y_ => aA) (fun y_ y_ y_ y_ => aA) (fun y_ y_ y_ => aA) (fun y_ y_ y_ => aA) (fun y_ y_ y_ y_ => aA) (fun y_ y_ y_ y_ => aA) (fun y_ y_ y_ y_ y_ => aA) (fun y_ y_ y_ y_ => aA) (fun y_ y_ => aA) (fun y_ y_ => aA) (fun y_ y_ => aA) (fun y_ y_ y_ y_ => aA) (fun y_ y_ y_ y_ => aA) (fun y_ y_ y_ y_ => aA) (fun y_ y_ => aA) (fun y_ y_ y_ => aA) (fun y_ y_ y_ h => by cases h; rfl) (fun y_ y_ y_ => aA) (fun y_ y_ => aA) (fun y_ y_ => aA) (fun y_ y_ => aA) (fun y_ y_ y_ => aA) (fun y_ y_ y_ y_ => aA) h
theorem aE7 {e : Expr} {c : Expr × Str × Pos} (h : aG1 e = some c) : e = .Attribute c.1 c.2.1 c.2.2 := bN0 h
noncomputable def cJ7 (c : Expr × List Comprehension × Scope) (e : Expr) : Prop := ∃ pos, e = .ListComp c.1 c.2.1 c.2.2 pos
theorem bM6 {e : Expr} {c : Expr × List Comprehension × Scope} (h : aR9 e = some c) : cJ7 c e :=
 Expr.casesOn (motive_1 := fun e => aR9 e = some c -> cJ7 c e) e (fun y_ y_ y_ => aA) (fun y_ y_ y_ => aA) (fun y_ y_ y_ y_ => aA) (fun y_ y_ y_ => aA) (fun y_ y_ y_ y_ => aA) (fun y_ y_ y_ y_ => aA) (fun y_ y_ y_ => aA) (fun y_ y_ y_ => aA) (fun y_ y_ y_ y_ h => by cases h; exact ⟨_, rfl⟩) (fun y_ y_ y_ y_ => aA) (fun y_ y_ y_ y_ y_ => aA) (fun y_ y_ y_ y_ => aA) (fun y_ y_ => aA) (fun y_ y_ => aA) (fun y_ y_ => aA) (fun y_ y_ y_ y_ => aA) (fun y_ y_ y_ y_ => aA) (fun y_ y_ y_ y_ => aA) (fun y_ y_ => aA) (fun y_ y_ y_ => aA) (fun y_ y_ y_ => aA) (fun y_ y_ y_ => aA) (fun y_ y_ => aA) (fun y_ y_ => aA) (fun y_ y_ => aA) (fun y_ y_ y_ => aA) (fun y_ y_ y_ y_ => aA) h
theorem bC8 {e : Expr} {c : Expr × List Comprehension × Scope} (h : aR9 e = some c) : ∃ pos, e = .ListComp c.1 c.2.1 c.2.2 pos := bM6 h
theorem aG0 {α : Type} {l : List α} {x : α} (h : bW7 l = some x) : l = [x] := by
 cases l with
 | nil => exact aA h
 | cons y l => cases l with
  | nil => cases h; rfl
  | cons y_ y_ => exact aA h
theorem cK7 {α : Type} {l : List α} {x : α × α} (h : vTwo l = some x) : l = [x.1, x.2] := by
 cases l with
 | nil => exact aA h
 | cons y l => cases l with
  | nil => exact aA h
  | cons z l => cases l with
   | nil => cases h; rfl
   | cons y_ y_ => exact aA h
theorem b7 {e : Expr} {c : Str × List Expr} (h : bT e = some c) : ∃ p pos, e = .Call (.Name c.1 p) c.2 [] pos := by
 unfold bT at h
 cases q : aN8 e with
 | none => rw [q] at h; exact aA h
 | some a =>
  rw [q] at h
  have h' : (if a.2.2.1.isEmpty then (cS a.1).map fun x => (x.1, a.2.1) else none) = some c := h
  by_cases k : a.2.2.1.isEmpty = true
  ·rw [if_pos k] at h'
   cases r : cS a.1 with
   | none => rw [r] at h'; exact aA h'
   | some x =>
    rw [r] at h'
    cases h'
    refine ⟨x.2, a.2.2.2, ?_⟩
    rw [aN7 q, dG r, List.isEmpty_iff.mp k]
  ·rw [if_neg k] at h'; exact aA h'
theorem bF1 {op : UnaryOp} (h : cD1 op = true) : op = .Not := by cases op <;> first | rfl | (exact aD h)
theorem aB6 {α : Type} {l : List α} (h : (!l.isEmpty) = true) : l ≠ [] := by intro q; rw [q] at h; exact aD h
theorem eQ {α : Type} {l : List α} (h : l.isEmpty = true) : l = [] := List.isEmpty_iff.mp h
theorem aP4 {Γ : Cx} {es : List Expr} (h : mEs P Γ [] es = true) : es = [] := eQ h
theorem cE {Γ : Cx} {c : CE} {cs : List CE} {es : List Expr} (h : mEs P Γ (c :: cs) es = true) : ∃ e es', es = e :: es' /\ mE P Γ c e = true /\ mEs P Γ cs es' = true := by
 cases es with
 | nil => exact aD h
 | cons e es => have := aB (a := mE P Γ c e) (b := mEs P Γ cs es) h; exact ⟨e, es, rfl, this.1, this.2⟩
theorem bE7 {Γ : Cx} {es : List Expr} (h : cC5 P Γ [] es = true) : es = [] := eQ h
theorem aU1 {Γ : Cx} {c : CB} {cs : List CB} {es : List Expr} (h : cC5 P Γ (c :: cs) es = true) : ∃ e es', es = e :: es' /\ mB P Γ c e = true /\ cC5 P Γ cs es' = true := by
 cases es with
 | nil => exact aD h
 | cons e es => have := aB (a := mB P Γ c e) (b := cC5 P Γ cs es) h; exact ⟨e, es, rfl, this.1, this.2⟩
theorem aL4 {Γ : Cx} {env : Env} {k : IK} {iter : Expr} {src : List CE} (X : Fx W P A fs n F) (hsc : env.scope = Γ.sc) (h : mSrc P Γ (fun es => mEs P Γ src es) k iter = true)
  (one : ∀ e c, src = [c] -> mE P Γ c e = true -> SiE W A fs env Γ.vis (eval e env) (fun r => ev P.S F c r))
  (all : ∀ es pos, aS es = true -> mEs P Γ src es = true -> SiL W A fs env Γ.vis (spliced (backTo pos (starEach es env))) (fun r => evs P.S F src r)) :
  SiSrc W A fs env Γ.vis iter (fun r => bnd (evs P.S F src r) (fC k)) := by
 rcases aB h with ⟨hl, h⟩
 have hh := X.hh hl
 cases k with
 | expr =>
  have h1 : mEs P Γ src [iter] = true := h
  cases src with
  | nil => exact aD h1
  | cons c cs =>
   rcases cE h1 with ⟨e, es', he, hm, hr⟩
   cases he
   cases cs with
   | cons c' cs => exact aD hr
   | nil =>
    have := bZ7 X.gl.ok hh (one _ c rfl hm)
    intro s io m r Z
    have eq : bnd (evs P.S F [c] r) (fC .expr) = bnd (ev P.S F c r) eA := by
     funext m
     show Res.bind (Res.bind (ev P.S F c r m) _) _ = Res.bind (ev P.S F c r m) _
     cases ev P.S F c r m <;> rfl
    dsimp only
    rw [eq]
    exact this s io m r Z
 | range =>
  refine aH (o := bT iter) h fun q hq h => ?_
  rcases b7 hq with ⟨px, pos, rfl⟩
  have h3 := (aB h).2
  have h12 := (aB h).1
  have h2 := (aB h12).2
  have h1 := (aB h12).1
  rcases aG2 hsc h1 with ⟨a, b, c, d, e⟩
  exact bO4 hh X.gl d e c a b h2 (all q.2 pos h2 h3)
 | enum => exact aD h
theorem bZ9 {Γ : Cx} {env : Env} {k : IK} {i : Nat} {iter tg : Expr} {src : List CE} (X : Fx W P A fs n F) (hsc : env.scope = Γ.sc) (h : cC4 P Γ (fun es => mEs P Γ src es) k (.one i) iter = true)
  (one : ∀ e c, src = [c] -> mE P Γ c e = true -> SiE W A fs env Γ.vis (eval e env) (fun r => ev P.S F c r))
  (all : ∀ es pos, aS es = true -> mEs P Γ src es = true -> SiL W A fs env Γ.vis (spliced (backTo pos (starEach es env))) (fun r => evs P.S F src r)) :
  bC3 W A fs env Γ.vis tg iter (fun r => bnd (evs P.S F src r) (fC k)) := by
 cases k with
 | enum => exact aD (aB (aB h).2).1
 | expr => exact (aL4 X hsc (k := .expr) h one all).forF
 | range => exact (aL4 X hsc (k := .range) h one all).forF
theorem bO5 {Γ : Cx} {env : Env} {k : IK} {is : List Nat} {iter : Expr} {ts : List Expr} {x1 : Nat} {tp : Pos} {src : List CE} (X : Fx W P A fs n F) (hsc : env.scope = Γ.sc) (h : cC4 P Γ (fun es => mEs P Γ src es) k (.many is) iter = true)
  (one : ∀ e c, src = [c] -> mE P Γ c e = true -> SiE W A fs env Γ.vis (eval e env) (fun r => ev P.S F c r))
  (all : ∀ es pos, aS es = true -> mEs P Γ src es = true -> SiL W A fs env Γ.vis (spliced (backTo pos (starEach es env))) (fun r => evs P.S F src r)) :
  bC3 W A fs env Γ.vis (.Tuple ts x1 tp) iter (fun r => bnd (evs P.S F src r) (fC k)) := by
 cases k with
 | enum =>
  have hh := X.hh (aB h).1
  have h9 : (P.loud && (true && (bT iter).any fun q => aI0 P Γ q.1 "enumerate" && aS q.2 && mEs P Γ src q.2)) = true := h
  have h8 := (aB (aB h9).2).2
  clear h h9
  refine aH (o := bT iter) h8 fun q hq h => ?_
  rcases b7 hq with ⟨px, pos, rfl⟩
  have h3 := (aB h).2
  have h12 := (aB h).1
  have h2 := (aB h12).2
  have h1 := (aB h12).1
  rcases aG2 hsc h1 with ⟨a, b, c, d, e⟩
  exact bZ8 hh X.gl d e c a b h2 (all q.2 pos h2 h3)
 | expr => exact (aL4 X hsc (k := .expr) h one all).forF
 | range => exact (aL4 X hsc (k := .range) h one all).forF
theorem bO6 {Γ : Cx} {k : IK} {t : CT} {iter : Expr} {f : List Expr -> Bool} (h : cC4 P Γ f k t iter = true) : P.loud = true := by
 cases k <;> exact (aB h).1
theorem cI3 {Γ : Cx} {ca : CE} {cops ops : List CmpOp} {cbs : List CE} {a : Expr} {bs : List Expr} {pos : Pos} (h : mE P Γ (.cmp ca cops cbs) (.Compare a ops bs pos) = true) : cops = ops /\ mE P Γ ca a = true /\ mEs P Γ cbs bs = true /\ cops.length = cbs.length /\ cbs ≠ [] /\ bs.all aP0 = true := by
 have h : (decide (cops = ops) && mE P Γ ca a && mEs P Γ cbs bs && decide (cops.length = cbs.length) && !cbs.isEmpty && bs.all aP0) = true := h
 have h5 := (aB h).2
 have h := (aB h).1
 have h4 := (aB h).2
 have h := (aB h).1
 have h3 := (aB h).2
 have h := (aB h).1
 have h2 := (aB h).2
 have h := (aB h).1
 have h1 := (aB h).2
 have h0 := (aB h).1
 exact ⟨dC h0, h1, h2, dC h3, aB6 h4, h5⟩
theorem cV4 {Γ : Cx} {c : CE} {e : Expr} (h : mB P Γ (.val c) e = true) : (aT0 e = true /\ mE P Γ c e = true) \/ ∃ a ops bs pos, e = .Compare a ops bs pos /\ mE P Γ c e = true := by
 rcases aB (a := aT0 e || (cG0 e).isSome) (b := mE P Γ c e) h with ⟨h1, h2⟩
 cases q : aT0 e with
 | true => exact .inl ⟨rfl, h2⟩
 | false =>
  rw [q] at h1
  cases r : cG0 e with
  | none => rw [r] at h1; exact aD h1
  | some x => rcases bM7 r with ⟨pos, he⟩; exact .inr ⟨_, _, _, _, he, h2⟩
theorem cB4 {c : CE} (h : bI7 c = true) : (fun r => ev P.S F c r) = fun y_ => ret V.none := by
 cases c with
 | cnst v => cases v <;> first | rfl | (exact aD h)
 | _ => exact aD h
theorem o_of {Γ : Cx} {env : Env} {c : CE} {o : Option Expr} (h : o.elim (bI7 c) (fun l => mE P Γ c l) = true) (k : ∀ l, mE P Γ c l = true -> SiE W A fs env Γ.vis (eval l env) (fun r => ev P.S F c r)) : SiO W A fs env Γ.vis o (fun r => ev P.S F c r) := by
 cases o with
 | some l => exact cX8 (k l h)
 | none =>
  have hc : bI7 c = true := h
  have : (fun r => ev P.S F c r) = fun y_ => ret V.none := by
   exact cB4 hc
  rw [this]
  exact cX9
theorem e_loc {Γ : Cx} {env : Env} {i : Nat} {x : Str} {pos : Pos} (hsc : env.scope = Γ.sc) (h : cZ4 Γ i x = true) : SiE W A fs env Γ.vis (eval (.Name x pos) env) (fun r => match r[i]? with | some (some v) => ret v | _ => bad) := by
 have h4 := (aB h).2
 have h := (aB h).1
 have h3 := (aB h).2
 have h := (aB h).1
 have h2 := (aB h).2
 have h1 := (aB h).1
 refine e_var ?_ ?_ (Bool.not_eq_true' _ ▸ h3) (Bool.not_eq_true' _ ▸ h4)
 ·exact eq_of_beq h1
 ·show env.scope.names.lookup x = _ \/ env.scope.names.lookup x = _ \/ env.scope.names.lookup x = _
  rw [hsc]
  rcases Bool.or_eq_true_iff.mp h2 with q | q
  ·rcases Bool.or_eq_true_iff.mp q with q | q
   ·exact .inl (eq_of_beq q)
   ·exact .inr (.inl (eq_of_beq q))
  ·exact .inr (.inr (eq_of_beq q))
theorem e_bi {Γ : Cx} {env : Env} {b : Bi} {x : Str} {es : List Expr} {p pos : Pos} {cl : Lo -> Mn (List V)} (X : Fx W P A fs n F) (hsc : env.scope = Γ.sc) (hl0 : P.loud = true) (h1 : cU3 b = true) (h2 : isBi P Γ b x = true) (h3 : aS es = true)
  (hl : ∀ pos, SiL W A fs env Γ.vis (spliced (backTo pos (starEach es env))) cl) : SiE W A fs env Γ.vis (eval (.Call (.Name x p) es [] pos) env) (fun r => bnd (cl r) fun vs => biV b vs) := by
 have hf := dC4 (W := W) (A := A) (fs := fs) X.gl.ok (X.hh hl0) h1
 have h2 : (match dC5 b with | .builtin id => bS9 P Γ x id | .type id => aI0 P Γ x id | _ => false) = true := h2
 generalize dC5 b = fv at hf h2
 cases fv with
 | builtin id =>
  have g := bV3 hsc (id := id) h2
  exact cS5 X.gl g.2.2.2.1 g.2.2.2.2 g.2.2.1 g.1 g.2.1 h3 (hl _) hf
 | type id =>
  have g := aG2 hsc (id := id) h2
  exact cS3 X.gl g.2.2.2.1 g.2.2.2.2 g.2.2.1 g.1 g.2.1 h3 (hl _) hf
 | _ => exact aD h2
theorem cV3 {v : Value} {l : Lt} {h : Heap} {io : Io} (k : cZ2 v l = true) : VR W h io l.val v := by
 cases l with
 | int i => cases v <;> first | (exact aD k) | (rw [show i = _ from eq_of_beq k]; exact .int _ _)
 | str x => cases v <;> first | (exact aD k) | (rcases aB k with ⟨k1, k2⟩; rw [show x = _ from eq_of_beq k1] at k2 ⊢; exact .str _ _ k2)
 | bool b => cases v <;> first | (exact aD k) | (rw [show b = _ from eq_of_beq k]; exact .bool _)
 | none => cases v <;> first | (exact aD k) | exact .none
theorem dB3 {Γ : Cx} {env : Env} {i : Nat} {x : Str} {pos : Pos} (X : Fx W P A fs n F) (hsc : env.scope = Γ.sc) (h : cZ6 P Γ i x = true) : SiE W A fs env Γ.vis (eval (.Name x pos) env) (fun r => ev P.S F (.glob i) r) := by
 have h2 := (aB h).2
 have h1 := (aB h).1
 rcases aV3 hsc h1 with ⟨a, b, y_⟩
 refine aH h2 fun o e1 h3 => ?_
 refine aH h3 fun v e2 h4 => ?_
 refine aH h4 fun p e3 h5 => ?_
 rw [e2] at e1
 intro s io m r Z hne
 refine bR4 X.gl Z e1 a b ⟨p.2.val, m, io, ?_, .refl, Z.H, cV3 h5, .refl _⟩
 show (match P.S.globs[i]? with | some p => ret p.2.val | Option.none => bad) m = _
 rw [e3]; rfl
theorem bN3 {ops : List CmpOp} {c c' : CE} {cs : List CE} (h : ops.length = (c :: c' :: cs).length) : ∃ op op' ops', ops = op :: op' :: ops' := by
 cases ops with
 | nil => exact bR0 h
 | cons op ops => cases ops with
  | nil => exact bR0 (Nat.succ.inj h)
  | cons op' ops => exact ⟨op, op', ops, rfl⟩
theorem cI1 {g : Comprehension} {x : Str × Pos} (hx : cS g.target = some x) (h0 : (g.is_async == 0) = true) : g = ⟨.Name x.1 x.2, g.iter, g.ifs, 0⟩ := by
 cases g
 rw [<- dG hx, <- beq_iff_eq.mp h0]
theorem cF1 {Γ : Cx} {env : Env} {e0 iter : Expr} {ifs' : List Expr} {scope : Scope} {px pos : Pos} {x : Str} {src : List CE} {k : IK} {ifs : List CB} {elt : CE} (ck : CompOk scope env Γ.vis (aO5 scope x Γ.vis) 1) (hs : ∀ y, foldedSetIterable iter env y = Pure.pure y)
  (hsrc : SiSrc W A fs env Γ.vis iter (fun r => bnd (evs P.S F src r) (fC k))) (hifs : ∀ cl C, SiB W A fs (compEnvC scope cl C env) (aO5 scope x Γ.vis) (aA3 ifs' (compEnvC scope cl C env) true) (fun r => bK9 P.S F ifs r))
  (helt : ∀ cl C, SiE W A fs (compEnvC scope cl C env) (aO5 scope x Γ.vis) (eval e0 (compEnvC scope cl C env)) (fun r => ev P.S F elt r)) :
  SiE W A fs env Γ.vis (eval (.ListComp e0 [⟨.Name x px, iter, ifs', 0⟩] scope pos) env) (fun r => ev P.S F (.comp elt (.one Γ.vis.length) 1 k src ifs) r) := by
 have := dB4 (pos := pos) (px := px) (j := Γ.vis.length) ck hs (aG9 scope x Γ.vis) (Nat.le_refl _) hsrc hifs helt
 intro s io m r Z
 have eq : ev P.S F (.comp elt (.one Γ.vis.length) 1 k src ifs) r = bnd (bnd (evs P.S F src r) (fC k)) fun p => bnd (bG p.2 (eI Γ.vis.length (r ++ List.replicate 1 none) (fun r => bK9 P.S F ifs r) (fun r => ev P.S F elt r)) p.1) fun l => if l.length <= lid then alloc (.list l) else bad := by
  rw [bU]; rfl
 dsimp only
 rw [eq]
 exact this s io m r Z
theorem cP4 (X : Fx W P A fs n F) {Γ : Cx} {env : Env} {x y : Str} {a : Expr} {pos px py : Pos} {t : Ty} {ca : Lo -> Mn V} (hsc : env.scope = Γ.sc) (e1 : nsIn P.K mainGlobals x = some none) (b1 : bootBuiltins x = some (.builtin "isinstance")) (n1 : (x == ("__name__" : Str)) = false) (k1 : env.kindOf x = some .globalImplicit) (d1 : (x == ("__debug__" : Str)) = false)
  (ht : isTy P Γ t y = true) (hs : aS [a] = true) (ha : SiE W A fs env Γ.vis (eval a env) ca) : SiE W A fs env Γ.vis (eval (.Call (.Name x px) [a, .Name y py] [] pos) env) (fun r => bnd (ca r) fun v => bnd (aM4 P.S v t) fun b => ret (.bool b)) := by
 rw [<- X.S]
 have plain : aI0 P Γ y (dP t) = true -> (!(dP t == "")) = true -> SiE W A fs env Γ.vis (eval (.Call (.Name x px) [a, .Name y py] [] pos) env) (fun r => bnd (ca r) fun v => bnd (aM4 W.S v t) fun b => ret (.bool b)) := fun h2 h3 => by
  rcases aG2 hsc h2 with ⟨a2, b2, c2, d2, e2⟩
  exact e_isi X.gl e1 b1 n1 k1 d1 (fun Z q => fI X.gl Z d2 e2 c2 a2 b2 q) (fun H k => cP3 H (ty_of h3) k) hs ha
 cases t with
 | cls c => exact aD ht
 | _ => exact plain (aB ht).1 (aB ht).2
theorem cO2 (X : Fx W P A fs n F) {Γ : Cx} {env : Env} {c : Nat} {x : Str} {es : List Expr} {p pos : Pos} {cl : Lo -> Mn (List V)} (hsc : env.scope = Γ.sc) (h1 : P.ok.isNone = true) (h2 : cP6 P Γ c x = true) (h3 : cB5 P c = true) (h4 : aS es = true) (hl : SiL W A fs env Γ.vis (spliced (backTo pos (starEach es env))) cl) :
  SiE W A fs env Γ.vis (eval (.Call (.Name x p) es [] pos) env) (fun r => bnd (cl r) fun vs => cO3 P.S F c vs) := by
 rcases dB8 X h3 with ⟨D, N, mN, k0, C, c1, c2, c3, c4, c5, c6⟩
 rcases cX7 hsc h2 with ⟨a, b, e⟩
 have := e_new (F := F) (p := p) X.gl (X.ca.symm ▸ e) a b h4 C c1 c3 c4 c5 c6 (X.new (Option.isNone_iff_eq_none.mp h1) k0 c2) hl
 rw [X.S] at this
 exact this
theorem cC0 (X : Fx W P A fs n F) {Γ : Cx} {env : Env} {k : Nat} {o : Expr} {x : Str} {es : List Expr} {apos pos : Pos} {co : Lo -> Mn V} {cl : Lo -> Mn (List V)} (h1 : P.ok.isNone = true) (h2 : bT0 P k x = true) (h3 : eP o = true) (h4 : aS es = true) (h5 : es.length < 29) (h6 : (apos.endLine == pos.line) = true) (ho : SiE W A fs env Γ.vis (eval o env) co) (hl : SiL W A fs env Γ.vis (spliced (backTo pos (starEach es env))) cl) :
  SiE W A fs env Γ.vis (eval (.Call (.Attribute o x apos) es [] pos) env) (fun r => bnd (co r) fun v => bnd (fE P.S k v) fun j => bnd (cl r) fun vs => F j (v :: vs)) := by
 have hn := Option.isNone_iff_eq_none.mp h1
 have := dB1 (F := F) (apos := apos) X.gl h3 h4 h5 h6 (X.S.symm ▸ cI9 h2) (fun j hj => X.fa.symm ▸ X.objs hn j (X.S ▸ hj)) (fun j y_ => X.calls j (by unfold Px.can; rw [hn])) ho hl
 rw [X.S] at this
 exact this
mutual
theorem evE (X : Fx W P A fs n F) : ∀ (c : CE) (Γ : Cx) (env : Env) (e : Expr), env.scope = Γ.sc -> mE P Γ c e = true -> SiE W A fs env Γ.vis (eval e env) (fun r => ev P.S F c r)
 | .cnst v, Γ, env, e, hsc, h => by
  refine aH (o := aR8 e) h fun q hq h => ?_
  rcases bM5 hq with ⟨y_, y_, rfl⟩
  exact cS2 (by cases v <;> cases q <;> exact h)
 | .var i, Γ, env, e, hsc, h => by
  refine aH (o := cS e) h fun q hq h => ?_
  rw [dG hq]
  exact e_loc hsc h
 | .glob i, Γ, env, e, hsc, h => by
  refine aH (o := cS e) h fun q hq h => ?_
  rw [dG hq]
  exact dB3 X hsc h
 | .fnv _, _, _, _, _, h => aD h
 | .bin op a b, Γ, env, e, hsc, h => by
  refine aH (o := cW0 e) h fun q hq h => ?_
  rcases cL2 hq with ⟨y_, rfl⟩
  have h2 := (aB h).2
  have h := (aB h).1
  have h1 := (aB h).2
  have h0 := (aB h).1
  rw [<- dC h0]
  exact e_bin (evE X a Γ env _ hsc h1) (evE X b Γ env _ hsc h2)
 | .neg _, _, _, _, _, h => aD h
 | .not a, Γ, env, e, hsc, h => by
  refine aH (o := vUn e) h fun q hq h => ?_
  rcases cF9 hq with ⟨y_, rfl⟩
  have h1 := (aB h).2
  have h0 := (aB h).1
  rw [bF1 h0]
  exact e_not (evE X a Γ env _ hsc h1)
 | .boolop c as, Γ, env, e, hsc, h => by
  refine aH (o := aY6 e) h fun q hq h => ?_
  rcases bC9 hq with ⟨y_, rfl⟩
  have h3 := (aB h).2
  have h := (aB h).1
  have h2 := (aB h).2
  have h1 := (aB h).1
  exact evBo X as Γ env _ _ _ _ hsc h1 h2 (aB6 h3)
 | .cmp a ops bs, Γ, env, e, hsc, h => by
  have h0 := h
  refine aH (o := cG0 e) h fun q hq y_ => ?_
  rcases bM7 hq with ⟨pos, rfl⟩
  rcases cI3 h0 with ⟨h0, h1, h2, h3, h4, h5⟩
  rw [<- h0]
  exact e_cmp (evE X a Γ env _ hsc h1) (evCm X bs Γ env _ _ _ hsc h3 h4 h2 h5)
 | .ite _ _ _, _, _, _, _, h => aD h
 | .tup as, Γ, env, e, hsc, h => by
  refine aH (o := bL6 e) h fun q hq h => ?_
  rcases aY4 hq with ⟨y_, y_, rfl⟩
  have h3 := (aB h).2
  have h := (aB h).1
  have h2 := (aB h).2
  have h1 := (aB h).1
  exact e_tup (evL X as Γ env _ _ hsc h2 h1) fun r m vs m' q => by rw [bB7 q]; exact Nat.le_trans (dC h3) (by decide)
 | .list as, Γ, env, e, hsc, h => by
  refine aH (o := bM1 e) h fun q hq h => ?_
  rcases bX7 hq with ⟨y_, rfl⟩
  have h3 := (aB h).2
  have h := (aB h).1
  have h2 := (aB h).2
  have h1 := (aB h).1
  exact dB2 (evL X as Γ env _ _ hsc h2 h1) fun r m vs m' q => by rw [bB7 q]; exact Nat.le_trans (dC h3) (by decide)
 | .dict ks vs, Γ, env, e, hsc, h => by
  refine aH (o := bM3 e) h fun q hq h => ?_
  rcases bY1 hq with ⟨y_, rfl⟩
  cases ks with
  | nil =>
   have h : (vs.isEmpty && q.1.isEmpty && q.2.isEmpty) = true := h
   rw [eQ (aB (aB h).1).1, eQ (aB (aB h).1).2, eQ (aB h).2]
   exact cS1
  | cons k ks =>
   exact aD h
 | .idx a i, Γ, env, e, hsc, h => by
  refine aH (o := bX3 e) h fun q hq h => ?_
  rcases aY5 hq with ⟨y_, rfl⟩
  have h2 := (aB h).2
  have h := (aB h).1
  have h1 := (aB h).2
  exact e_idx X.R (evE X a Γ env _ hsc h1) (evE X i Γ env _ hsc h2)
 | .slice a lo hi st, Γ, env, e, hsc, h => by
  refine aH (o := bX3 e) h fun q hq h => ?_
  rcases aY5 hq with ⟨y_, rfl⟩
  rcases aB h with ⟨h1, h⟩
  refine aH (o := aR7 q.2) h fun t ht h => ?_
  rcases bL7 ht with ⟨y_, he⟩
  rw [he]
  have h4 := (aB h).2
  have h := (aB h).1
  have h3 := (aB h).2
  have h2 := (aB h).1
  exact cS0 (evE X a Γ env _ hsc h1) (o_of h2 fun l hl => evE X lo Γ env l hsc hl) (o_of h3 fun l hl => evE X hi Γ env l hsc hl) (o_of h4 fun l hl => evE X st Γ env l hsc hl)
 | .attr a k, Γ, env, e, hsc, h => by
  refine aH (o := aG1 e) h fun q hq h => ?_
  rw [aE7 hq]
  have h3 := (aB h).2
  have h := (aB h).1
  have h2 := (aB h).2
  have h1 := (aB h).1
  rcases cI2 h2 with ⟨hx, hf⟩
  exact dB5 h1 (X.S.symm ▸ hx) (X.S.symm ▸ hf) (evE X a Γ env _ hsc h3)
 | .call k as, Γ, env, e, hsc, h => by
  refine aH (o := bT e) h fun q hq h => ?_
  rcases b7 hq with ⟨y_, y_, rfl⟩
  have h3 := (aB h).2
  have h := (aB h).1
  have h2 := (aB h).2
  have h1 := (aB h).1
  rcases dA1 hsc h1 with ⟨h0, a, b, c, o, fd, d, e⟩
  exact cS4 X.gl c d e a b h2 (evL X as Γ env _ _ hsc h2 h3) (X.fa ▸ X.calls k h0)
 | .callv _ _, _, _, _, _, h => aD h
 | .new c as, Γ, env, e, hsc, h => by
  refine aH (o := bT e) h fun q hq h => ?_
  rcases b7 hq with ⟨y_, y_, rfl⟩
  have h5 := (aB h).2
  have h := (aB h).1
  have h4 := (aB h).2
  have h := (aB h).1
  have h3 := (aB h).2
  have h := (aB h).1
  have h2 := (aB h).2
  have h1 := (aB h).1
  exact cO2 X hsc h1 h2 h3 h4 (evL X as Γ env _ _ hsc h4 h5)
 | .meth o k as, Γ, env, e, hsc, h => by
  refine aH (o := aN8 e) h fun q hq h => ?_
  rw [aN7 hq]
  refine aH (o := aG1 q.1) h fun t ht h => ?_
  rw [aE7 ht]
  have h9 := (aB h).2
  have h := (aB h).1
  have h8 := (aB h).2
  have h := (aB h).1
  have h7 := (aB h).2
  have h := (aB h).1
  have h6 := (aB h).2
  have h := (aB h).1
  have h5 := (aB h).2
  have h := (aB h).1
  have h4 := (aB h).2
  have h := (aB h).1
  have h3 := (aB h).2
  have h := (aB h).1
  have h2 := (aB h).2
  have h1 := (aB h).1
  rw [eQ h7]
  exact cC0 X h1 h2 h3 h4 (dC h5) h6 (evE X o Γ env _ hsc h8) (evL X as Γ env _ _ hsc h4 h9)
 | .smeth o sm as, Γ, env, e, hsc, h => by
  refine aH (o := aN8 e) h fun q hq h => ?_
  rw [aN7 hq]
  refine aH (o := aG1 q.1) h fun t ht h => ?_
  rw [aE7 ht]
  have h8 := (aB h).2
  have h := (aB h).1
  have h7 := (aB h).2
  have h := (aB h).1
  have h6 := (aB h).2
  have h := (aB h).1
  have h5 := (aB h).2
  have h := (aB h).1
  have h4 := (aB h).2
  have h := (aB h).1
  have h3 := (aB h).2
  have h := (aB h).1
  have h2 := (aB h).2
  have h1 := (aB h).1
  rw [beq_iff_eq.mp h1, eQ h6]
  exact cR9 X.gl.ok h2 h3 (dC h4) h5 (evE X o Γ env _ hsc h7) (evL X as Γ env _ _ hsc h3 h8)
 | .bi b as, Γ, env, e, hsc, h => by
  refine aH (o := bT e) h fun q hq h => ?_
  rcases b7 hq with ⟨y_, y_, rfl⟩
  have hz := (aB h).2
  have h0 := (aB h).1
  by_cases hb : b = .lenset
  ·rw [if_pos hb] at hz
   subst hb
   refine aH (o := bW7 q.2) hz fun e1 h1 h => ?_
   rw [aG0 h1]
   refine aH (o := bT e1) h fun p hp h => ?_
   rcases b7 hp with ⟨y_, y_, rfl⟩
   have h4 := (aB h).2
   have h := (aB h).1
   have h3 := (aB h).2
   have h := (aB h).1
   have h2 := (aB h).2
   have h1 := (aB h).1
   rcases bV3 hsc h1 with ⟨a, b, c, d, e⟩
   rcases aG2 hsc h2 with ⟨a', b', c', d', e'⟩
   exact cE9 (X.hh h0) X.gl d' e' c' a' b' d e c a b h3 (evL X as Γ env _ _ hsc h3 h4)
  ·rw [if_neg hb] at hz
   have h4 := (aB hz).2
   have h := (aB hz).1
   have h3 := (aB h).2
   have h := (aB h).1
   have h2 := (aB h).2
   have h1 := (aB h).1
   exact e_bi X hsc h0 h1 h2 h3 (fun pos => evL X as Γ env q.2 pos hsc h3 h4)
 | .listrange as, Γ, env, e, hsc, h => by
  refine aH (o := bT e) h fun q hq h => ?_
  rcases b7 hq with ⟨y_, y_, rfl⟩
  refine aH (o := bW7 q.2) h fun e1 h1 h => ?_
  rw [aG0 h1]
  refine aH (o := bT e1) h fun p hp h => ?_
  rcases b7 hp with ⟨y_, y_, rfl⟩
  have h4 := (aB h).2
  have h := (aB h).1
  have h3 := (aB h).2
  have h := (aB h).1
  have h2 := (aB h).2
  have h := (aB h).1
  have h1 := (aB h).2
  have h0 := (aB h).1
  rcases aG2 hsc h1 with ⟨a, b, c, d, e⟩
  rcases aG2 hsc h2 with ⟨a', b', c', d', e'⟩
  exact bB9 (X.hh h0) X.gl d' e' c' a' b' d e c a b h3 (evL X as Γ env _ _ hsc h3 h4)
 | .isi a t, Γ, env, e, hsc, h => by
  refine aH (o := bT e) h fun q hq h => ?_
  rcases b7 hq with ⟨px, pos, rfl⟩
  refine aH (o := vTwo q.2) h fun p hp h => ?_
  rw [cK7 hp]
  refine aH (o := cS p.2) h fun y hy h => ?_
  rw [dG hy]
  have h5 := (aB h).2
  have h := (aB h).1
  have h4 := (aB h).2
  have h := (aB h).1
  have h2 := (aB h).2
  have h1 := (aB h).1
  rcases bV3 hsc h1 with ⟨a1, b1, c1, d1, e1⟩
  exact cP4 X hsc (px := px) (pos := pos) d1 e1 c1 a1 b1 h2 h4 (evE X a Γ env _ hsc h5)
 | .comp elt t nl k src ifs, Γ, env, e, hsc, h => by
  refine aH (o := aR9 e) h fun q hq h => ?_
  rcases bC8 hq with ⟨pos, rfl⟩
  refine aH (o := bW7 q.2.1) h fun g hg h => ?_
  rw [aG0 hg]
  refine aH (o := cS g.target) h fun x hx h => ?_
  have h5 := (aB h).2
  have h := (aB h).1
  have h4 := (aB h).2
  have h := (aB h).1
  have h3 := (aB h).2
  have h := (aB h).1
  have h2 := (aB h).2
  have h := (aB h).1
  have h1 := (aB h).2
  have h := (aB h).1
  have h0 := (aB h).2
  have h := (aB h).1
  have hnl := (aB h).2
  have ht := (aB h).1
  rw [dC ht, dC hnl, cI1 hx h0]
  exact cF1 (aX0 hsc h1) (bD3 h2) (aL4 X hsc h3 (fun e c hc he => cE4 X src Γ env e hsc c hc he) (fun es pos hs he => evL X src Γ env es pos hsc hs he))
   (fun cl C => cR5 X ifs (aM9 q.2.2 x.1 Γ) _ g.ifs (aF0 hsc) h4) (fun cl C => evE X elt (aM9 q.2.2 x.1 Γ) _ q.1 (aF0 hsc) h5)
theorem cE4 (X : Fx W P A fs n F) : ∀ (cs : List CE) (Γ : Cx) (env : Env) (e : Expr), env.scope = Γ.sc -> ∀ c, cs = [c] -> mE P Γ c e = true -> SiE W A fs env Γ.vis (eval e env) (fun r => ev P.S F c r)
 | [], Γ, env, e, hsc, c', hc, h => cO0 hc
 | c :: cs, Γ, env, e, hsc, c', hc, h => by
  have hc1 : c' = c := by injection hc with a; exact a.symm
  rw [hc1] at h ⊢
  exact evE X c Γ env e hsc h
theorem evL (X : Fx W P A fs n F) : ∀ (cs : List CE) (Γ : Cx) (env : Env) (es : List Expr) (pos : Pos), env.scope = Γ.sc -> aS es = true -> mEs P Γ cs es = true -> SiL W A fs env Γ.vis (spliced (backTo pos (starEach es env))) (fun r => evs P.S F cs r)
 | [], Γ, env, es, pos, hsc, hs, h => by
  rw [aP4 h]
  exact l_nil
 | c :: cs, Γ, env, es, pos, hsc, hs, h => by
  rcases cE h with ⟨e, es', he, h1, h2⟩
  rw [he] at hs ⊢
  exact cY7 (evE X c Γ env _ hsc h1) (evL X cs Γ env _ _ hsc (fR hs) h2) (eJ hs)
theorem evBo (X : Fx W P A fs n F) : ∀ (cs : List CE) (Γ : Cx) (env : Env) (es : List Expr) (pos : Pos) (op : BoolOp) (b : Bool), env.scope = Γ.sc -> cZ3 b op = true -> mEs P Γ cs es = true -> cs ≠ [] -> SiE W A fs env Γ.vis (boolOp pos op (evalEach es env)) (fun r => evB P.S F b cs r)
 | [], Γ, env, es, pos, op, b, hsc, ho, h, hne => absurd rfl hne
 | [c], Γ, env, es, pos, op, b, hsc, ho, h, hne => by
  rcases cE h with ⟨e, es', he, h1, h2⟩
  rw [he, aP4 h2]
  exact b_one (evE X c Γ env _ hsc h1)
 | c :: c' :: cs, Γ, env, es, pos, op, b, hsc, ho, h, hne => by
  rcases cE h with ⟨e, es', he, h1, h2⟩
  have h2' := h2
  rcases cE h2 with ⟨e', es'', he', y_, y_⟩
  rw [he]
  rw [he'] at h2' ⊢
  exact dC7 (cN5 ho) (evE X c Γ env _ hsc h1) (evBo X (c' :: cs) Γ env (e' :: es'') pos op b hsc ho h2' (List.cons_ne_nil _ _))
theorem evCm (X : Fx W P A fs n F) : ∀ (cs : List CE) (Γ : Cx) (env : Env) (es : List Expr) (pos : Pos) (ops : List CmpOp), env.scope = Γ.sc -> ops.length = cs.length -> cs ≠ [] -> mEs P Γ cs es = true -> es.all aP0 = true -> SiC W A fs env Γ.vis (fun u => compareChain pos u ops (markedEach ops es (evalEach es env))) (fun x r => evC P.S F x ops cs r)
 | [], Γ, env, es, pos, ops, hsc, hl, hne, h, hs => absurd rfl hne
 | [c], Γ, env, es, pos, ops, hsc, hl, hne, h, hs => by
  rcases cE h with ⟨e, es', he, h1, h2⟩
  rcases List.length_eq_one_iff.mp hl with ⟨op, rfl⟩
  rw [he, aP4 h2] at hs ⊢
  exact c_one X.gl.ok X.R (bE6 (aB hs).1) (evE X c Γ env _ hsc h1)
 | c :: c' :: cs, Γ, env, es, pos, ops, hsc, hl, hne, h, hs => by
  rcases cE h with ⟨e, es', he, h1, h2⟩
  have h2' := h2
  rcases cE h2 with ⟨e', es'', he', y_, y_⟩
  rw [he] at hs ⊢
  rw [he'] at h2' hs ⊢
  rcases bN3 hl with ⟨op, op', ops', rfl⟩
  exact dC2 X.gl.ok X.R (evE X c Γ env _ hsc h1) (evCm X (c' :: cs) Γ env (e' :: es'') pos (op' :: ops') hsc (Nat.succ.inj hl) (List.cons_ne_nil _ _) h2' (aB hs).2)
theorem evCt (X : Fx W P A fs n F) : ∀ (cs : List CE) (Γ : Cx) (env : Env) (es : List Expr) (pos : Pos) (ops : List CmpOp), env.scope = Γ.sc -> ops.length = cs.length -> cs ≠ [] -> mEs P Γ cs es = true -> es.all aP0 = true -> dD2 W A fs env Γ.vis (fun u => testChain pos u ops (markedEach ops es (evalEach es env))) (fun x r => evC P.S F x ops cs r)
 | [], Γ, env, es, pos, ops, hsc, hl, hne, h, hs => absurd rfl hne
 | [c], Γ, env, es, pos, ops, hsc, hl, hne, h, hs => by
  rcases cE h with ⟨e, es', he, h1, h2⟩
  rcases List.length_eq_one_iff.mp hl with ⟨op, rfl⟩
  rw [he, aP4 h2] at hs ⊢
  exact t_one X.gl.ok X.R (bE6 (aB hs).1) (evE X c Γ env _ hsc h1)
 | c :: c' :: cs, Γ, env, es, pos, ops, hsc, hl, hne, h, hs => by
  rcases cE h with ⟨e, es', he, h1, h2⟩
  have h2' := h2
  rcases cE h2 with ⟨e', es'', he', y_, y_⟩
  rw [he] at hs ⊢
  rw [he'] at h2' hs ⊢
  rcases bN3 hl with ⟨op, op', ops', rfl⟩
  exact cW4 X.gl.ok X.R (evE X c Γ env _ hsc h1) (evCt X (c' :: cs) Γ env (e' :: es'') pos (op' :: ops') hsc (Nat.succ.inj hl) (List.cons_ne_nil _ _) h2' (aB hs).2)
theorem dA7 (X : Fx W P A fs n F) : ∀ (b : CB) (Γ : Cx) (env : Env) (e : Expr), env.scope = Γ.sc -> mB P Γ b e = true -> SiB W A fs env Γ.vis (isTrue e env (eval e env)) (fun r => evT P.S F b r)
 | .not b, Γ, env, e, hsc, h => by
  refine aH (o := vUn e) h fun q hq h => ?_
  rcases cF9 hq with ⟨y_, rfl⟩
  have h1 := (aB h).2
  have h0 := (aB h).1
  rw [bF1 h0]
  exact t_not (dA7 X b Γ env _ hsc h1)
 | .all c bs, Γ, env, e, hsc, h => by
  refine aH (o := aY6 e) h fun q hq h => ?_
  rcases bC9 hq with ⟨y_, rfl⟩
  have h1 := (aB h).2
  have h0 := (aB h).1
  exact t_all (dA8 X bs Γ env _ _ _ hsc h0 h1)
 | .val c, Γ, env, e, hsc, h => by
  rcases cV4 h with ⟨hp, hm⟩ | ⟨a, ops, bs, pos, he, hm⟩
  ·exact t_val (evE X c Γ env e hsc hm) (aO7 hp)
  ·subst he
   exact evCa X c Γ env a ops bs pos hsc hm
theorem evCa (X : Fx W P A fs n F) : ∀ (c : CE) (Γ : Cx) (env : Env) (a : Expr) (ops : List CmpOp) (bs : List Expr) (pos : Pos), env.scope = Γ.sc -> mE P Γ c (.Compare a ops bs pos) = true -> SiB W A fs env Γ.vis (isTrue (.Compare a ops bs pos) env (eval (.Compare a ops bs pos) env)) (fun r => bnd (ev P.S F c r) eC)
 | .cmp ca cops cbs, Γ, env, a, ops, bs, pos, hsc, h => by
  rcases cI3 h with ⟨h0, h1, h2, h3, h4, h5⟩
  subst h0
  exact t_cmp (W := W) (A := A) (fs := fs) (env := env) (vis := Γ.vis) (pos := pos) (a := a) (ops := cops) (bs := bs) (ca := fun r => ev P.S F ca r) (cc := fun x r => evC P.S F x cops cbs r) (evE X ca Γ env a hsc h1) (evCt X cbs Γ env bs pos cops hsc h3 h4 h2 h5)
 | .cnst _, _, _, _, _, _, _, _, h => aD h
 | .var _, _, _, _, _, _, _, _, h => aD h
 | .glob _, _, _, _, _, _, _, _, h => aD h
 | .fnv _, _, _, _, _, _, _, _, h => aD h
 | .bin _ _ _, _, _, _, _, _, _, _, h => aD h
 | .neg _, _, _, _, _, _, _, _, h => aD h
 | .not _, _, _, _, _, _, _, _, h => aD h
 | .boolop _ _, _, _, _, _, _, _, _, h => aD h
 | .ite _ _ _, _, _, _, _, _, _, _, h => aD h
 | .tup _, _, _, _, _, _, _, _, h => aD h
 | .list _, _, _, _, _, _, _, _, h => aD h
 | .dict _ _, _, _, _, _, _, _, _, h => aD h
 | .idx _ _, _, _, _, _, _, _, _, h => aD h
 | .slice _ _ _ _, _, _, _, _, _, _, _, h => aD h
 | .attr _ _, _, _, _, _, _, _, _, h => aD h
 | .call _ _, _, _, _, _, _, _, _, h => aD h
 | .callv _ _, _, _, _, _, _, _, _, h => aD h
 | .new _ _, _, _, _, _, _, _, _, h => aD h
 | .meth _ _ _, _, _, _, _, _, _, _, h => aD h
 | .smeth _ _ _, _, _, _, _, _, _, _, h => aD h
 | .bi _ _, _, _, _, _, _, _, _, h => aD h
 | .listrange _, _, _, _, _, _, _, _, h => aD h
 | .isi _ _, _, _, _, _, _, _, _, h => aD h
 | .comp _ _ _ _ _ _, _, _, _, _, _, _, _, h => aD h
theorem dA8 (X : Fx W P A fs n F) : ∀ (bs : List CB) (Γ : Cx) (env : Env) (es : List Expr) (op : BoolOp) (b : Bool), env.scope = Γ.sc -> cZ3 b op = true -> cC5 P Γ bs es = true -> SiB W A fs env Γ.vis (allTrue op es env) (fun r => bK8 P.S F b bs r)
 | [], Γ, env, es, op, b, hsc, ho, h => by
  rw [bE7 h]
  exact t_nil (cN5 ho)
 | c :: cs, Γ, env, es, op, b, hsc, ho, h => by
  rcases aU1 h with ⟨e, es', he, h1, h2⟩
  rw [he]
  exact cW5 (cN5 ho) (dA7 X c Γ env _ hsc h1) (dA8 X cs Γ env _ op b hsc ho h2)
theorem cR5 (X : Fx W P A fs n F) : ∀ (bs : List CB) (Γ : Cx) (env : Env) (es : List Expr), env.scope = Γ.sc -> cC5 P Γ bs es = true -> SiB W A fs env Γ.vis (aA3 es env true) (fun r => bK9 P.S F bs r)
 | [], Γ, env, es, hsc, h => by
  rw [bE7 h]
  exact cZ8
 | c :: cs, Γ, env, es, hsc, h => by
  rcases aU1 h with ⟨e, es', he, h1, h2⟩
  rw [he]
  exact cQ4 (dA7 X c Γ env _ hsc h1) (cR5 X cs Γ env _ hsc h2)
end
end
end Mini
namespace Mini
open PySem PySem.W PyProof.Rows
section
variable {W : Wd} {P : Px} {fs : List Env} {A : Around} {n : Nat} {F : Fns} {env : Env}
theorem bN9 {Γ : Cx} {i : Nat} {x : Str} (hsc : env.scope = Γ.sc) (h : bJ4 Γ i x = true) : Γ.vis[i]? = some (some x) /\ (env.kindOf x = some .local \/ env.kindOf x = some .cell) := by
 refine ⟨eq_of_beq (aZ h).1, ?_⟩
 show env.scope.names.lookup x = _ \/ env.scope.names.lookup x = _
 rw [hsc]
 rcases Bool.or_eq_true_iff.mp (aZ h).2 with q | q
 ·exact .inl (eq_of_beq q)
 ·exact .inr (eq_of_beq q)
theorem mT_of {Γ : Cx} {t : CT} {tg : Expr} (h : mT Γ t tg = true) : ∃ i x pos, t = .one i /\ tg = .Name x pos /\ bJ4 Γ i x = true := by
 cases t with
 | many is => exact aD h
 | one i =>
  refine aH (o := cS tg) h fun q hq h => ?_
  exact ⟨i, q.1, q.2, rfl, dG hq, h⟩
noncomputable def dE0 (c : List Expr × Expr × Pos) (e : Stmt) : Prop := e = .Assign c.1 c.2.1 c.2.2
theorem bY6 {e : Stmt} {c : List Expr × Expr × Pos} (h : cW1 e = some c) : dE0 c e :=
 Stmt.casesOn (motive_2 := fun e => cW1 e = some c -> dE0 c e) e (fun y_ y_ y_ y_ y_ y_ y_ y_ y_ y_ => aA) (fun y_ y_ y_ y_ y_ y_ y_ y_ y_ y_ => aA) (fun y_ y_ y_ y_ y_ y_ y_ y_ y_ y_ y_ => aA) (fun y_ y_ => aA) (fun y_ y_ => aA) (fun y_ y_ y_ h => by cases h; rfl) (fun y_ y_ y_ y_ y_ y_ y_ => aA) (fun y_ y_ y_ y_ => aA) (fun y_ y_ y_ y_ y_ => aA) (fun y_ y_ y_ y_ y_ => aA) (fun y_ y_ y_ y_ y_ => aA) (fun y_ y_ y_ y_ => aA) (fun y_ y_ y_ y_ => aA) (fun y_ y_ y_ => aA) (fun y_ y_ y_ => aA) (fun y_ y_ y_ => aA) (fun y_ y_ y_ => aA) (fun y_ y_ y_ y_ y_ => aA) (fun y_ y_ y_ y_ y_ => aA) (fun y_ y_ y_ => aA) (fun y_ y_ => aA) (fun y_ y_ y_ y_ => aA) (fun y_ y_ => aA) (fun y_ y_ => aA) (fun y_ y_ => aA) (fun y_ => aA) (fun y_ => aA) (fun y_ => aA) h
theorem cL3 {e : Stmt} {c : List Expr × Expr × Pos} (h : cW1 e = some c) : e = .Assign c.1 c.2.1 c.2.2 := bY6 h
noncomputable def dD7 (c : Expr) (e : Stmt) : Prop := ∃ pos, e = .Expr c pos
theorem bY0 {e : Stmt} {c : Expr} (h : cV9 e = some c) : dD7 c e :=
 Stmt.casesOn (motive_2 := fun e => cV9 e = some c -> dD7 c e) e (fun y_ y_ y_ y_ y_ y_ y_ y_ y_ y_ => aA) (fun y_ y_ y_ y_ y_ y_ y_ y_ y_ y_ => aA) (fun y_ y_ y_ y_ y_ y_ y_ y_ y_ y_ y_ => aA) (fun y_ y_ => aA) (fun y_ y_ => aA) (fun y_ y_ y_ => aA) (fun y_ y_ y_ y_ y_ y_ y_ => aA) (fun y_ y_ y_ y_ => aA) (fun y_ y_ y_ y_ y_ => aA) (fun y_ y_ y_ y_ y_ => aA) (fun y_ y_ y_ y_ y_ => aA) (fun y_ y_ y_ y_ => aA) (fun y_ y_ y_ y_ => aA) (fun y_ y_ y_ => aA) (fun y_ y_ y_ => aA) (fun y_ y_ y_ => aA) (fun y_ y_ y_ => aA) (fun y_ y_ y_ y_ y_ => aA) (fun y_ y_ y_ y_ y_ => aA) (fun y_ y_ y_ => aA) (fun y_ y_ => aA) (fun y_ y_ y_ y_ => aA) (fun y_ y_ => aA) (fun y_ y_ => aA) (fun y_ y_ h => by cases h; exact ⟨_, rfl⟩) (fun y_ => aA) (fun y_ => aA) (fun y_ => aA) h
theorem cL1 {e : Stmt} {c : Expr} (h : cV9 e = some c) : ∃ pos, e = .Expr c pos := bY0 h
noncomputable def dD5 (c : Expr × List Stmt × List Stmt) (e : Stmt) : Prop := ∃ pos, e = .If c.1 c.2.1 c.2.2 pos
theorem bX8 {e : Stmt} {c : Expr × List Stmt × List Stmt} (h : cV7 e = some c) : dD5 c e :=
 Stmt.casesOn (motive_2 := fun e => cV7 e = some c -> dD5 c e) e (fun y_ y_ y_ y_ y_ y_ y_ y_ y_ y_ => aA) (fun y_ y_ y_ y_ y_ y_ y_ y_ y_ y_ => aA) (fun y_ y_ y_ y_ y_ y_ y_ y_ y_ y_ y_ => aA) (fun y_ y_ => aA) (fun y_ y_ => aA) (fun y_ y_ y_ => aA) (fun y_ y_ y_ y_ y_ y_ y_ => aA) (fun y_ y_ y_ y_ => aA) (fun y_ y_ y_ y_ y_ => aA) (fun y_ y_ y_ y_ y_ => aA) (fun y_ y_ y_ y_ y_ => aA) (fun y_ y_ y_ y_ => aA) (fun y_ y_ y_ y_ h => by cases h; exact ⟨_, rfl⟩) (fun y_ y_ y_ => aA) (fun y_ y_ y_ => aA) (fun y_ y_ y_ => aA) (fun y_ y_ y_ => aA) (fun y_ y_ y_ y_ y_ => aA) (fun y_ y_ y_ y_ y_ => aA) (fun y_ y_ y_ => aA) (fun y_ y_ => aA) (fun y_ y_ y_ y_ => aA) (fun y_ y_ => aA) (fun y_ y_ => aA) (fun y_ y_ => aA) (fun y_ => aA) (fun y_ => aA) (fun y_ => aA) h
theorem cK9 {e : Stmt} {c : Expr × List Stmt × List Stmt} (h : cV7 e = some c) : ∃ pos, e = .If c.1 c.2.1 c.2.2 pos := bX8 h
noncomputable def dD6 (c : Expr × Expr × List Stmt × List Stmt) (e : Stmt) : Prop := ∃ pos, e = .For c.1 c.2.1 c.2.2.1 c.2.2.2 pos
theorem bX9 {e : Stmt} {c : Expr × Expr × List Stmt × List Stmt} (h : cV8 e = some c) : dD6 c e :=
 Stmt.casesOn (motive_2 := fun e => cV8 e = some c -> dD6 c e) e (fun y_ y_ y_ y_ y_ y_ y_ y_ y_ y_ => aA) (fun y_ y_ y_ y_ y_ y_ y_ y_ y_ y_ => aA) (fun y_ y_ y_ y_ y_ y_ y_ y_ y_ y_ y_ => aA) (fun y_ y_ => aA) (fun y_ y_ => aA) (fun y_ y_ y_ => aA) (fun y_ y_ y_ y_ y_ y_ y_ => aA) (fun y_ y_ y_ y_ => aA) (fun y_ y_ y_ y_ y_ => aA) (fun y_ y_ y_ y_ y_ h => by cases h; exact ⟨_, rfl⟩) (fun y_ y_ y_ y_ y_ => aA) (fun y_ y_ y_ y_ => aA) (fun y_ y_ y_ y_ => aA) (fun y_ y_ y_ => aA) (fun y_ y_ y_ => aA) (fun y_ y_ y_ => aA) (fun y_ y_ y_ => aA) (fun y_ y_ y_ y_ y_ => aA) (fun y_ y_ y_ y_ y_ => aA) (fun y_ y_ y_ => aA) (fun y_ y_ => aA) (fun y_ y_ y_ y_ => aA) (fun y_ y_ => aA) (fun y_ y_ => aA) (fun y_ y_ => aA) (fun y_ => aA) (fun y_ => aA) (fun y_ => aA) h
theorem cL0 {e : Stmt} {c : Expr × Expr × List Stmt × List Stmt} (h : cV8 e = some c) : ∃ pos, e = .For c.1 c.2.1 c.2.2.1 c.2.2.2 pos := bX9 h
noncomputable def IsWh (c : Expr × List Stmt × List Stmt) (e : Stmt) : Prop := ∃ pos, e = .While c.1 c.2.1 c.2.2 pos
theorem cK5 {e : Stmt} {c : Expr × List Stmt × List Stmt} (h : vWh e = some c) : IsWh c e :=
 Stmt.casesOn (motive_2 := fun e => vWh e = some c -> IsWh c e) e (fun y_ y_ y_ y_ y_ y_ y_ y_ y_ y_ => aA) (fun y_ y_ y_ y_ y_ y_ y_ y_ y_ y_ => aA) (fun y_ y_ y_ y_ y_ y_ y_ y_ y_ y_ y_ => aA) (fun y_ y_ => aA) (fun y_ y_ => aA) (fun y_ y_ y_ => aA) (fun y_ y_ y_ y_ y_ y_ y_ => aA) (fun y_ y_ y_ y_ => aA) (fun y_ y_ y_ y_ y_ => aA) (fun y_ y_ y_ y_ y_ => aA) (fun y_ y_ y_ y_ y_ => aA) (fun y_ y_ y_ y_ h => by cases h; exact ⟨_, rfl⟩) (fun y_ y_ y_ y_ => aA) (fun y_ y_ y_ => aA) (fun y_ y_ y_ => aA) (fun y_ y_ y_ => aA) (fun y_ y_ y_ => aA) (fun y_ y_ y_ y_ y_ => aA) (fun y_ y_ y_ y_ y_ => aA) (fun y_ y_ y_ => aA) (fun y_ y_ => aA) (fun y_ y_ y_ y_ => aA) (fun y_ y_ => aA) (fun y_ y_ => aA) (fun y_ y_ => aA) (fun y_ => aA) (fun y_ => aA) (fun y_ => aA) h
theorem cV5 {e : Stmt} {c : Expr × List Stmt × List Stmt} (h : vWh e = some c) : ∃ pos, e = .While c.1 c.2.1 c.2.2 pos := cK5 h
noncomputable def dD4 (c : Option Expr) (e : Stmt) : Prop := ∃ pos, e = .Return c pos
theorem bX4 {e : Stmt} {c : Option Expr} (h : cV6 e = some c) : dD4 c e :=
 Stmt.casesOn (motive_2 := fun e => cV6 e = some c -> dD4 c e) e (fun y_ y_ y_ y_ y_ y_ y_ y_ y_ y_ => aA) (fun y_ y_ y_ y_ y_ y_ y_ y_ y_ y_ => aA) (fun y_ y_ y_ y_ y_ y_ y_ y_ y_ y_ y_ => aA) (fun y_ y_ h => by cases h; exact ⟨_, rfl⟩) (fun y_ y_ => aA) (fun y_ y_ y_ => aA) (fun y_ y_ y_ y_ y_ y_ y_ => aA) (fun y_ y_ y_ y_ => aA) (fun y_ y_ y_ y_ y_ => aA) (fun y_ y_ y_ y_ y_ => aA) (fun y_ y_ y_ y_ y_ => aA) (fun y_ y_ y_ y_ => aA) (fun y_ y_ y_ y_ => aA) (fun y_ y_ y_ => aA) (fun y_ y_ y_ => aA) (fun y_ y_ y_ => aA) (fun y_ y_ y_ => aA) (fun y_ y_ y_ y_ y_ => aA) (fun y_ y_ y_ y_ y_ => aA) (fun y_ y_ y_ => aA) (fun y_ y_ => aA) (fun y_ y_ y_ y_ => aA) (fun y_ y_ => aA) (fun y_ y_ => aA) (fun y_ y_ => aA) (fun y_ => aA) (fun y_ => aA) (fun y_ => aA) h
theorem cK8 {e : Stmt} {c : Option Expr} (h : cV6 e = some c) : ∃ pos, e = .Return c pos := bX4 h
noncomputable def cJ6 (e : Stmt) : Prop := ∃ pos, e = .Continue pos
theorem bM4 {e : Stmt} (h : bY3 e = true) : cJ6 e :=
 Stmt.casesOn (motive_2 := fun e => bY3 e = true -> cJ6 e) e (fun y_ y_ y_ y_ y_ y_ y_ y_ y_ y_ => aD) (fun y_ y_ y_ y_ y_ y_ y_ y_ y_ y_ => aD) (fun y_ y_ y_ y_ y_ y_ y_ y_ y_ y_ y_ => aD) (fun y_ y_ => aD) (fun y_ y_ => aD) (fun y_ y_ y_ => aD) (fun y_ y_ y_ y_ y_ y_ y_ => aD) (fun y_ y_ y_ y_ => aD) (fun y_ y_ y_ y_ y_ => aD) (fun y_ y_ y_ y_ y_ => aD) (fun y_ y_ y_ y_ y_ => aD) (fun y_ y_ y_ y_ => aD) (fun y_ y_ y_ y_ => aD) (fun y_ y_ y_ => aD) (fun y_ y_ y_ => aD) (fun y_ y_ y_ => aD) (fun y_ y_ y_ => aD) (fun y_ y_ y_ y_ y_ => aD) (fun y_ y_ y_ y_ y_ => aD) (fun y_ y_ y_ => aD) (fun y_ y_ => aD) (fun y_ y_ y_ y_ => aD) (fun y_ y_ => aD) (fun y_ y_ => aD) (fun y_ y_ => aD) (fun y_ => aD) (fun y_ => aD) (fun y_ h => by exact ⟨_, rfl⟩) h
theorem bY2 {e : Stmt} (h : bY3 e = true) : ∃ pos, e = .Continue pos := bM4 h
noncomputable def cJ3 (e : Stmt) : Prop := ∃ pos, e = .Pass pos
theorem bL8 {e : Stmt} (h : bX6 e = true) : cJ3 e :=
 Stmt.casesOn (motive_2 := fun e => bX6 e = true -> cJ3 e) e (fun y_ y_ y_ y_ y_ y_ y_ y_ y_ y_ => aD) (fun y_ y_ y_ y_ y_ y_ y_ y_ y_ y_ => aD) (fun y_ y_ y_ y_ y_ y_ y_ y_ y_ y_ y_ => aD) (fun y_ y_ => aD) (fun y_ y_ => aD) (fun y_ y_ y_ => aD) (fun y_ y_ y_ y_ y_ y_ y_ => aD) (fun y_ y_ y_ y_ => aD) (fun y_ y_ y_ y_ y_ => aD) (fun y_ y_ y_ y_ y_ => aD) (fun y_ y_ y_ y_ y_ => aD) (fun y_ y_ y_ y_ => aD) (fun y_ y_ y_ y_ => aD) (fun y_ y_ y_ => aD) (fun y_ y_ y_ => aD) (fun y_ y_ y_ => aD) (fun y_ y_ y_ => aD) (fun y_ y_ y_ y_ y_ => aD) (fun y_ y_ y_ y_ y_ => aD) (fun y_ y_ y_ => aD) (fun y_ y_ => aD) (fun y_ y_ y_ y_ => aD) (fun y_ y_ => aD) (fun y_ y_ => aD) (fun y_ y_ => aD) (fun y_ h => by exact ⟨_, rfl⟩) (fun y_ => aD) (fun y_ => aD) h
theorem bX5 {e : Stmt} (h : bX6 e = true) : ∃ pos, e = .Pass pos := bL8 h
theorem aT5 {v : Expr} {t : Option Expr} {line : Nat} (h : aB7 v = false) : swapsWith v t line env = Pure.pure false := by
 cases v <;> first | rfl | (exact aD h.symm)
structure Cmp (W : Wd) (P : Px) (A : Around) (fs : List Env) (F : Fns) (env : Env) (Γ : Cx) (c : CE) (e0 : Expr) (gens : List Comprehension) (scope : Scope) : Prop where
 parts : ∃ elt k src ifs x px iter ifs', c = .comp elt (.one Γ.vis.length) 1 k src ifs /\ gens = [⟨.Name x px, iter, ifs', 0⟩] /\ CompOk scope env Γ.vis (aO5 scope x Γ.vis) 1 /\ (∀ y, foldedSetIterable iter env y = Pure.pure y) /\
  SiSrc W A fs env Γ.vis iter (fun r => bnd (evs P.S F src r) (fC k)) /\ (∀ cl C, SiB W A fs (compEnvC scope cl C env) (aO5 scope x Γ.vis) (aA3 ifs' (compEnvC scope cl C env) true) (fun r => bK9 P.S F ifs r)) /\
  (∀ cl C, SiE W A fs (compEnvC scope cl C env) (aO5 scope x Γ.vis) (eval e0 (compEnvC scope cl C env)) (fun r => ev P.S F elt r)) /\ env.scope.kind = .function
theorem bU8 (X : Fx W P A fs n F) {Γ : Cx} : ∀ {c : CE} {e0 : Expr} {gens : List Comprehension} {scope : Scope} {pos : Pos} (hsc : env.scope = Γ.sc) (h : mE P Γ c (.ListComp e0 gens scope pos) = true), Cmp W P A fs F env Γ c e0 gens scope := by
 intro c e0 gens scope pos hsc h
 cases c with
 | comp elt t nl k src ifs =>
  refine aH (o := bW7 gens) h fun g hg h => ?_
  rw [aG0 hg]
  refine aH (o := cS g.target) h fun x hx h => ?_
  have h5 := (aB h).2
  have h := (aB h).1
  have h4 := (aB h).2
  have h := (aB h).1
  have h3 := (aB h).2
  have h := (aB h).1
  have h2 := (aB h).2
  have h := (aB h).1
  have h1 := (aB h).2
  have h := (aB h).1
  have h0 := (aB h).2
  have h := (aB h).1
  have hnl := (aB h).2
  have ht := (aB h).1
  rw [dC ht, dC hnl]
  have hf : env.scope.kind = .function := by rw [hsc]; exact beq_iff_eq.mp (aB h1).2
  exact ⟨elt, k, src, ifs, x.1, x.2, g.iter, g.ifs, rfl, by rw [<- cI1 hx h0], aX0 hsc h1, bD3 h2,
   aL4 X hsc h3 (fun e c hc he => cE4 X src Γ env e hsc c hc he) (fun es pos hs he => evL X src Γ env es pos hsc hs he),
   fun cl C => cR5 X ifs (aM9 scope x.1 Γ) _ g.ifs (aF0 hsc) h4, fun cl C => evE X elt (aM9 scope x.1 Γ) _ e0 (aF0 hsc) h5, hf⟩
 | _ => exact aD h
theorem cT5 (X : Fx W P A (env :: fs) n F) {Γ : Cx} {t : CT} {e : CE} {tg v : Expr} {pos : Pos} (hsc : env.scope = Γ.sc) (h : (mT Γ t tg && mE P Γ e v && (cS tg).any fun y => bQ9 Γ y v) = true) :
  SiS W A fs env Γ.vis (exec (.Assign [tg] v pos) env) (fun r => ex P.S F (.asg (.one t) e) r) := by
 have h3 := (aB h).2
 have h := (aB h).1
 have h2 := (aB h).2
 have h1 := (aB h).1
 rcases mT_of h1 with ⟨i, y, py, rfl, rfl, ht⟩
 rcases bN9 hsc ht with ⟨hv, hk⟩
 have h3 : bQ9 Γ (y, py) v = true := h3
 cases hc : aB7 v with
 | false => exact bL1 (evE X e Γ env v hsc h2) (aY1 hv hk) (aT5 (env := env) (line := pos.line) (t := some (.Name y py)) hc) rfl rfl
 | true =>
  have h3 : (!aB7 v || (aR9 v).any fun q => !(Γ.sc.names.lookup y == some .local) || (py.line == v.pos.line && !(q.2.2.names.any fun (n, k) => n == y && (k == .local || k == .cell)))) = true := h3
  rw [hc] at h3
  refine aH (o := aR9 v) h3 fun q hq h3 => ?_
  rcases bC8 hq with ⟨cpos, rfl⟩
  rcases (bU8 X hsc h2).parts with ⟨elt, k, src, ifs, x, px, iter, ifs', rfl, hgen, ck, hs, hsrc, hifs, helt, hf⟩
  cases hloc : env.kindOf y == some .local with
  | true =>
   have hl' : (Γ.sc.names.lookup y == some NameKind.local) = true := by rw [<- hsc]; exact hloc
   rw [hl'] at h3
   have h4 := (aB h3).2
   have h3 := (aB h3).1
   have hb : (env.blockKind == ScopeKind.function) = true := by
    unfold Env.blockKind; rw [hf]; rfl
   have hsw : swapsWithSole [.Name y py] (.ListComp q.1 q.2.1 q.2.2 cpos) pos.line env = Pure.pure true := by
    show (Pure.pure _ : Sem Bool) = _
    rw [hb, hloc, h3, h4]; rfl
   rw [hgen] at hsw ⊢
   have := bH5 (W := W) (A := A) (fs := fs) (env := env) (vis := Γ.vis) (pos := pos) (vis' := aO5 q.2.2 x Γ.vis) (nl := 1) (j := Γ.vis.length) (i := i) ck hs (aG9 q.2.2 x Γ.vis) (Nat.le_refl _) hsrc hifs helt hsw hv (beq_iff_eq.mp hloc)
   intro s io m r Z
   have eq : ex P.S F (.asg (.one (.one i)) (.comp elt (.one Γ.vis.length) 1 k src ifs)) r = bnd (bnd (bnd (evs P.S F src r) (fC k)) fun p => bnd (bG p.2 (eI Γ.vis.length (r ++ List.replicate 1 none) (fun r => bK9 P.S F ifs r) (fun r => ev P.S F elt r)) p.1) fun l => if l.length <= lid then alloc (.list l) else bad) fun v => bnd (fun m => .ok (r.set i (some v)) m) fun r' => ret (.next, r') := by
    rw [bU (evs P.S F src r)]; rfl
   dsimp only
   rw [eq]
   exact this s io m r Z
  | false =>
   have hsw : swapsWithSole [.Name y py] (.ListComp q.1 q.2.1 q.2.2 cpos) pos.line env = Pure.pure false := by
    show (Pure.pure _ : Sem Bool) = _
    rw [hloc, Bool.and_false]; rfl
   exact bL1 (evE X _ Γ env _ hsc h2) (aY1 hv hk) hsw rfl rfl
theorem bR7 {Γ : Cx} (hsc : env.scope = Γ.sc) : ∀ {is : List Nat} {es : List Expr}, mTs Γ is es = true -> Tgs env Γ.vis is es
 | [], es, h => eQ h
 | i :: is, [], h => aD h
 | i :: is, e :: es, h => by
  rcases aB (a := (cS e).any fun (x : Str × Pos) => bJ4 Γ i x.1) (b := mTs Γ is es) h with ⟨h1, h2⟩
  refine aH (o := cS e) h1 fun q hq h1 => ?_
  rcases bN9 hsc h1 with ⟨hv, hk⟩
  exact ⟨q.1, q.2, es, by rw [dG hq], hv, hk, bR7 hsc h2⟩
theorem cN9 {v : Expr} {ts : List Expr} {k : Nat} {p : Pos} (h : (bL6 v).isNone = true) : swappedStores [.Tuple ts k p] v env = Pure.pure none := by
 cases v <;> first | rfl | (exact aD h)
theorem cF7 (X : Fx W P A (env :: fs) n F) {Γ : Cx} {is : List Nat} {e : CE} {tg v : Expr} {pos : Pos} (hsc : env.scope = Γ.sc) (h : (P.loud && mTF Γ (.many is) tg && mE P Γ e v && !aB7 v && (bL6 v).isNone) = true) :
  SiS W A fs env Γ.vis (exec (.Assign [tg] v pos) env) (fun r => ex P.S F (.asg (.one (.many is)) e) r) := by
 have h5 := (aB h).2
 have h := (aB h).1
 have h4 := (aB h).2
 have h := (aB h).1
 have h3 := (aB h).2
 have h := (aB h).1
 have h2 := (aB h).2
 have h1 := (aB h).1
 refine aH (o := bL6 tg) h2 fun es hq h2 => ?_
 rcases aY4 hq with ⟨k, pt, rfl⟩
 exact bL1 (evE X e Γ env v hsc h3) (cJ2 (X.hh h1) (bR7 hsc h2)) (aT5 (env := env) (line := pos.line) (t := some (.Tuple es k pt)) ((Bool.not_eq_true' _).mp h4)) (cN9 h5) rfl
theorem cT6 (X : Fx W P A (env :: fs) n F) {Γ : Cx} {t : CTgt} {e : CE} {tg v : Expr} {pos : Pos} (hsc : env.scope = Γ.sc) (h : mAsg P Γ t e tg v = true) :
  SiS W A fs env Γ.vis (exec (.Assign [tg] v pos) env) (fun r => ex P.S F (.asg t e) r) := by
 cases t with
 | one t =>
  cases t with
  | one i => exact cT5 X hsc h
  | many is => exact cF7 X hsc h
 | attr o k =>
  refine aH (o := aG1 tg) h fun q hq h => ?_
  rw [aE7 hq]
  have h4 := (aB h).2
  have h := (aB h).1
  have h3 := (aB h).2
  have h := (aB h).1
  have h2 := (aB h).2
  have h1 := (aB h).1
  rcases cI2 h1 with ⟨hx, hf⟩
  exact bL1 (evE X e Γ env v hsc h3) (dD1 (X.S.symm ▸ hx) (X.S.symm ▸ hf) (evE X o Γ env _ hsc h2)) (aT5 (env := env) (line := pos.line) (t := some (.Attribute q.1 q.2.1 q.2.2)) ((Bool.not_eq_true' _).mp h4)) rfl rfl
 | idx o i =>
  refine aH (o := bX3 tg) h fun q hq h => ?_
  rcases aY5 hq with ⟨p, rfl⟩
  have h4 := (aB h).2
  have h := (aB h).1
  have h3 := (aB h).2
  have h := (aB h).1
  have h2 := (aB h).2
  have h1 := (aB h).1
  exact bL1 (evE X e Γ env v hsc h3) (a_idx X.R (evE X o Γ env _ hsc h1) (evE X i Γ env _ hsc h2)) (aT5 (env := env) (line := pos.line) (t := some (.Subscript q.1 q.2 p)) ((Bool.not_eq_true' _).mp h4)) rfl rfl
 | idx2 o i o' i' => exact aD h
theorem cQ9 (hA : A.frames = some (env :: fs)) {Γ : Cx} {i : Nat} {src : List CE} {k : IK} {body : List CS} {y : Str} {py pos : Pos} {iter : Expr} {b : List Stmt} (hsrc : bC3 W A (env :: fs) env Γ.vis (.Name y py) iter (fun r => bnd (evs P.S F src r) (fC k))) (hv : Γ.vis[i]? = some (some y)) (hk : env.kindOf y = some .local \/ env.kindOf y = some .cell)
  (hb : SiS W A fs env Γ.vis (execs b env) (fun r => exs P.S F body r)) (hs : ∀ x, foldedSetIterable iter env x = Pure.pure x) : SiS W A fs env Γ.vis (exec (.For (.Name y py) iter b [] pos) env) (fun r => ex P.S F (.for_ k (.one i) src body) r) := by
 have := cU5 hA (pos := pos) (target := .Name y py) hsrc (aY1 hv hk) hb hs
 intro s io m r Z
 have eq : ex P.S F (.for_ k (.one i) src body) r = bnd (bnd (evs P.S F src r) (fC k)) fun p => aM6 p.2 (fun v r' => bnd (fun m => .ok (r'.set i (some v)) m) fun r'' => exs P.S F body r'') p.1 r := by
  rw [bU]; rfl
 dsimp only
 rw [eq]
 exact this s io m r Z
theorem cE0 (hA : A.frames = some (env :: fs)) (hh : A.handled = none) {Γ : Cx} {is : List Nat} {src : List CE} {k : IK} {body : List CS} {es : List Expr} {kx : Nat} {py pos : Pos} {iter : Expr} {b : List Stmt} (hsrc : bC3 W A (env :: fs) env Γ.vis (.Tuple es kx py) iter (fun r => bnd (evs P.S F src r) (fC k))) (ht : Tgs env Γ.vis is es)
  (hb : SiS W A fs env Γ.vis (execs b env) (fun r => exs P.S F body r)) (hs : ∀ x, foldedSetIterable iter env x = Pure.pure x) : SiS W A fs env Γ.vis (exec (.For (.Tuple es kx py) iter b [] pos) env) (fun r => ex P.S F (.for_ k (.many is) src body) r) := by
 have := cU5 hA (pos := pos) (target := .Tuple es kx py) hsrc (cJ2 hh ht) hb hs
 intro s io m r Z
 have eq : ex P.S F (.for_ k (.many is) src body) r = bnd (bnd (evs P.S F src r) (fC k)) fun p => aM6 p.2 (fun v r' => bnd (aJ6 (.many is) v r') fun r'' => exs P.S F body r'') p.1 r := by
  rw [bU]; rfl
 dsimp only
 rw [eq]
 exact this s io m r Z
theorem cO7 {Γ : Cx} {es : List Stmt} (h : mSs P Γ [] es = true) : es = [] := eQ h
theorem cC2 {Γ : Cx} {c : CS} {cs : List CS} {es : List Stmt} (h : mSs P Γ (c :: cs) es = true) : ∃ e es', es = e :: es' /\ mS P Γ c e = true /\ mSs P Γ cs es' = true := by
 cases es with
 | nil => exact aD h
 | cons e es => have := aB (a := mS P Γ c e) (b := mSs P Γ cs es) h; exact ⟨e, es, rfl, this.1, this.2⟩
mutual
theorem exS (X : Fx W P A (env :: fs) n F) : ∀ (c : CS) (Γ : Cx) (st : Stmt), env.scope = Γ.sc -> mS P Γ c st = true -> SiS W A fs env Γ.vis (exec st env) (fun r => ex P.S F c r)
 | .asg t e, Γ, st, hsc, h => by
  refine aH (o := cW1 st) h fun q hq h => ?_
  rw [cL3 hq]
  refine aH (o := bW7 q.1) h fun tg ht h => ?_
  rw [aG0 ht]
  exact cT6 X hsc h
 | .exp e, Γ, st, hsc, h => by
  refine aH (o := cV9 st) h fun q hq h => ?_
  rcases cL1 hq with ⟨y_, rfl⟩
  have h2 := (aB h).2
  have h1 := (aB h).1
  exact x_exp (aT5 ((Bool.not_eq_true' _).mp h2)) (evE X e Γ env _ hsc h1)
 | .ite c a b, Γ, st, hsc, h => by
  refine aH (o := cV7 st) h fun q hq h => ?_
  rcases cK9 hq with ⟨y_, rfl⟩
  have h3 := (aB h).2
  have h := (aB h).1
  have h2 := (aB h).2
  have h1 := (aB h).1
  exact x_if (dA7 X c Γ env _ hsc h1) (cR4 X a Γ _ hsc h2) (cR4 X b Γ _ hsc h3)
 | .for_ k t src body, Γ, st, hsc, h => by
  refine aH (o := cV8 st) h fun q hq h => ?_
  rcases cL0 hq with ⟨y_, rfl⟩
  have h4 := (aB h).2
  have h := (aB h).1
  have h3 := (aB h).2
  have h := (aB h).1
  have h2 := (aB h).2
  have h := (aB h).1
  have h1 := (aB h).2
  have h0 := (aB h).1
  rw [eQ h0]
  have hl := bO6 h3
  cases t with
  | many is =>
   refine aH (o := bL6 q.1) h1 fun es hq h1 => ?_
   rcases aY4 hq with ⟨kx, pt, he⟩
   rw [he]
   exact cE0 X.R.frames (X.hh hl) (bO5 X hsc h3 (fun e c hc he => cE4 X src Γ env e hsc c hc he) (fun es pos hs he => evL X src Γ env es pos hsc hs he)) (bR7 hsc h1) (cR4 X body Γ _ hsc h4) (bD3 h2)
  | one i =>
  refine aH (o := cS q.1) h1 fun y hq ht => ?_
  rcases bN9 hsc ht with ⟨hv, hk⟩
  rw [dG hq]
  exact cQ9 X.R.frames (bZ9 X hsc h3 (fun e c hc he => cE4 X src Γ env e hsc c hc he) (fun es pos hs he => evL X src Γ env es pos hsc hs he)) hv hk (cR4 X body Γ _ hsc h4) (bD3 h2)
 | .wh c body, Γ, st, hsc, h => by
  refine aH (o := vWh st) h fun q hq h => ?_
  rcases cV5 hq with ⟨y_, rfl⟩
  have h2 := (aB h).2
  have h := (aB h).1
  have h1 := (aB h).2
  have h0 := (aB h).1
  rw [eQ h0]
  exact cK1 (fuel := cQ8) (dA7 X c Γ env _ hsc h1) (cR4 X body Γ _ hsc h2)
 | .ret e, Γ, st, hsc, h => by
  refine aH (o := cV6 st) h fun q hq h => ?_
  rcases cK8 hq with ⟨y_, rfl⟩
  refine aH (o := q) h fun v hv h => ?_
  rw [hv]
  exact x_ret (evE X e Γ env _ hsc h)
 | .rse c msg, Γ, st, hsc, h => fun y_ y_ y_ y_ y_ hne => absurd rfl hne
 | .try_ _ _ _ _, _, _, _, h => aD h
 | .cont, Γ, st, hsc, h => by
  rcases bY2 h with ⟨y_, rfl⟩
  exact cU6
 | .pass, Γ, st, hsc, h => by
  rcases bX5 h with ⟨y_, rfl⟩
  exact cU4
theorem cR4 (X : Fx W P A (env :: fs) n F) : ∀ (cs : List CS) (Γ : Cx) (ss : List Stmt), env.scope = Γ.sc -> mSs P Γ cs ss = true -> SiS W A fs env Γ.vis (execs ss env) (fun r => exs P.S F cs r)
 | [], Γ, ss, hsc, h => by
  rw [cO7 h]
  exact x_nil
 | c :: cs, Γ, ss, hsc, h => by
  rcases cC2 h with ⟨e, es', he, h1, h2⟩
  rw [he]
  exact cU7 (exS X c Γ _ hsc h1) (cR4 X cs Γ _ hsc h2)
end
theorem aZ9 : ∀ {ds : List FnD} {j i : Nat} {d : FnD}, mFs P j ds = true -> ds[i]? = some d -> P.can (j + i) = true -> mF P (j + i) d = true
 | [], j, i, d, _, h, _ => by simp at h
 | x :: ds, j, i, d, hm, h, hk => by
  have h2 := (aB hm).2
  have h1 := (aB hm).1
  cases i with
  | zero =>
   have e : x = d := by simpa using h
   rw [e] at h1
   have h1 : (!P.can j || mF P j d) = true := h1
   rw [show P.can j = true from hk] at h1
   exact h1
  | succ i =>
   have e : j + (i + 1) = j + 1 + i := by omega
   rw [e] at hk ⊢
   exact aZ9 h2 (by simpa using h) hk
set_option tactic.hygienic true in
theorem cN7 (hck : mFs P 0 P.S.fns = true) (hn : P.ok = none) (k : Nat) (hk : k < P.S.fns.length) : ∃ o fd, P.K.lookup (P.fa k) = some o /\ o.data = .func fd /\ o.cls = .type "function" := by
 have hm := aZ9 (j := 0) hck (List.getElem?_eq_getElem hk) (by unfold Px.can; rw [hn])
 rw [Nat.zero_add] at hm
 unfold mF at hm
 split at hm
 ·rename_i o ho
  split at hm
  ·rename_i fd hfd
   split at hm
   ·exact ⟨o, fd, ho, hfd, beq_iff_eq.mp (aB (aB hm).1).1⟩
   ·cases hm
  ·cases hm
 ·cases hm
theorem AR.born {A : Around} {fs : List Env} {n : Nat} (R : AR A fs (n + 1)) (env : Env) : AR (Mini.born (A.deeper env)) (env :: fs) n := by
 have Rd := R.deeper env
 refine ⟨Rd.frames, ?_, ?_⟩
 ·have := R.depth; show A.depth + 1 + 1 + 4 * n <= 900; omega
 ·have := R.units; show A.units + 3 + 1 + 40 * n + 400 <= 9000; omega
set_option tactic.hygienic true in
theorem aQ4 (gl : Gl W P.K) (hS : W.S = P.S) (hfa : W.fa = P.fa) (hca : W.ca = P.ca) (hck : mFs P 0 P.S.fns = true) (hqk : ∀ (n : Nat) (A : Around) (fs : List Env), AR A fs n -> ∀ k, P.qok.contains k = true -> SiF W A fs (.ref (W.fa k)) (run P.S n k)) :
  ∀ (n : Nat) (A : Around) (fs : List Env), AR A fs n -> (P.loud = true -> A.handled = none) -> ∀ k, P.can k = true -> SiK W A fs (.ref (W.fa k)) (run P.S n k)
 | 0, A, fs, R, hh, k, hok => fun s io m vs us H G hu hne => absurd rfl hne
 | n + 1, A, fs, R, hh, k, hok => by
  show SiK W A fs (.ref (W.fa k)) (bC0 P.S (run P.S n) k)
  cases hd : P.S.fns[k]? with
  | none =>
   intro s io m vs us H G hu hne
   exact absurd (by unfold bC0; rw [hd]; rfl) hne
  | some d =>
   have hm := aZ9 (j := 0) hck hd (by rw [Nat.zero_add]; exact hok)
   rw [Nat.zero_add] at hm
   unfold mF at hm
   split at hm
   ·rename_i o ho
    split at hm
    ·rename_i fd hfd
     split at hm
     ·rename_i body hb
      simp only [Bool.and_eq_true] at hm
      have := cF4 (W := W) (fs := fs) (A := A) (n := n) (Fb := fun r => exs P.S (run P.S n) d.body r) gl R ho hfd hm.1.2 hb
       (fun env hsc => cR4 (X := ⟨gl, R.deeper env, hS, hfa, hca, hh, fun k hk => (aQ4 gl hS hfa hca hck hqk n (A.deeper env) (env :: fs) (R.deeper env) hh k hk).f, fun hn k hk => aQ4 gl hS hfa hca hck hqk n (born (A.deeper env)) (env :: fs) (R.born env) hh k (by unfold Px.can; rw [hn]), fun A' R' => hqk n A' (env :: fs) R', cN7 hck⟩) d.body ⟨fd.scope, d.names.map some⟩ body hsc hm.2)
      rw [<- hfa] at this
      have eq : bC0 P.S (run P.S n) k = fun vs => if vs.length = d.np then bnd (exs P.S (run P.S n) d.body (vs.map some ++ List.replicate (d.names.length - d.np) none)) dA4 else bad := by
       funext vs; unfold bC0; rw [hd]
      rw [eq]
      exact this
     ·cases hm
    ·cases hm
   ·cases hm
theorem cT9 (gl : Gl W P.K) (hS : W.S = P.S) (hfa : W.fa = P.fa) (hca : W.ca = P.ca) (hck : mFs P 0 P.S.fns = true) (hcq : mFs P.quiet 0 P.S.fns = true) :
  ∀ (n : Nat) (A : Around) (fs : List Env), AR A fs n -> (P.loud = true -> A.handled = none) -> ∀ k, P.can k = true -> SiF W A fs (.ref (W.fa k)) (run P.S n k) :=
 fun n A fs R hh k hk => (aQ4 gl hS hfa hca hck (fun n A fs R k hk => (aQ4 (P := P.quiet) gl hS hfa hca hcq (fun y_ y_ y_ y_ y_ h => by cases h) n A fs R (fun h => by cases h) k hk).f) n A fs R hh k hk).f
end
end Mini
namespace Mini
open PySem
noncomputable def Wp {α : Type} (x : Mn α) (m : MH) (Q : α -> MH -> Prop) (E : Nat -> MH -> Prop) : Prop := match x m with
 | .ok a m' => Q a m'
 | .exc c m' => E c m'
 | .bad => False
noncomputable abbrev nox : Nat -> MH -> Prop := fun y_ y_ => False
noncomputable abbrev bW8 (Q : V -> MH -> Prop) : Fl × Lo -> MH -> Prop := fun p m' => match p.1 with | .ret v => Q v m' | .next => Q .none m' | .cont => False
noncomputable abbrev bC4 {α : Sort _} (Q : Fl × Lo -> MH -> Prop) (I : α -> Lo -> MH -> Prop) (xs : α) : Fl × Lo -> MH -> Prop := fun p m' => match p.1 with | .ret v => Q (.ret v, p.2) m' | _ => I xs p.2 m'
section
variable {α β : Type} {S : Sig} {F : Fns} {r : Lo} {m m' : MH} {Q : α -> MH -> Prop} {E : Nat -> MH -> Prop}
theorem aE {x : Mn α} {a : α} (h : x m = .ok a m') (q : Q a m') : Wp x m Q E := by unfold Wp; rw [h]; exact q
theorem aI {x : Mn β} {f : β -> Mn α} (h : Wp x m (fun a m' => Wp (f a) m' Q E) E) : Wp (bnd x f) m Q E := by
 unfold Wp bnd at *
 cases q : x m with
 | ok a m1 => rw [q] at h; exact h
 | exc c m1 => rw [q] at h; exact h
 | bad => rw [q] at h; exact h
theorem wp_mono {x : Mn α} {Q' : α -> MH -> Prop} {E' : Nat -> MH -> Prop} (h : Wp x m Q' E') (k : ∀ a m', Q' a m' -> Q a m') (l : ∀ c m', E' c m' -> E c m') : Wp x m Q E := by
 unfold Wp at *
 cases q : x m with
 | ok a m1 => rw [q] at h; exact k _ _ h
 | exc c m1 => rw [q] at h; exact l _ _ h
 | bad => rw [q] at h; exact h
theorem aV {x : Mn α} {Q' : α -> MH -> Prop} (h : Wp x m Q' nox) (k : ∀ a m', Q' a m' -> Q a m') : Wp x m Q E := wp_mono h k fun y_ y_ q => q.elim
theorem aA1 {x : Mn α} (h : Wp x m Q nox) : ∃ a m', x m = .ok a m' /\ Q a m' := by
 unfold Wp at h
 cases q : x m with
 | ok a m1 => rw [q] at h; exact ⟨a, m1, rfl, h⟩
 | exc c m1 => rw [q] at h; exact h.elim
 | bad => rw [q] at h; exact h.elim
end
noncomputable def Le (m m' : MH) : Prop := m.length <= m'.length /\ ∀ p, p < m.length -> m'[p]? = m[p]?
theorem Le.refl (m : MH) : Le m m := ⟨Nat.le_refl _, fun y_ y_ => rfl⟩
theorem Le.trans {a b c : MH} (h : Le a b) (k : Le b c) : Le a c := ⟨Nat.le_trans h.1 k.1, fun p q => (k.2 p (Nat.lt_of_lt_of_le q h.1)).trans (h.2 p q)⟩
theorem Le.app (m e : MH) : Le m (m ++ e) := ⟨by simp, fun p q => List.getElem?_append_left q⟩
theorem aT {m : MH} {p : Nat} {o : MObj} (k : m[p]? = some o) : p < m.length := by
 rcases Nat.lt_or_ge p m.length with q | q
 ·exact q
 ·rw [List.getElem?_eq_none q] at k; cases k
theorem Le.has {m m' : MH} (h : Le m m') {p : Nat} {o : MObj} (k : m[p]? = some o) : m'[p]? = some o := by
 rw [h.2 p (aT k), k]
theorem Le.set {m m' : MH} (h : Le m m') {p : Nat} (hp : m.length <= p) (o : MObj) : Le m (m'.set p o) :=
 ⟨by rw [List.length_set]; exact h.1, fun q hq => by rw [List.getElem?_set_ne (by omega)]; exact h.2 q hq⟩
theorem aY {m : MH} {p : Nat} {o o' : MObj} (k : m[p]? = some o) : (m.set p o')[p]? = some o' := by
 rw [List.getElem?_set_self (aT k)]
theorem aN {m : MH} {p q : Nat} {o o' : MObj} (hn : p ≠ q) (k : m[q]? = some o) : (m.set p o')[q]? = some o := by
 rw [List.getElem?_set_ne hn]; exact k
theorem bO {m : MH} {o : MObj} : (m ++ [o])[m.length]? = some o := by simp
section
variable {S : Sig} {F : Fns} {r : Lo} {m : MH} {E : Nat -> MH -> Prop}
section
variable {Q : V -> MH -> Prop}
theorem aQ {o : MObj} (h : ∀ p m', Le m m' -> m'[p]? = some o -> m.length <= p -> Q (.ref p) m') : Wp (alloc o) m Q E := h m.length (m ++ [o]) (.app _ _) bO (Nat.le_refl _)
theorem aC {α : Type} {x : Mn α} {a : α} {m' : MH} {Q : α -> MH -> Prop} (h : x m = .ok a m') (q : Q a m') : Wp x m Q E := aE h q
theorem aL8 {op : Operator} {a b : CE} (h : Wp (ev S F a r) m (fun x m' => Wp (ev S F b r) m' (fun y m' => Wp (bL0 op x y) m' Q E) E) E) : Wp (ev S F (.bin op a b) r) m Q E :=
 aI (x := ev S F a r) (wp_mono h (fun y_ y_ q => aI (x := ev S F b r) q) fun y_ y_ q => q)
theorem d0 {k : Nat} {as : List CE} (h : Wp (evs S F as r) m (fun vs m' => Wp (F k vs) m' Q E) E) : Wp (ev S F (.call k as) r) m Q E := aI (x := evs S F as r) h
theorem aO9 {b : Bi} {as : List CE} (h : Wp (evs S F as r) m (fun vs m' => Wp (biV b vs) m' Q E) E) : Wp (ev S F (.bi b as) r) m Q E := aI (x := evs S F as r) h
theorem aT2 {a i : CE} (h : Wp (ev S F a r) m (fun x m' => Wp (ev S F i r) m' (fun y m' => Wp (aQ0 x y) m' Q E) E) E) : Wp (ev S F (.idx a i) r) m Q E :=
 aI (x := ev S F a r) (wp_mono h (fun y_ y_ q => aI (x := ev S F i r) q) fun y_ y_ q => q)
theorem pe_tup {as : List CE} (h : Wp (evs S F as r) m (fun vs m' => Q (.tup vs) m') E) : Wp (ev S F (.tup as) r) m Q E := aI (x := evs S F as r) h
theorem bJ {as : List CE} (h : Wp (evs S F as r) m (fun vs m' => Wp (alloc (.list vs)) m' Q E) E) : Wp (ev S F (.list as) r) m Q E := aI (x := evs S F as r) h
theorem aH6 {a b : CE} {op : CmpOp} (h : Wp (ev S F a r) m (fun x m' => Wp (ev S F b r) m' (fun y m' => Wp (aJ1 op x y) m' (fun c m' => Q (.bool c) m') E) E) E) : Wp (ev S F (.cmp a [op] [b]) r) m Q E :=
 aI (x := ev S F a r) (wp_mono h (fun x y_ q => aI (x := ev S F b r) (wp_mono q (fun y y_ q => aI (x := aJ1 op x y) q) fun y_ y_ q => q)) fun y_ y_ q => q)
theorem cV {o : CE} {n : Sm} {as : List CE} (h : Wp (ev S F o r) m (fun x m' => ∃ k, smK x m' = some k /\ smH k n = true /\ Wp (evs S F as r) m' (fun vs m' => Wp (dH k x n vs) m' Q E) E) E) : Wp (ev S F (.smeth o n as) r) m Q E := by
 refine aI (x := ev S F o r) (wp_mono h (fun x m' q => ?_) fun y_ y_ q => q)
 rcases q with ⟨k, hk, hs, q⟩
 have q2 := aI (x := evs S F as r) q
 unfold Wp at q2 ⊢
 dsimp only
 rw [hk]
 dsimp only
 rw [if_pos hs]
 exact q2
theorem aG {Q : List V -> MH -> Prop} (h : Q [] m) : Wp (evs S F [] r) m Q E := h
theorem aF {a : CE} {as : List CE} {Q : List V -> MH -> Prop} (h : Wp (ev S F a r) m (fun v m' => Wp (evs S F as r) m' (fun vs m' => Q (v :: vs) m') E) E) : Wp (evs S F (a :: as) r) m Q E :=
 aI (x := ev S F a r) (wp_mono h (fun v y_ q => aI (x := evs S F as r) q) fun y_ y_ q => q)
theorem dC8 {a b : CE} {as : List CE} {c : Bool} (h : Wp (ev S F a r) m (fun x m' => Wp (eC x) m' (fun t m' => bif t == c then Wp (ev S F (.boolop c (b :: as)) r) m' Q E else Q x m') E) E) : Wp (ev S F (.boolop c (a :: b :: as)) r) m Q E := by
 refine aI (x := ev S F a r) (wp_mono h (fun x m' q => aI (x := eC x) (wp_mono q (fun t m' q => ?_) fun y_ y_ q => q)) fun y_ y_ q => q)
 cases e : t == c with
 | true => rw [e] at q; exact q
 | false => rw [e] at q; exact q
theorem cT8 {a : CE} {c : Bool} (h : Wp (ev S F a r) m Q E) : Wp (ev S F (.boolop c [a]) r) m Q E := h
end
section
variable {Q : Bool -> MH -> Prop}
theorem aE1 {e : CE} (h : Wp (ev S F e r) m (fun v m' => Wp (eC v) m' Q E) E) : Wp (evT S F (.val e) r) m Q E := aI (x := ev S F e r) h
theorem bQ4 {e : CB} (h : Wp (evT S F e r) m (fun b m' => Q (!b) m') E) : Wp (evT S F (.not e) r) m Q E := aI (x := evT S F e r) h
theorem aS8 {c : Bool} {bs : List CB} (h : Wp (bK8 S F c bs r) m Q E) : Wp (evT S F (.all c bs) r) m Q E := h
theorem cT {c : Bool} {a : CB} {as : List CB} (h : Wp (evT S F a r) m (fun b m' => bif b == c then Wp (bK8 S F c as r) m' Q E else Q b m') E) : Wp (bK8 S F c (a :: as) r) m Q E := by
 refine aI (x := evT S F a r) (wp_mono h (fun t m' q => ?_) fun y_ y_ q => q)
 cases e : t == c with
 | true => rw [e] at q; exact q
 | false => rw [e] at q; exact q
end
section
variable {Q : Fl × Lo -> MH -> Prop} {ss : List CS}
theorem aB1 {s : CS} (h : Wp (ex S F s r) m (fun p m' => match p.1 with | .next => Wp (exs S F ss p.2) m' Q E | f => Q (f, p.2) m') E) : Wp (exs S F (s :: ss) r) m Q E := by
 refine aI (x := ex S F s r) (wp_mono h (fun p m' q => ?_) fun y_ y_ q => q)
 rcases p with ⟨f, r'⟩
 cases f <;> exact q
theorem a9 {i : Nat} {e : CE} (h : Wp (ev S F e r) m (fun v m' => Wp (exs S F ss (r.set i (some v))) m' Q E) E) : Wp (exs S F (.asg (.one (.one i)) e :: ss) r) m Q E :=
 aB1 (aI (x := ev S F e r) h)
theorem fD {e : CE} (h : Wp (ev S F e r) m (fun v m' => Wp (exs S F ss r) m' Q E) E) : Wp (exs S F (.exp e :: ss) r) m Q E := aB1 (aI (x := ev S F e r) h)
theorem bA {e : CE} (h : Wp (ev S F e r) m (fun v m' => Q (.ret v, r) m') E) : Wp (exs S F (.ret e :: ss) r) m Q E := aB1 (aI (x := ev S F e r) h)
theorem b9 (h : Q (.next, r) m) : Wp (exs S F [] r) m Q E := h
theorem bB6 : ∀ (a b : List CS) (r : Lo) (m : MH), Wp (exs S F (a ++ b) r) m Q E -> Wp (exs S F a r) m (fun p m' => match p.1 with | .next => Wp (exs S F b p.2) m' Q E | f => Q (f, p.2) m') E
 | [], b, r, m, h => h
 | s :: a, b, r, m, h => by
  unfold Wp at h
  refine aB1 ?_
  have e : exs S F (s :: a ++ b) r m = (ex S F s r m).bind (fun p => match p.1 with | .next => exs S F (a ++ b) p.2 | f => ret (f, p.2)) := rfl
  rw [e] at h
  unfold Wp
  cases q : ex S F s r m with
  | ok p m1 =>
   rw [q] at h
   rcases p with ⟨f, r1⟩
   cases f with
   | next => exact bB6 a b r1 m1 h
   | cont => exact h
   | ret v => exact h
  | exc c m1 => rw [q] at h; exact h
  | bad => rw [q] at h; exact h
theorem aE2 {c : CB} {a b : List CS} (h : Wp (evT S F c r) m (fun t m' => Wp (exs S F ((bif t then a else b) ++ ss) r) m' Q E) E) : Wp (exs S F (.ite c a b :: ss) r) m Q E := by
 refine aB1 (aI (x := evT S F c r) (wp_mono h (fun t m' q => ?_) fun y_ y_ q => q))
 cases t
 ·exact bB6 _ _ _ _ q
 ·exact bB6 _ _ _ _ q
end
end
theorem fS {P Q : Prop} (h : P) : bif true then P else Q := h
theorem aK9 {P Q : Prop} (h : Q) : bif false then P else Q := h
section
variable {S : Sig} {F : Fns} {r : Lo} {m : MH}
theorem bE0 {a b c : CE} {o o' : CmpOp} {x y z : V} {t u : Bool} (ha : ev S F a r m = .ok x m) (hb : ev S F b r m = .ok y m) (hc : ev S F c r m = .ok z m) (h1 : aJ1 o x y m = .ok t m) (h2 : aJ1 o' y z m = .ok u m) : ev S F (.cmp a [o, o'] [b, c]) r m = .ok (.bool (t && u)) m := by
 show Res.bind (ev S F a r m) _ = _
 rw [ha]
 show Res.bind (ev S F b r m) _ = _
 rw [hb]
 show Res.bind (aJ1 o x y m) _ = _
 rw [h1]
 cases t with
 | false => rfl
 | true =>
  show Res.bind (ev S F c r m) _ = _
  rw [hc]
  show Res.bind (aJ1 o' y z m) _ = _
  rw [h2]; rfl
theorem cM7 {a b : CE} {as : List CE} {x y : Bool} (ha : ev S F a r m = .ok (.bool x) m) (hb : ev S F (.boolop true (b :: as)) r m = .ok (.bool y) m) : ev S F (.boolop true (a :: b :: as)) r m = .ok (.bool (x && y)) m := by
 show Res.bind (ev S F a r m) _ = _
 rw [ha]
 cases x with
 | false => rfl
 | true => exact hb
theorem aU {e : CE} {b : Bool} (h : ev S F e r m = .ok (.bool b) m) : evT S F (.val e) r m = .ok b m := by
 show Res.bind (ev S F e r m) _ = _
 rw [h]; rfl
theorem eE {e : CB} {b : Bool} (h : evT S F e r m = .ok b m) : evT S F (.not e) r m = .ok (!b) m := by
 show Res.bind (evT S F e r m) _ = _
 rw [h]; rfl
theorem bB {a : CB} {as : List CB} {x y : Bool} (ha : evT S F a r m = .ok x m) (hb : bK8 S F false as r m = .ok y m) : bK8 S F false (a :: as) r m = .ok (x || y) m := by
 show Res.bind (evT S F a r m) _ = _
 rw [ha]
 cases x with
 | true => rfl
 | false => exact hb
theorem cG8 {a : CB} {as : List CB} {x y : Bool} (ha : evT S F a r m = .ok x m) (hb : bK8 S F true as r m = .ok y m) : bK8 S F true (a :: as) r m = .ok (x && y) m := by
 show Res.bind (evT S F a r m) _ = _
 rw [ha]
 cases x with
 | false => rfl
 | true => exact hb
end
noncomputable def b0 (S : Sig) (k np nl : Nat) (b : List CS) : Prop := ∃ d, S.fns[k]? = some d /\ d.np = np /\ d.names.length = nl /\ d.body = b
theorem bD5 {S : Sig} {n k np nl : Nat} {b : List CS} {vs : List V} (h : b0 S k np nl b) (hv : vs.length = np) : run S (n + 1) k vs = bnd (exs S (run S n) b (vs.map some ++ List.replicate (nl - np) Option.none)) dA4 := by
 rcases h with ⟨d, h1, h2, h3, h4⟩
 show bC0 S (run S n) k vs = _
 unfold bC0; rw [h1]; dsimp only; rw [if_pos (hv.trans h2.symm), h2, h3, h4]
theorem bH {S : Sig} {n k np nl : Nat} {b : List CS} {vs : List V} {m : MH} {Q : V -> MH -> Prop} {E : Nat -> MH -> Prop} (h : b0 S k np nl b) (hv : vs.length = np)
  (hb : Wp (exs S (run S n) b (vs.map some ++ List.replicate (nl - np) Option.none)) m (bW8 Q) E) : Wp (run S (n + 1) k vs) m Q E := by
 rw [bD5 h hv]
 refine aI (wp_mono hb (fun p m' q => ?_) fun y_ y_ q => q)
 rcases p with ⟨f, r⟩
 cases f <;> exact q
theorem bC5 {S : Sig} {n k : Nat} {d : FnD} {vs : List V} {m : MH} {Q : V -> MH -> Prop} {E : Nat -> MH -> Prop} (h : S.fns[k]? = some d) (hv : vs.length = d.np)
  (hb : Wp (exs S (run S n) d.body (vs.map some ++ List.replicate (d.names.length - d.np) Option.none)) m (bW8 Q) E) : Wp (run S (n + 1) k vs) m Q E :=
 bH ⟨d, h, rfl, rfl, rfl⟩ hv hb
end Mini
namespace Mini
open PySem PySem.W PyProof.Rows
noncomputable def goT (ok : Thread -> Bool) (st : SharedT -> Thread -> Option (SharedT × Thread)) : Nat -> SharedT -> Thread -> Option SharedT
 | 0, _, _ => none
 | n + 1, s, t => match through t with
  | true => some s
  | false => match ok t with
   | false => none
   | true => match st s t with
    | some (s', t') => goT ok st n s' t'
    | none => none
theorem cI0 {tb : String -> Option Builtin} {p : Program} {w : World} {n₀ : Nat} {ann : Option Value} : ∀ {n : Nat} {s s' : SharedT} {t : Thread}, goT (stepOk n₀ ann) (stepT (denote tb) p w) n s t = some s' -> topRun tb p w n₀ ann n s.abs t = some s'.abs
 | 0, _, _, _, h => by cases h
 | n + 1, s, s', t, h => by
  unfold goT at h
  unfold topRun
  cases he : through t with
  | true => rw [he] at h; cases h; rfl
  | false =>
   rw [he] at h
   cases hk : stepOk n₀ ann t with
   | false => rw [hk] at h; cases h
   | true =>
    rw [hk] at h
    cases hs : stepT (denote tb) p w s t with
    | none => rw [hs] at h; cases h
    | some r => rcases r with ⟨s₂, t₂⟩; rw [hs] at h; rw [stepT_spec hs]; exact cI0 h
noncomputable def cY5 (P : Params) : Nat -> List (Params -> Obj) -> BT -> BT
 | _, [], t => t
 | n, o :: r, t => cY5 P (n + 1) r (t.ins n (o P))
noncomputable def boots : List (Params -> Obj) := [boot_o_0, boot_o_1, boot_o_2, boot_o_3, boot_o_4, boot_o_5, boot_o_6, boot_o_7, boot_o_8, boot_o_9, boot_o_10]
noncomputable def dC3 (P : Params) (os : OsState) : SharedT := ⟨cY5 P 0 boots .nil, 11, (boot_heap P).life, Array.mk [], boot_drawn, boot_toks, os⟩
theorem bV2 : ∀ (P : Params) (os : OsState), (dC3 P os).abs = ⟨boot_heap P, Array.mk [], boot_drawn, boot_toks, os⟩ := by intro P os; kernel_rfl
theorem bV1 : ∀ w : World, ((boot_heap w.params).isNs mainGlobals && (Array.mk ([] : List GenState)).size == 0, (boot_heap w.params).objs.size, (boot_heap w.params).nsMap mainGlobals "__annotations__") = (true, 11, some (.ref 6)) := by intro w; kernel_rfl
noncomputable def cG6 (p : Program) (N : Nat) (w : World) (os : OsState) : Option SharedT :=
 goT (Fast.tw6613529449190102663 11 (some (.ref 6))) (Fast.tw10156331382660048174 (Fast.tw11892475500146522536 Fast.tw14364793385576792824) p w) N (dC3 w.params os) (topStub p)
theorem cM1 {p : Program} {N : Nat} {w : World} {os : OsState} {s : SharedT} (h : cG6 p N w os = some s) : topRun treeTable p w 11 (some (.ref 6)) N ⟨boot_heap w.params, Array.mk [], boot_drawn, boot_toks, os⟩ (topStub p) = some s.abs := by
 rw [<- bV2]
 refine cI0 ?_
 rw [Fast.te6613529449190102663, Fast.te10156331382660048174, Fast.te11892475500146522536, Fast.te14364793385576792824]
 exact h
noncomputable def xtOf (q : Program) (R : WRecords) (s : Shared) : Bool := xlAt q [] s && recOk R s
noncomputable def bE8 (p q : Program) (R : WRecords) (chk : Heap -> Bool) (w : World) (s : Shared) :=
  (staticsOk (importedModules p.main.body) (boot_heap w.params) s.heap && namesBound p s.heap && gensDone s && laidKept (boot_heap w.params) s.heap,
   Fast.tw4187177175401517315 q [] (importedModules p.main.body) (xtOf q R) true s, chk s.heap)
theorem cP0 {p q : Program} {R : WRecords} {chk : Heap -> Bool} {N : Nat} (e : opening p = plainProg p.main.scope.names) (hN : Nat.ble 600 N = true) (f : ∀ s, fenceModules? p s = some s)
  (h : ∀ w os, (cG6 p N w os).map (fun s => bE8 p q R chk w s.abs) = some (true, openGood q [], true)) : LeftO p q [] (xtOf q R) (fun s => chk s.heap) (fun y_ => true) N := fun w => by
 rcases Option.map_eq_some_iff.mp (boot_open e hN f w) with ⟨⟨hp, gs, d, k, os⟩, eo, e'⟩
 obtain ⟨rfl, rfl, rfl, rfl⟩ : hp = boot_heap w.params /\ gs = Array.mk [] /\ d = boot_drawn /\ k = boot_toks := by simpa using e'
 obtain ⟨z1, z2, z3⟩ : _ /\ _ /\ _ := by simpa only [Prod.mk.injEq] using bV1 w
 rcases Option.map_eq_some_iff.mp (h w os) with ⟨s, hr, hl⟩
 have r := cM1 hr
 unfold bE8 at hl
 obtain ⟨l1, l2, l3⟩ : _ /\ _ /\ _ := by simpa only [Prod.mk.injEq] using hl
 have t : topFrom treeTable p w N ⟨boot_heap w.params, Array.mk [], boot_drawn, boot_toks, os⟩ = some s.abs := by
  unfold topFrom
  dsimp only
  rw [z1, z2, z3, r]
  show (match staticsOk (importedModules p.main.body) (boot_heap w.params) s.abs.heap && namesBound p s.abs.heap && gensDone s.abs && laidKept (boot_heap w.params) s.abs.heap with | true => _ | false => _) = _
  rw [l1]
 rw [<- Fast.te4187177175401517315] at l2
 unfold openEnds
 rw [eo]
 show (topFrom treeTable p w N _).map _ = _
 rw [t]
 exact congrArg some (Prod.ext l2 l3)
noncomputable def aI4 (as : List Addr) (h : Heap) : Frag := as.filterMap fun a => (h.get? a).map fun o => (a, o)
set_option tactic.hygienic true in
theorem aI3 (h : Heap) : ∀ as : List Addr, (aI4 as h).In h
 | [], a, o, e => by cases e
 | b :: as, a, o, e => by
  unfold aI4 at e
  cases q : h.get? b with
  | none =>
   rw [List.filterMap_cons_none (by rw [q]; rfl)] at e
   exact aI3 h as a o e
  | some o' =>
   rw [List.filterMap_cons_some (b := (b, o')) (by rw [q]; rfl), List.lookup_cons] at e
   split at e
   ·rename_i hb
    cases e
    rw [beq_iff_eq.mp hb]; exact q
   ·exact aI3 h as a o e
noncomputable def Has (chk : Frag -> Bool) (_ : World) (h : Heap) : Prop := ∃ K : Frag, K.In h /\ chk K = true
theorem cB2 {l : OpenLaw} {keep : List Nat} {as : List Addr} {chk : Frag -> Bool} {N : Nat} {d : DefRec} {kwd : List (Str × Expr)} (k0 : l.wellSaid = true) (e : opening l.prog = plainProg l.prog.main.scope.names) (hN : Nat.ble 600 N = true) (f : ∀ s, fenceModules? l.prog s = some s)
  (h : ∀ w os, (cG6 l.prog N w os).map (fun s => bE8 l.prog (view l.prog keep) l.row.records (fun h => chk (aI4 as h)) w s.abs) = some (true, openGood (view l.prog keep) [], true))
  (hdef : defOf (view l.prog keep) l.row.name = some (d, kwd)) (hp : l.row.prog.theDef l.row.name = some (d.params, d.body, d.scope)) (hk : kwWritten? d.params.kwonlyargs d.params.kw_defaults = some kwd)
  (hwr : (!l.row.writes || l.row.records.isEmpty) = true) (ok : (chainsOk (view l.prog keep) && opensWell l.row.prog && (frees l.row.toRowW && l.row.within.isEmpty)) = true) (hb : l.row.prog.bare) (hw : l.row.toRowW.promised)
  (call : WalkO (view l.prog keep) [] (XL (view l.prog keep) []) (Has chk) l.row.toRowW d kwd fun f vs => PySem.call f vs) : l.Holds :=
 holds_law k0 fun said => holds_open (q := view l.prog keep) (loose := []) (Xt := xtOf (view l.prog keep) l.row.records) (XP := XL (view l.prog keep) []) (cP0 e hN f h)
  (fun w s e => ⟨aI4 as s.heap, aI3 _ as, e⟩) (fun w h h' ⟨K, k1, k2⟩ k => ⟨K, k1.keeps k, k2⟩) (fun s e => xl_of s (Bool.and_eq_true_iff.mp e).1) XL.keeps hdef hp hk (fun s e => recFacts_of (Bool.and_eq_true_iff.mp e).2) hwr said ok hb hw call
end Mini
namespace Mini
open PySem PySem.W PyProof.Rows
noncomputable def gaOf (K : Frag) (x : Str) : Addr := match nsIn K mainGlobals x with | some (some (.ref a)) => a | _ => 0
noncomputable def aZ5 (S : Sig) (k : Nat) : Option ClsD := S.cls.find? fun d => d.init == some k || d.meths.any fun q => q.2 == k
noncomputable def naOf (K : Frag) (C : Addr) (x : Str) : Addr := match bE2 K C with
 | some N => (match nsIn K N x with | some (some (.ref a)) => a | _ => 0)
 | none => 0
noncomputable def faOf (K : Frag) (S : Sig) (k : Nat) : Addr := match S.fns[k]? with
 | some d => (match aZ5 S k with | some D => naOf K (gaOf K D.name) d.name | none => gaOf K d.name)
 | none => 0
noncomputable def caOf (K : Frag) (S : Sig) (k : Nat) : Addr := match S.cls[k]? with
 | some d => gaOf K d.name
 | none => 0
noncomputable def cM8 (S : Sig) (qok : List Nat) (K : Frag) : Px := ⟨K, S, faOf K S, caOf K S, true, none, qok⟩
noncomputable def cT0 (S : Sig) (qok : List Nat) (k : Nat) (K : Frag) : Bool := mFs (cM8 S qok K) 0 S.fns && mFs (cM8 S qok K).quiet 0 S.fns && (aZ5 S k).isNone && (match S.fns[k]? with | some d => (match nsIn K mainGlobals d.name with | some (some (.ref _)) => true | _ => false) | none => false)
theorem cD2 {vs : List Value} {ns : List Int} (h : IntsAre vs ns) : IntsR ns vs := by
 induction h with
 | nil => exact .nil
 | cons n t h ih => exact .cons n t ih
set_option tactic.hygienic true in
theorem glue {prog : Program} {w : World} {K : Frag} {S : Sig} {qok : List Nat} {s₁ : Shared} {mg mb : Str -> Option Value} {loose : List Str} {view : Program} {mean : ExcName -> Option Value} {claim : ClaimW} {cl : Str -> Option Addr} {args : List WData} {fa l : Addr} {vals : List Value} {ns : List Int} {k n : Nat} {d : FnD}
    (T : Top view loose mean mg mb s₁.heap) (hsee : importsNone view = true) (KX : K.In s₁.heap) (hg : s₁.gens = #[]) (hck : cT0 S qok k K = true) (hd : S.fns[k]? = some d) (hm : mg d.name = some (.ref fa))
    (hL : s₁.heap.IsList l vals.toArray) (hI : IntsAre vals ns) (hlen : ns.length <= 63) (hn : n <= 100) (hrun : Wp (run S n k [.scr ns]) [] (fun v y_ => v = .bool true) nox)
    (hr : ∀ cls, claim.raises args cls = false) (hp : claim.post args (.bool true) args = true) :
    wpAny (model prog w) callerA (call (.ref fa) [.ref l]) (fun v s' => GoodWG claim cl mean args s₁ (.ok (.ret v)) s') (fun e s' => GoodWG claim cl mean args s₁ (.error e) s') s₁ := by
  rcases Bool.and_eq_true_iff.mp hck with ⟨hck, hc3⟩
  rcases Bool.and_eq_true_iff.mp hck with ⟨hck, hc4⟩
  rcases Bool.and_eq_true_iff.mp hck with ⟨hc1, hc2⟩
  have hf : fa = faOf K S k := by
    unfold faOf
    rw [Option.isNone_iff_eq_none.mp hc4]
    unfold gaOf
    rw [hd] at hc3 ⊢
    dsimp only at hc3 ⊢
    split at hc3
    · rename_i a e
      have := mg_of KX T.g e
      rw [hm] at this
      cases this
    · cases hc3
  let W : Wd := ⟨prog, w, S, faOf K S, caOf K S, s₁.heap⟩
  have gl : Gl W K := ⟨⟨by rcases (T.seer hsee).mods with ⟨mm, ⟨o, y_, y_, e, y_⟩, y_⟩; exact ⟨o, e⟩, T.nolimit⟩, KX, mg, mb, T.g, T.b, T.builtins, _, _, topRead_of T⟩
  have R : AR callerA [] n := ⟨rfl, by show 1 + claimMargin + 4 * n <= 900; have : claimMargin <= 400 := by decide +kernel
                                       omega, by show 4 + 40 * n + 400 <= 9000; omega⟩
  rcases aA1 hrun with ⟨v, m', e, rfl⟩
  have H : HR W s₁.heap [] [] := ⟨fun y_ y_ e => e, rfl, fun n p o h => by simp at h, fun b ⟨p, hp, _⟩ => (nomatch hp), fun i j p q y_ h => by simp at h⟩
  rcases hL with ⟨o, ho, hc, N, hd⟩
  have hv : VRs W s₁.heap [] [.scr ns] [.ref l] := .cons (.scr ho hc hd (by simpa using cD2 hI) (by unfold lid; omega)) .nil
  have key := cT9 (W := W) (P := cM8 S qok K) gl rfl rfl rfl hc1 hc2 n callerA [] R (fun y_ => rfl) k rfl s₁ [] [] [.scr ns] [.ref l] H (fun y_ q => nomatch q) hv (by show run S n k [.scr ns] [] ≠ _; rw [e]; intro q; cases q)
  rw [hf]
  refine wpAny_mono key (fun u s' q => ?_) fun x s' q => ?_
  · rcases q with ⟨v, m2, io', e2, st, H2, kv, sm⟩
    have e2 : run S n k [.scr ns] [] = .ok v m2 := e2
    rw [e] at e2
    cases e2
    cases kv
    exact GoodW.toG ⟨.inl ⟨_, _, [], rfl, hr, .bool true, hp, fun y_ => ⟨List.nodup_nil, fun y_ q => nomatch q⟩⟩, H2.keep, sm.2, sm.1.trans hg⟩
  · exact q.elim
noncomputable def chkA (S : Sig) (qok : List Nat) (n : Nat) (K : Frag) : Bool := mFs (cM8 S qok K) 0 (S.fns.take n)
noncomputable def chkB (S : Sig) (qok : List Nat) (n k : Nat) (K : Frag) : Bool := mFs (cM8 S qok K) n (S.fns.drop n) && mFs (cM8 S qok K).quiet 0 S.fns && (aZ5 S k).isNone && (match S.fns[k]? with | some d => (match nsIn K mainGlobals d.name with | some (some (.ref _)) => true | _ => false) | none => false)
theorem bR8 {P : Px} : ∀ {xs ys : List FnD} {k : Nat}, mFs P k xs = true -> mFs P (k + xs.length) ys = true -> mFs P k (xs ++ ys) = true
 | [], _, _, _, h => h
 | x :: xs, ys, k, h, h' => by
  have h : ((!P.can k || mF P k x) && mFs P (k + 1) xs) = true := h
  have h2 := Bool.and_eq_true_iff.mp h
  show ((!P.can k || mF P k x) && mFs P (k + 1) (xs ++ ys)) = true
  rw [h2.1, bR8 (k := k + 1) h2.2 (by rw [Nat.add_right_comm]; exact h')]; rfl
theorem dC0 {S : Sig} {qok : List Nat} {n k : Nat} {K : Frag} (h : (chkA S qok n K && chkB S qok n k K) = true) (hn : (S.fns.take n).length = n) : cT0 S qok k K = true := by
 rcases Bool.and_eq_true_iff.mp h with ⟨h1, h2⟩
 have h1 : mFs (cM8 S qok K) 0 (S.fns.take n) = true := h1
 unfold chkB at h2
 rcases Bool.and_eq_true_iff.mp h2 with ⟨h2, h5⟩
 rcases Bool.and_eq_true_iff.mp h2 with ⟨h2, h4⟩
 rcases Bool.and_eq_true_iff.mp h2 with ⟨h2, h3⟩
 have e := bR8 (ys := S.fns.drop n) h1 (by rw [hn, Nat.zero_add]; exact h2)
 rw [List.take_append_drop] at e
 unfold cT0
 rw [e, h3, h4, h5]; rfl
theorem cA5 {α β : Type} {x : Option α} {f : α -> Bool} {g : α -> β} {c1 c2 : α -> Bool} {G : β} (ha : x.map f = some true) (hb : x.map g = some G) (h1 : x.map c1 = some true) (h2 : x.map c2 = some true) {k : α -> Bool × β × Bool} (hk : ∀ s, k s = (f s, g s, c1 s && c2 s)) : x.map k = some (true, G, true) := by
 cases x with
 | none => cases ha
 | some s =>
  have a : f s = true := Option.some.inj ha
  have b : g s = G := Option.some.inj hb
  have c : c1 s = true := Option.some.inj h1
  have d : c2 s = true := Option.some.inj h2
  show some (k s) = _
  rw [hk, a, b, c, d]; rfl
end Mini
namespace Mini
open PySem
section
variable {S : Sig} {F : Fns} {r : Lo} {m : MH} {E : Nat -> MH -> Prop} {p q : Nat} {xs ys : List V} {v : V} {Q : V -> MH -> Prop}
theorem cA1 (h : m[p]? = some (.list xs)) : smK (.ref p) m = some 0 := by unfold smK; dsimp only; rw [h]
theorem cV2 {k : Int} (h : m[p]? = some (.list xs)) (hv : at_ xs k = some v) (hk : k.natAbs < 2 ^ 60) (q : Q v m) : Wp (aQ0 (.ref p) (.int k)) m Q E := by
 refine aE (m' := m) ?_ q
 unfold aQ0; dsimp only; rw [h]; dsimp only; rw [if_pos hk, hv]; rfl
theorem bC7 (h : m[p]? = some (.list xs)) (h' : m[q]? = some (.list ys)) (hl : xs.length + ys.length <= lid) (k : ∀ p m', Le m m' -> m'[p]? = some (.list (xs ++ ys)) -> m.length <= p -> Q (.ref p) m') : Wp (bL0 .Add (.ref p) (.ref q)) m Q E := by
 refine aE (a := .ref m.length) (m' := m ++ [.list (xs ++ ys)]) ?_ (k _ _ (.app _ _) bO (Nat.le_refl _))
 show (match m[p]?, m[q]? with | some (.list x), some (.list y) => if x.length + y.length <= lid then alloc (.list (x ++ y)) m else .bad | _, _ => .bad) = _
 rw [h, h']
 show (if xs.length + ys.length <= lid then alloc (.list (xs ++ ys)) m else .bad) = _
 rw [if_pos hl]; rfl
theorem cI {n : Nat} (h : m[n]? = some (.list xs)) : (Gd.list n xs).stays m = true := by
 show (match m[n]? with | some (.list ys) => V.sames xs ys | _ => false) = true
 rw [h]; exact fA xs
theorem d9 {Q : List V × Gd -> MH -> Prop} (h : m[p]? = some (.list xs)) (k : Q (xs, .list p xs) m) : Wp (fC .expr [.ref p]) m Q E := by
 refine aE (m' := m) ?_ k
 unfold fC eA; dsimp only; rw [h]
end
theorem aY3 {g : Gd} {step : V -> Lo -> Mn (Fl × Lo)} {Q : Fl × Lo -> MH -> Prop} {E : Nat -> MH -> Prop} (I : List V -> Lo -> MH -> Prop) (hg : ∀ xs r m, I xs r m -> g.stays m = true)
  (hs : ∀ x xs r m, I (x :: xs) r m -> Wp (step x r) m (bC4 Q I xs) E) (hn : ∀ r m, I [] r m -> Q (.next, r) m) :
  ∀ (xs : List V) (r : Lo) (m : MH), I xs r m -> Wp (aM6 g step xs r) m Q E
 | [], r, m, h => by
  refine aE (m' := m) ?_ (hn r m h)
  show (if g.stays m then _ else _) = _
  rw [if_pos (hg _ _ _ h)]
 | x :: xs, r, m, h => by
  have e : aM6 g step (x :: xs) r m = (step x r m).bind (fun p => match p.1 with | .ret x => ret (.ret x, p.2) | _ => aM6 g step xs p.2) := if_pos (hg _ _ _ h)
  have k := hs x xs r m h
  unfold Wp at k ⊢
  rw [e]
  cases q : step x r m with
  | bad => rw [q] at k; exact k
  | exc c m1 => rw [q] at k; exact k
  | ok p m1 =>
   rw [q] at k
   rcases p with ⟨f, r1⟩
   cases f with
   | ret v => exact k
   | next => exact aY3 I hg hs hn xs r1 m1 k
   | cont => exact aY3 I hg hs hn xs r1 m1 k
theorem cX1 {S : Sig} {F : Fns} {k : IK} {t : CT} {src : List CE} {body ss : List CS} {r : Lo} {m : MH} {Q : Fl × Lo -> MH -> Prop} {E : Nat -> MH -> Prop} (h : Wp (evs S F src r) m (fun vs m' => Wp (fC k vs) m' (fun p m' => ∃ I : List V -> Lo -> MH -> Prop, I p.1 r m' /\ (∀ xs r m, I xs r m -> p.2.stays m = true) /\
      (∀ x xs r m, I (x :: xs) r m -> Wp (aJ6 t x r) m (fun r' m' => Wp (exs S F body r') m' (bC4 Q I xs) E) E) /\ (∀ r m, I [] r m -> Wp (exs S F ss r) m Q E)) E) E) : Wp (exs S F (.for_ k t src body :: ss) r) m Q E := by
  refine aB1 (aI (x := evs S F src r) (wp_mono h (fun vs m' h => aI (x := fC k vs) (wp_mono h (fun p m' h => ?_) fun y_ y_ q => q)) fun y_ y_ q => q))
  rcases h with ⟨I, h0, hg, hs, hn⟩
  exact aY3 I hg (fun x xs r m hi => aI (x := aJ6 t x r) (wp_mono (hs x xs r m hi) (fun r' m' q => wp_mono q (fun p m' q => by rcases p with ⟨f, r1⟩; cases f <;> exact q) fun y_ y_ q => q) fun y_ y_ q => q)) hn p.1 r m' h0
theorem bC6 {g : Gd} {step : V -> Mn (Option V)} {Q : List V -> MH -> Prop} {E : Nat -> MH -> Prop} (I : List V -> List V -> MH -> Prop) (hg : ∀ xs l m, I xs l m -> g.stays m = true)
  (hs : ∀ x xs l m, I (x :: xs) l m -> Wp (step x) m (fun o m' => I xs (l ++ d8 o []) m') nox) (hn : ∀ l m, I [] l m -> Q l m) :
  ∀ (xs l : List V) (m : MH), I xs l m -> Wp (bG g step xs) m (fun l' m' => Q (l ++ l') m') E
 | [], l, m, h => by
  refine aE (a := []) (m' := m) (if_pos (hg _ _ _ h)) ?_
  rw [List.append_nil]; exact hn l m h
 | x :: xs, l, m, h => by
  rcases aA1 (hs x xs l m h) with ⟨o, m1, e, k⟩
  have e2 : bG g step (x :: xs) m = ((step x m).nox).bind (fun o => bnd (bG g step xs) fun r => ret (d8 o r)) := if_pos (hg _ _ _ h)
  have ih := bC6 (E := E) I hg hs hn xs _ m1 k
  have e3 : bG g step (x :: xs) m = (bG g step xs m1).bind (fun r => ret (d8 o r)) := by rw [e2, e]; rfl
  unfold Wp at ih ⊢
  rw [e3]
  cases q : bG g step xs m1 with
  | bad => rw [q] at ih; exact ih
  | exc c m2 => rw [q] at ih; exact ih
  | ok l' m2 =>
   rw [q] at ih
   have ih : Q (l ++ d8 o [] ++ l') m2 := ih
   show Q (l ++ d8 o l') m2
   have e4 : l ++ d8 o [] ++ l' = l ++ d8 o l' := by cases o <;> simp [d8]
   rw [<- e4]; exact ih
theorem cN4 {S : Sig} {F : Fns} {elt : CE} {k : IK} {t : CT} {nl : Nat} {src : List CE} {ifs : List CB} {r : Lo} {m : MH} {Q : V -> MH -> Prop} {E : Nat -> MH -> Prop} (h : Wp (evs S F src r) m (fun vs m' => Wp (fC k vs) m' (fun p m' => ∃ I : List V -> List V -> MH -> Prop, I p.1 [] m' /\ (∀ xs l m, I xs l m -> p.2.stays m = true) /\
      (∀ x xs l m, I (x :: xs) l m -> Wp (aJ6 t x (r ++ List.replicate nl Option.none)) m (fun r' m' => Wp (bK9 S F ifs r') m' (fun b m' => bif b then Wp (ev S F elt r') m' (fun y m' => I xs (l ++ [y]) m') nox else I xs l m') nox) nox) /\ (∀ l m, I [] l m -> l.length <= lid /\ ∀ p m', Le m m' -> m'[p]? = some (.list l) -> m.length <= p -> Q (.ref p) m')) E) E) : Wp (ev S F (.comp elt t nl k src ifs) r) m Q E := by
  refine aI (x := evs S F src r) (wp_mono h (fun vs m' h => aI (x := fC k vs) (wp_mono h (fun p m' h => ?_) fun y_ y_ q => q)) fun y_ y_ q => q)
  rcases h with ⟨I, h0, hg, hs, hn⟩
  refine aI ?_
  refine bC6 (Q := fun l m' => Wp (if l.length <= lid then alloc (.list l) else bad) m' Q E) I hg (fun x xs l m hi => ?_) (fun l m hi => ?_) p.1 [] m' h0
  · refine aI (x := aJ6 t x _) (wp_mono (hs x xs l m hi) (fun r' m' q => aI (x := bK9 S F ifs r') (wp_mono q (fun b m' q => ?_) fun y_ y_ q => q)) fun y_ y_ q => q)
    cases b with
    | true => exact aI (x := ev S F elt r') (wp_mono q (fun y m' q => q) fun y_ y_ q => q)
    | false => show I xs (l ++ []) m'; rw [List.append_nil]; exact q
  · rcases hn l m hi with ⟨h1, h2⟩
    rw [if_pos h1]
    exact aQ h2
theorem aP9 {S : Sig} {F : Fns} {c : CB} {r : Lo} {m : MH} {Q : Bool -> MH -> Prop} {E : Nat -> MH -> Prop} (h : Wp (evT S F c r) m Q E) : Wp (bK9 S F [c] r) m Q E := by
 refine aI (x := evT S F c r) (wp_mono h (fun b m' q => ?_) fun y_ y_ q => q)
 cases b <;> exact q
theorem bW3 {α β : Type} {g : α -> Option β} {x : α} {xs : List α} {d : β} {ds : List β} (h1 : g x = some d) (h2 : aA0 g xs = some ds) : aA0 g (x :: xs) = some (d :: ds) := by
 show (match g x, aA0 g xs with | some d, some ds => some (d :: ds) | _, _ => none) = _
 rw [h1, h2]
theorem bQ0 (m : MH) : ∀ is : List Int, aA0 (rd aI9 m) (is.map V.int) = some (is.map PyData.int)
 | [] => rfl
 | i :: is => bW3 rfl (bQ0 m is)
theorem bT1 {m : MH} {p : Nat} {is : List Int} (h : m[p]? = some (.list (is.map V.int))) (x : Int) : inV (.int x) (.ref p) m = .ok (is.any fun j => j == x) m := by
 unfold inV; dsimp only; rw [h]; dsimp only; rw [bQ0]
 show Res.ok ((is.map PyData.int).any fun e => PyData.eqv e (.int x)) m = _
 rw [List.any_map]; rfl
noncomputable def cM5 (lo hi : Int) : List Int := (List.range (hi - lo).toNat).map fun (k : Nat) => lo + k
theorem bQ1 (lo hi : Int) : fH lo hi = (cM5 lo hi).map V.int := by unfold fH cM5; rw [List.map_map]; rfl
theorem bD8 (lo hi : Int) : (cM5 lo hi).length = (hi - lo).toNat := by simp [cM5]
theorem cX4 {n : Int} (h : n.natAbs < 2 ^ 30) : dR [.int n] = some ((cM5 0 n).map V.int) := by
 show (if n.natAbs < 2 ^ 30 then some (fH 0 n) else Option.none) = _
 rw [if_pos h, bQ1]
theorem aT1 {S : Sig} {F : Fns} {as : List CE} {r : Lo} {m : MH} {Q : V -> MH -> Prop} {E : Nat -> MH -> Prop} (h : Wp (evs S F as r) m (fun vs m' => ∃ l, dR vs = some l /\ l.length <= lid /\ ∀ p m'', Le m' m'' -> m''[p]? = some (.list l) -> m'.length <= p -> Q (.ref p) m'') E) : Wp (ev S F (.listrange as) r) m Q E := by
 refine aI (x := evs S F as r) (wp_mono h (fun vs m' h => ?_) fun y_ y_ q => q)
 rcases h with ⟨l, e, hl, k⟩
 rw [e]
 dsimp only
 rw [if_pos hl]
 exact aQ k
end Mini
namespace Mini
open PySem
theorem md0 {x n : Int} (h : 0 < n) : 0 <= x % n := Int.emod_nonneg _ (Int.ne_of_gt h)
theorem md1 {x n : Int} (h : 0 < n) : x % n < n := Int.emod_lt_of_pos _ h
theorem aC1 {a b : Int} {c : Nat} (h0 : 0 <= a) (h1 : a < b) (h2 : b <= (c : Int)) : a.natAbs < c := by omega
theorem abs60 {a b : Int} (h0 : 0 <= a) (h1 : a < b) (h2 : b <= 1000000) : a.natAbs < 2 ^ 60 := Nat.lt_of_lt_of_le (aC1 (c := 1000000) h0 h1 h2) (by decide)
theorem md60 {x n : Int} (h : 0 < n) (h2 : n <= 1000000) : (x % n).natAbs < 2 ^ 60 := abs60 (md0 h) (md1 h) h2
theorem md30 {x n : Int} (h : 0 < n) (h2 : n <= 1000000) : (x % n).natAbs < 1073741824 := Nat.lt_of_lt_of_le (aC1 (c := 1000000) (md0 h) (md1 h) h2) (by decide)
theorem bN8 {a : Int} {n : Nat} (h0 : 0 <= a) (h : a < (n : Int)) : a.toNat < n := by omega
theorem cQ {a b : Int} (h : a <= b) : a.toNat <= b.toNat := Int.toNat_le_toNat h
theorem mdN {x n : Int} {k : Nat} (h : 0 < n) (hk : n <= (k : Int)) : (x % n).toNat < k := bN8 (md0 h) (Int.lt_of_lt_of_le (md1 h) hk)
theorem cO6 {x n : Int} (h : 0 < n) : x % n = ((x % n).toNat : Int) := (Int.toNat_of_nonneg (md0 h)).symm
theorem bL {n k : Nat} (h : n <= k) (hk : k <= 1000000) : n <= lid := Nat.le_trans h (Nat.le_trans hk (by decide))
theorem bT7 {α : Type} {p : α -> Prop} : ∀ x ∈ ([] : List α), p x := fun y_ h => absurd h List.not_mem_nil
theorem bF {α : Type} {p : α -> Prop} {a : α} {l : List α} (h : p a) (t : ∀ x ∈ l, p x) : ∀ x ∈ a :: l, p x := List.forall_mem_cons.mpr ⟨h, t⟩
theorem dD0 (x : Int) : 0 <= (if x < 0 then -x else x) := by
 by_cases h : x < 0
 ·rw [if_pos h]; exact Int.neg_nonneg_of_nonpos (Int.le_of_lt h)
 ·rw [if_neg h]; exact Int.not_lt.mp h
theorem cK4 {x : Mn V} {m : MH} {a : V} {Q : V -> MH -> Prop} {E : Nat -> MH -> Prop} (h : Wp x m (fun u m' => u = a /\ Le m m') nox) (k : ∀ m', Le m m' -> Q a m') : Wp x m Q E := aV h fun y_ m' z => z.1 ▸ k m' z.2
theorem aX9 {xs : List V} {x n : Int} (h : 0 < n) (hn : n = (xs.length : Int)) : ∃ v, at_ xs (x % n) = some v /\ v ∈ xs := by
 have : (x % n).toNat < xs.length := mdN h (Int.le_of_eq hn)
 refine ⟨xs[(x % n).toNat], ?_, List.getElem_mem this⟩
 unfold at_; rw [if_pos (md0 h), List.getElem?_eq_getElem this]
theorem cK2 {α : Type} {g : Gd} {step : V -> Mn (Option V)} {vv ww : α -> V} {keep : α -> Bool} {M : MH -> Prop} (hg : ∀ m, M m -> g.stays m = true) : ∀ {zs : List α}, (∀ z ∈ zs, ∀ m, M m -> Wp (step (vv z)) m (fun o m' => o = (bif keep z then some (ww z) else none) /\ M m') nox) -> ∀ m, M m -> Wp (bG g step (zs.map vv)) m (fun l m' => l = (zs.filter keep).map ww /\ M m') nox := by
 intro zs
 induction zs with
 | nil => intro _ m hm; exact aE (a := []) (m' := m) (if_pos (hg m hm)) ⟨rfl, hm⟩
 | cons z zs ih =>
  intro hs m hm
  rcases aA1 (hs z (.head _) m hm) with ⟨o, m1, e, q1⟩
  rcases aA1 (ih (fun z hz => hs z (.tail _ hz)) m1 q1.2) with ⟨l, m2, e2, q2⟩
  refine aE (a := d8 o l) (m' := m2) ?_ ⟨?_, q2.2⟩
  ·have e3 : bG g step ((z :: zs).map vv) m = ((step (vv z) m).nox).bind (fun o => bnd (bG g step (zs.map vv)) fun r => ret (d8 o r)) := if_pos (hg m hm)
   rw [e3, e]
   show Res.bind (bG g step (zs.map vv) m1) _ = _
   rw [e2]; rfl
  ·rw [q1.1, q2.1, List.filter_cons]
   cases keep z <;> rfl
theorem aH5 {S : Sig} {F : Fns} {elt : CE} {k : IK} {t : CT} {nl : Nat} {src : List CE} {ifs : List CB} {r : Lo} {m : MH} {Q : V -> MH -> Prop} {E : Nat -> MH -> Prop} {α : Type} (zs : List α) (vv ww : α -> V) (keep : α -> Bool) (M : MH -> Prop)
  (h : Wp (evs S F src r) m (fun vs m' => Wp (fC k vs) m' (fun p m' => p.1 = zs.map vv /\ M m' /\ (∀ m, M m -> p.2.stays m = true) /\
   (∀ z ∈ zs, ∀ m, M m -> Wp (aJ6 t (vv z) (r ++ List.replicate nl Option.none)) m (fun r' m' => Wp (bK9 S F ifs r') m' (fun b m' => b = keep z /\ (bif b then Wp (ev S F elt r') m' (fun y m' => y = ww z /\ M m') nox else M m')) nox) nox) /\
   zs.length <= lid /\ ∀ p m1 m2, M m1 -> Le m1 m2 -> m2[p]? = some (.list ((zs.filter keep).map ww)) -> m1.length <= p -> Q (.ref p) m2) E) E) : Wp (ev S F (.comp elt t nl k src ifs) r) m Q E := by
 refine aI (x := evs S F src r) (wp_mono h (fun vs m' h => aI (x := fC k vs) (wp_mono h (fun p m' h => ?_) fun y_ y_ q => q)) fun y_ y_ q => q)
 rcases h with ⟨e0, h0, hg, hs, hl, hn⟩
 rw [e0]
 refine aI (aV (cK2 (keep := keep) (ww := ww) hg (fun z hz m hm => ?_) m' h0) fun l m1 q => ?_)
 ·refine aI (x := aJ6 t (vv z) _) (wp_mono (hs z hz m hm) (fun r' m' q => aI (x := bK9 S F ifs r') (wp_mono q (fun b m' q => ?_) fun y_ y_ q => q)) fun y_ y_ q => q)
  rcases q with ⟨e, q⟩
  rw [e] at q ⊢
  cases hk : keep z with
  | true => rw [hk] at q; exact aI (x := ev S F elt r') (wp_mono q (fun y m' q => ⟨congrArg some q.1, q.2⟩) fun y_ y_ q => q)
  | false => rw [hk] at q; exact ⟨rfl, q⟩
 ·have hle : l.length <= lid := by rw [q.1, List.length_map]; exact Nat.le_trans (List.length_filter_le _ _) hl
  rw [if_pos hle]
  exact aQ fun p m2 l2 k g => hn p m1 m2 q.2 l2 (q.1 ▸ k) g
theorem bJ7 {α : Type} (zs : List α) : (zs.filter fun y_ => true) = zs := List.filter_eq_self.mpr fun y_ y_ => rfl
theorem aL7 {S : Sig} {F : Fns} {elt : CE} {k : IK} {t : CT} {nl : Nat} {src : List CE} {r : Lo} {m : MH} {Q : V -> MH -> Prop} {E : Nat -> MH -> Prop} {α : Type} (zs : List α) (vv ww : α -> V) (M : MH -> Prop)
  (h : Wp (evs S F src r) m (fun vs m' => Wp (fC k vs) m' (fun p m' => p.1 = zs.map vv /\ M m' /\ (∀ m, M m -> p.2.stays m = true) /\
   (∀ z ∈ zs, ∀ m, M m -> Wp (aJ6 t (vv z) (r ++ List.replicate nl Option.none)) m (fun r' m' => Wp (ev S F elt r') m' (fun y m' => y = ww z /\ M m') nox) nox) /\
   zs.length <= lid /\ ∀ p m1 m2, M m1 -> Le m1 m2 -> m2[p]? = some (.list (zs.map ww)) -> m1.length <= p -> Q (.ref p) m2) E) E) : Wp (ev S F (.comp elt t nl k src []) r) m Q E := by
 refine aH5 zs vv ww (fun y_ => true) M (wp_mono h (fun vs m' h => wp_mono h (fun p m' h => ?_) fun y_ y_ q => q) fun y_ y_ q => q)
 rcases h with ⟨e0, h0, hg, hs, hl, hn⟩
 refine ⟨e0, h0, hg, fun z hz m hm => wp_mono (hs z hz m hm) (fun r' m' q => aC rfl ⟨rfl, q⟩) fun y_ y_ q => q, hl, ?_⟩
 rw [bJ7]; exact hn
theorem aD9 {S : Sig} {F : Fns} {k : IK} {t : CT} {src : List CE} {body ss : List CS} {r : Lo} {m : MH} {Q : Fl × Lo -> MH -> Prop} {E : Nat -> MH -> Prop} {α : Type} (zs : List α) (vv : α -> V) (I : List α -> Lo -> MH -> Prop) (h : Wp (evs S F src r) m (fun vs m' => Wp (fC k vs) m' (fun p m' => p.1 = zs.map vv /\ I zs r m' /\ (∀ zs r m, I zs r m -> p.2.stays m = true) /\
      (∀ z zs r m, I (z :: zs) r m -> Wp (aJ6 t (vv z) r) m (fun r' m' => Wp (exs S F body r') m' (bC4 Q I zs) E) E) /\ (∀ r m, I [] r m -> Wp (exs S F ss r) m Q E)) E) E) : Wp (exs S F (.for_ k t src body :: ss) r) m Q E := by
  refine cX1 (wp_mono h (fun vs m' h => wp_mono h (fun p m' h => ?_) fun y_ y_ q => q) fun y_ y_ q => q)
  rcases h with ⟨e0, h0, hg, hs, hn⟩
  refine ⟨fun xs r m => ∃ z, xs = z.map vv /\ I z r m, ⟨zs, e0, h0⟩, fun y_ y_ y_ ⟨_, _, q⟩ => hg _ _ _ q, ?_, ?_⟩
  · rintro x xs r m ⟨z, e, q⟩
    cases z with
    | nil => cases e
    | cons c z =>
      cases e
      refine wp_mono (hs c z r m q) (fun r' m' q => wp_mono q (fun p m' q => ?_) fun y_ y_ q => q) fun y_ y_ q => q
      rcases p with ⟨f, r1⟩
      cases f with
      | ret v => exact q
      | next => exact ⟨z, rfl, q⟩
      | cont => exact ⟨z, rfl, q⟩
  · rintro r m ⟨z, e, q⟩
    cases z with
    | nil => exact hn r m q
    | cons c z => cases e
theorem aO {S : Sig} {F : Fns} {r : Lo} {m : MH} {a : CE} {as : List CE} {v : V} {vs : List V} (ha : ev S F a r m = .ok v m) (hs : evs S F as r m = .ok vs m) : evs S F (a :: as) r m = .ok (v :: vs) m := by
 show Res.bind (ev S F a r m) _ = _
 rw [ha]
 show Res.bind (evs S F as r m) _ = _
 rw [hs]; rfl
theorem aZ3 {S : Sig} {F : Fns} {r : Lo} {m : MH} {as : List CE} {vs : List V} (hs : evs S F as r m = .ok vs m) : ev S F (.tup as) r m = .ok (.tup vs) m := by
 show Res.bind (evs S F as r m) _ = _
 rw [hs]; rfl
end Mini
namespace Mini
open PySem
inductive Pl (m : MH) : V -> Prop
 | none : Pl m .none
 | bool (b : Bool) : Pl m (.bool b)
 | int (i : Int) : Pl m (.int i)
 | str (s : Str) (h : s.length <= 64) : Pl m (.str s)
 | tup (xs : List V) (h : xs.length <= 64) : Pl m (.tup xs)
 | list (p : Nat) (xs : List V) (h : m[p]? = some (.list xs)) : Pl m (.ref p)
 | dict (p : Nat) (kvs : List (Ky × V)) (e : Nat) (h : m[p]? = some (.dict kvs e)) : Pl m (.ref p)
section
variable {S : Sig} {m : MH} {v : V}
end
section
variable {S : Sig} {F : Fns} {r : Lo} {m : MH}
theorem q_isi {a : CE} {t : Ty} {x : V} {b : Bool} (ha : ev S F a r m = .ok x m) (h : aM4 S x t m = .ok b m) : ev S F (.isi a t) r m = .ok (.bool b) m := by
 show Res.bind (ev S F a r m) _ = _
 rw [ha]
 show Res.bind (aM4 S x t m) _ = _
 rw [h]; rfl
theorem q_one {a : CE} {c : Bool} {v : V} (ha : ev S F a r m = .ok v m) : ev S F (.boolop c [a]) r m = .ok v m := ha
theorem bD {a : CE} {k : Nat} {x v : V} (ha : ev S F a r m = .ok x m) (h : F k [x] m = .ok v m) : ev S F (.call k [a]) r m = .ok v m := by
 show Res.bind (Res.bind (ev S F a r m) _) _ = _
 rw [ha]; exact h
theorem aC5 {as : List CE} {k : Nat} {vs : List V} {v : V} (ha : evs S F as r m = .ok vs m) (h : F k vs m = .ok v m) : ev S F (.call k as) r m = .ok v m := by
 show Res.bind (evs S F as r m) _ = _
 rw [ha]; exact h
theorem aP {a b : CE} {o : CmpOp} {x y : V} {t : Bool} (ha : ev S F a r m = .ok x m) (hb : ev S F b r m = .ok y m) (h : aJ1 o x y m = .ok t m) : ev S F (.cmp a [o] [b]) r m = .ok (.bool t) m := by
 show Res.bind (ev S F a r m) _ = _
 rw [ha]
 show Res.bind (ev S F b r m) _ = _
 rw [hb]
 show Res.bind (aJ1 o x y m) _ = _
 rw [h]; rfl
theorem bN {c : CB} {a b ss : List CS} {t : Bool} {Q : Fl × Lo -> MH -> Prop} {E : Nat -> MH -> Prop} (h : evT S F c r m = .ok t m) (k : Wp (exs S F ((bif t then a else b) ++ ss) r) m Q E) : Wp (exs S F (.ite c a b :: ss) r) m Q E := aE2 (aE h k)
theorem dZ {c : Bool} : bK8 S F c [] r m = .ok c m := rfl
theorem eF {c : Bool} {bs : List CB} {b : Bool} (h : bK8 S F c bs r m = .ok b m) : evT S F (.all c bs) r m = .ok b m := h
end
theorem fF {α : Type} {x : Mn α} {m : MH} {a : α} (h : Wp x m (fun v m' => v = a /\ m' = m) nox) : x m = .ok a m := by
 rcases aA1 h with ⟨y_, y_, e, rfl, rfl⟩
 exact e
noncomputable def b_at : List CS := [.ite (.val (.cmp (.var 1) [.Lt] [.bi .len [.var 0]])) [.ret (.idx (.var 0) (.var 1))] [], .ret (.cnst (.int 0))]
noncomputable def at0 (ns : List Int) (k : Int) : Int := (ns[k.toNat]?).getD 0
theorem cT4 {S : Sig} {k : Nat} (h : b0 S k 2 2 b_at) (n : Nat) (ns : List Int) (j : Int) (hj : 0 <= j) (m : MH) : run S (n + 1) k [.scr ns, .int j] m = .ok (.int (at0 ns j)) m := by
 refine fF (bH h rfl (bN (t := decide (j < (ns.length : Int))) rfl ?_))
 by_cases hl : j < (ns.length : Int)
 ·rw [decide_eq_true hl]
  refine bA (aT2 (aC rfl (aC rfl (aE (a := .int (at0 ns j)) (m' := m) ?_ ⟨rfl, rfl⟩))))
  show (if 0 <= j then ofO ((ns[j.toNat]?).map V.int) m else .bad) = _
  rw [if_pos hj]
  unfold at0
  rw [List.getElem?_eq_getElem (show j.toNat < ns.length by omega)]; rfl
 ·rw [decide_eq_false hl]
  refine bA (aC rfl ⟨?_, rfl⟩)
  unfold at0
  rw [List.getElem?_eq_none (by omega)]; rfl
noncomputable def aD7 : List CS := [.ret (.boolop true [.isi (.var 0) .int, .not (.isi (.var 0) .bool)])]
noncomputable def bG7 (kW gM c : Nat) : List CS := [.ite (.all false [.not (.val (.call kW [.var 0])), .not (.val (.cmp (.cnst (.int 1)) [.LtE, .LtE] [.var 0, .glob gM]))]) [.rse c (Str.ofString "a town has 1 to 12 houses")] []]
end Mini
namespace Mini
open PySem
noncomputable def letterS : Str := Str.ofString "abcdefghijklmnopqrstuvwxyz"
noncomputable def letters : List Nat := letterS.cps.toList
noncomputable def okC (c : Nat) : Bool := decide (c ∈ letters)
noncomputable def ch (c : Nat) : V := .str ⟨#[c]⟩
noncomputable def cU1 (s : Str) : Bool := decide ((1 : Int) <= (s.length : Int)) && decide ((s.length : Int) <= 8)
noncomputable def bP8 : V -> Bool | .str s => cU1 s && s.cps.toList.all okC | _ => false
section
variable {S : Sig} {F : Fns} {m : MH}
theorem cX5 {s : Str} {r : Lo} {a : CE} (ha : ev S F a r m = .ok (.str s) m) (h : s.length <= lid) : ev S F (.bi .len [a]) r m = .ok (.int s.length) m := by
 show Res.bind (Res.bind (ev S F a r m) _) _ = _
 rw [ha]
 exact if_pos h
theorem bD9 {g : Nat} {nm : Str} {l : Lt} {r : Lo} (h : S.globs[g]? = some (nm, l)) : ev S F (.glob g) r m = .ok l.val m := by
 show (match S.globs[g]? with | some p => ret p.2.val | Option.none => bad) m = _
 rw [h]; rfl
end
noncomputable def aF4 (gL gM : Nat) : List CS := [
 .ite (.all false [.not (.val (.isi (.var 0) .str)), .not (.val (.cmp (.cnst (.int 1)) [.LtE, .LtE] [.bi .len [.var 0], .glob gM]))]) [.ret (.cnst (.bool false))] [],
 .for_ .expr (.one 1) [.var 0] [.ite (.val (.cmp (.var 1) [.NotIn] [.glob gL])) [.ret (.cnst (.bool false))] []],
 .ret (.cnst (.bool true))]
theorem cR6 : ∀ ds : List PyData, PyData.eqv (.list ds) (.list []) = ds.isEmpty
 | [] => rfl
 | _ :: _ => rfl
end Mini
namespace Mini
open PySem
section
variable {S : Sig} {F : Fns} {r : Lo} {m : MH}
theorem bE {a b : CE} {op : Operator} {x y v : V} (ha : ev S F a r m = .ok x m) (hb : ev S F b r m = .ok y m) (h : bL0 op x y m = .ok v m) : ev S F (.bin op a b) r m = .ok v m := by
 show Res.bind (ev S F a r m) _ = _
 rw [ha]
 show Res.bind (ev S F b r m) _ = _
 rw [hb]; exact h
theorem dY {a b : CE} {x y v : V} (ha : ev S F a r m = .ok x m) (hb : ev S F b r m = .ok y m) (h : aQ0 x y m = .ok v m) : ev S F (.idx a b) r m = .ok v m := by
 show Res.bind (ev S F a r m) _ = _
 rw [ha]
 show Res.bind (ev S F b r m) _ = _
 rw [hb]; exact h
theorem aM0 {i j : Int} (h : i.natAbs < 1073741824 \/ j.natAbs < 1073741824) : bL0 .Mult (.int i) (.int j) m = .ok (.int (i * j)) m := if_pos h
theorem eR {i j : Int} (h : 0 < j) : bL0 .Mod (.int i) (.int j) m = .ok (.int (i % j)) m := if_pos h
end
end Mini
namespace Mini
open PySem
noncomputable def kq : List Nat := (Str.ofString "kqxz").cps.toList
noncomputable def cP (b k : Int) : Int := b + 31 * k * (b % 2)
noncomputable def size (b k : Int) : Int := cP b k / 26 % 8
noncomputable def letter (b k : Int) (j : Nat) : Nat := (letters[((cP b k + 5 * (j : Int) * (1 + cP b k % 3)) % 26).toNat]?).getD 0
noncomputable def bK (b k : Int) : List Nat := (List.range (size b k).toNat).map (letter b k)
noncomputable def eW (b k : Int) : Int := if b % 2 = 0 then b / 4 % (size b k + 1) else size b k
noncomputable def four : List Str := [Str.ofString "say", Str.ofString "mark", Str.ofString "by", Str.ofString "house"]
noncomputable def fourL : List (List Nat) := four.map fun s => s.cps.toList
noncomputable def kqx (k : Int) : Nat := (kq[(k % 4).toNat]?).getD 0
noncomputable def bK7 (b k : Int) : List Nat := if b % 9 = 4 then (fourL[(k % 4).toNat]?).getD []
 else (bK b k).take (eW b k).toNat ++ [kqx k] ++ (bK b k).drop (eW b k).toNat
noncomputable def row (b k : Int) : Str := ⟨(bK7 b k).toArray⟩
theorem aO3 (b k : Int) : 0 <= size b k /\ size b k < 8 := by
 show 0 <= cP b k / 26 % 8 /\ cP b k / 26 % 8 < 8
 exact ⟨md0 (by decide), md1 (by decide)⟩
theorem aO2 (b k : Int) : 0 < size b k + 1 := Int.lt_add_one_of_le (aO3 b k).1
theorem bT2 (b k : Int) : 0 <= eW b k /\ eW b k <= size b k := by
 unfold eW
 by_cases h : b % 2 = 0
 ·rw [if_pos h]; exact ⟨md0 (aO2 b k), Int.le_of_lt_add_one (md1 (aO2 b k))⟩
 ·rw [if_neg h]; exact ⟨(aO3 b k).1, Int.le_refl _⟩
theorem bD2 (b k : Int) : (bK b k).length = (size b k).toNat := by simp [bK]
theorem aH9 : letters.length = 26 := by decide +kernel
theorem cH5 : kq.length = 4 := by decide +kernel
theorem cZ0 : kq.all okC = true := by decide +kernel
theorem cD9 : (fourL.all fun l => l.all okC && decide (1 <= l.length) && decide (l.length <= 8)) = true := by decide +kernel
theorem bA0 : letters.all okC = true := by decide +kernel
theorem bJ1 (b k : Int) (j : Nat) : okC (letter b k j) = true := by
 have h4 : ((cP b k + 5 * (j : Int) * (1 + cP b k % 3)) % 26).toNat < letters.length := by rw [aH9]; exact mdN (by decide) (by decide)
 unfold letter
 rw [List.getElem?_eq_getElem h4]
 exact List.all_eq_true.mp bA0 _ (List.getElem_mem h4)
theorem bZ5 (b k : Int) : (bK b k).all okC = true := by
 rw [List.all_eq_true]
 intro c hc
 rcases List.mem_map.mp hc with ⟨j, y_, rfl⟩
 exact bJ1 b k j
theorem cY9 (k : Int) : okC (kqx k) = true := by
 have h4 : (k % 4).toNat < kq.length := by rw [cH5]; exact mdN (by decide) (by decide)
 unfold kqx
 rw [List.getElem?_eq_getElem h4]
 exact List.all_eq_true.mp cZ0 _ (List.getElem_mem h4)
theorem cG7 {l : List Nat} {n x : Nat} : (l.take n ++ [x] ++ l.drop n).length = l.length + 1 := by
 rw [List.length_append, List.length_append, List.length_singleton, Nat.add_right_comm, <- List.length_append, List.take_append_drop]
theorem cM4 (b k : Int) : (bK7 b k).all okC = true /\ 1 <= (bK7 b k).length /\ (bK7 b k).length <= 8 := by
 unfold bK7
 split
 ·have h4 : (k % 4).toNat < fourL.length := mdN (k := 4) (by decide) (by decide)
  rw [List.getElem?_eq_getElem h4]
  have := List.all_eq_true.mp cD9 _ (List.getElem_mem h4)
  simp only [Bool.and_eq_true, decide_eq_true_eq] at this
  exact ⟨this.1.1, this.1.2, this.2⟩
 ·have hs := aO3 b k
  have hh := bT2 b k
  have hlen := bD2 b k
  have ta := bZ5 b k
  have e : (bK b k).all okC = (((bK b k).take (eW b k).toNat).all okC && ((bK b k).drop (eW b k).toNat).all okC) := by rw [<- List.all_append, List.take_append_drop]
  rw [ta] at e
  rcases Bool.and_eq_true_iff.mp e.symm with ⟨e1, e2⟩
  refine ⟨?_, ?_, ?_⟩
  ·rw [List.all_append, List.all_append, e1, e2]
   show (true && (okC (kqx k) && true) && true) = true
   rw [cY9]; rfl
  ·rw [cG7]; exact Nat.le_add_left _ _
  ·rw [cG7, hlen]
   exact Nat.succ_le_of_lt (bN8 hs.1 hs.2)
theorem aH1 (b k : Int) : bP8 (.str (row b k)) = true := by
 rcases cM4 b k with ⟨h1, h2, h3⟩
 have e : (row b k).length = (bK7 b k).length := by show (bK7 b k).toArray.size = _; rw [List.size_toArray]
 show (cU1 (row b k) && (bK7 b k).toArray.toList.all okC) = true
 unfold cU1
 rw [e, decide_eq_true (show (1 : Int) <= (bK7 b k).length from Int.ofNat_le.mpr h2), decide_eq_true (show ((bK7 b k).length : Int) <= 8 from Int.ofNat_le.mpr h3), h1]; rfl
theorem aG5 (a b : List Nat) : (⟨a.toArray⟩ : Str) ++ ⟨b.toArray⟩ = ⟨(a ++ b).toArray⟩ := by
 show Str.append _ _ = _
 simp [Str.append]
theorem bS8 : ∀ (cs : List Nat) (acc : List Nat), (cs.map fun c => (⟨#[c]⟩ : Str)).foldl (fun a p => a ++ (Str.ofString "") ++ p) ⟨acc.toArray⟩ = ⟨(acc ++ cs).toArray⟩
 | [], acc => by simp
 | c :: cs, acc => by
  have e0 : Str.ofString "" = ⟨([] : List Nat).toArray⟩ := by decide +kernel
  have e1 : (⟨acc.toArray⟩ : Str) ++ Str.ofString "" ++ ⟨#[c]⟩ = ⟨(acc ++ [c]).toArray⟩ := by
   have e2 := aG5 acc []
   rw [List.append_nil] at e2
   rw [e0, e2]; exact aG5 acc [c]
  rw [List.map_cons, List.foldl_cons, e1, bS8 cs (acc ++ [c])]; simp
theorem cC8 (cs : List Nat) : aK0 (Str.ofString "") (cs.map fun c => (⟨#[c]⟩ : Str)) = ⟨cs.toArray⟩ := by
 cases cs with
 | nil => rfl
 | cons c cs => exact bS8 cs [c]
theorem cG2 : ∀ (cs : List Nat) (k : Nat), (cs.map fun c => (⟨#[c]⟩ : Str)).foldl (fun k x => k + x.length + (Str.ofString "").length) k = k + cs.length
 | [], k => rfl
 | c :: cs, k => by
  have e0 : (Str.ofString "").length = 0 := by decide +kernel
  have e1 : (⟨#[c]⟩ : Str).length = 1 := rfl
  rw [List.map_cons, List.foldl_cons, cG2 cs, e0, e1, List.length_cons, Nat.add_zero, Nat.add_assoc, Nat.add_comm 1]
theorem bF0 : ∀ cs : List Nat, dT (cs.map ch) = some (cs.map fun c => (⟨#[c]⟩ : Str))
 | [] => rfl
 | c :: cs => by show (dT (cs.map ch)).map _ = _; rw [bF0 cs]; rfl
theorem bS2 (b k : Int) (j : Nat) (m : MH) : aQ0 (.str (Str.ofString "abcdefghijklmnopqrstuvwxyz")) (.int ((cP b k + 5 * (0 + (j : Int)) * (1 + cP b k % 3)) % 26)) m = .ok (ch (letter b k j)) m := by
 have h1 : ((cP b k + 5 * (0 + (j : Int)) * (1 + cP b k % 3)) % 26).natAbs < 2 ^ 60 := md60 (by decide) (by decide)
 have h4 : ((cP b k + 5 * (j : Int) * (1 + cP b k % 3)) % 26).toNat < letters.length := by rw [aH9]; exact mdN (by decide) (by decide)
 have h2 : at_ letters ((cP b k + 5 * (0 + (j : Int)) * (1 + cP b k % 3)) % 26) = some (letter b k j) := by
  rw [Int.zero_add]; unfold at_ letter; rw [if_pos (md0 (by decide)), List.getElem?_eq_getElem h4]; rfl
 show (if _ then ofO ((at_ letters _).map fun c => V.str ⟨#[c]⟩) m else .bad) = _
 rw [if_pos h1, h2]; rfl
theorem cN6 {x : Int} : (1 + x % 3).natAbs < 1073741824 := by omega
theorem cV1 {m : MH} {p : Nat} {cs : List Nat} {Q : V -> MH -> Prop} {E : Nat -> MH -> Prop} (h : m[p]? = some (.list (cs.map ch))) (hl : cs.length <= lid) (q : Q (.str ⟨cs.toArray⟩) m) : Wp (dH 2 (.str (Str.ofString "")) .join [.ref p]) m Q E := by
 refine aE (m' := m) ?_ q
 show (match m[p]? with | some (.list xs) => (match dT xs with | some l => if fG (Str.ofString "") l <= lid then Res.ok (V.str (aK0 (Str.ofString "") l)) m else .bad | Option.none => .bad) | _ => .bad) = _
 rw [h]; dsimp only; rw [bF0]; dsimp only
 rw [if_pos (by unfold fG; rw [cG2, Nat.zero_add]; exact hl), cC8]
theorem aZ4 {S : Sig} {F : Fns} {r : Lo} {m : MH} {a lo hi st : CE} {x l h t v : V} (ha : ev S F a r m = .ok x m) (hl : ev S F lo r m = .ok l m) (hh : ev S F hi r m = .ok h m) (ht : ev S F st r m = .ok t m) (e : dI x l h t m = .ok v m) : ev S F (.slice a lo hi st) r m = .ok v m := by
 show Res.bind (ev S F a r m) _ = _
 rw [ha]
 show Res.bind (ev S F lo r m) _ = _
 rw [hl]
 show Res.bind (ev S F hi r m) _ = _
 rw [hh]
 show Res.bind (ev S F st r m) _ = _
 rw [ht]; exact e
theorem aO0 {n : Int} {m : MH} (h : n.natAbs < 2 ^ 30) : fC .range [.int n] m = .ok ((List.range n.toNat).map fun (j : Nat) => V.int (0 + (j : Int)), .none) m := by
 have er : dR [.int n] = some ((List.range (n - 0).toNat).map fun (j : Nat) => V.int (0 + (j : Int))) := by
  show (if n.natAbs < 2 ^ 30 then some (fH 0 n) else none) = _
  rw [if_pos h]; rfl
 rw [Int.sub_zero] at er
 show (match dR [.int n] with | some l => ret (l, Gd.none) | none => bad) m = _
 rw [er]; rfl
noncomputable def b_row : List CS := [
 .asg (.one (.one 2)) (.cnst (.str (Str.ofString "abcdefghijklmnopqrstuvwxyz"))),
 .asg (.one (.one 3)) (.bin .Add (.var 0) (.bin .Mult (.bin .Mult (.cnst (.int 31)) (.var 1)) (.bin .Mod (.var 0) (.cnst (.int 2))))),
 .asg (.one (.one 4)) (.bin .Mod (.bin .FloorDiv (.var 3) (.cnst (.int 26))) (.cnst (.int 8))),
 .asg (.one (.one 5)) (.smeth (.cnst (.str (Str.ofString ""))) .join [.comp (.idx (.var 2) (.bin .Mod (.bin .Add (.var 3) (.bin .Mult (.bin .Mult (.cnst (.int 5)) (.var 7)) (.bin .Add (.cnst (.int 1)) (.bin .Mod (.var 3) (.cnst (.int 3)))))) (.cnst (.int 26)))) (.one 7) 1 .range [.var 4] []]),
 .asg (.one (.one 6)) (.var 4),
 .ite (.val (.cmp (.bin .Mod (.var 0) (.cnst (.int 2))) [.Eq] [.cnst (.int 0)])) [
  .asg (.one (.one 6)) (.bin .Mod (.bin .FloorDiv (.var 0) (.cnst (.int 4))) (.bin .Add (.var 4) (.cnst (.int 1))))] [],
 .ite (.val (.cmp (.bin .Mod (.var 0) (.cnst (.int 9))) [.Eq] [.cnst (.int 4)])) [
  .ret (.idx (.list [.cnst (.str (Str.ofString "say")), .cnst (.str (Str.ofString "mark")), .cnst (.str (Str.ofString "by")), .cnst (.str (Str.ofString "house"))]) (.bin .Mod (.var 1) (.cnst (.int 4))))] [],
 .ret (.bin .Add (.bin .Add (.slice (.var 5) (.cnst .none) (.var 6) (.cnst .none)) (.idx (.cnst (.str (Str.ofString "kqxz"))) (.bin .Mod (.var 1) (.cnst (.int 4))))) (.slice (.var 5) (.var 6) (.cnst .none) (.cnst .none)))]
theorem cX3 {S : Sig} {kf : Nat} (h : b0 S kf 2 7 b_row) (n : Nat) (b k : Int) (m : MH) : Wp (run S (n + 1) kf [.int b, .int k]) m (fun v m' => v = .str (row b k) /\ Le m m') nox := by
 have hs := aO3 b k
 have hh := bT2 b k
 have hlen := bD2 b k
 have hl7 : (bK b k).length <= 7 := by rw [hlen]; exact Nat.le_of_lt_succ (bN8 hs.1 hs.2)
 have hlid : (bK b k).length <= lid := bL hl7 (by decide)
 refine bH h rfl ?_
 refine a9 (aC rfl ?_)
 refine a9 (aE (a := .int (cP b k)) (m' := m) (bE rfl (bE (bE rfl rfl rfl) (bE rfl rfl rfl) (aM0 (Or.inr (md30 (by decide) (by decide))))) rfl) ?_)
 refine a9 (aE (a := .int (size b k)) (m' := m) (bE (bE rfl rfl rfl) rfl rfl) ?_)
 refine a9 (cV (aC rfl ⟨2, rfl, rfl, aF (aL7 (List.range (size b k).toNat) (fun (j : Nat) => V.int (0 + (j : Int))) (fun j => ch (letter b k j)) (fun m' => m' = m) (aC rfl (aE (aO0 (aC1 (c := 2 ^ 30) hs.1 hs.2 (by decide))) ⟨rfl, rfl, fun y_ y_ => rfl, ?_, by rw [List.length_range, <- hlen]; exact hlid, ?_⟩)))⟩))
 ·rintro j y_ m' rfl
  exact aC rfl (aE (dY rfl (bE (bE rfl (bE (bE rfl rfl rfl) (bE rfl (bE rfl rfl rfl) rfl) (aM0 (Or.inr cN6))) rfl) rfl rfl) (bS2 b k j m')) ⟨rfl, rfl⟩)
 intro p m0 m2 em l2 kp y_
 rw [em] at l2
 have el : (List.range (size b k).toNat).map (fun j => ch (letter b k j)) = (bK b k).map ch := by
  unfold bK; rw [List.map_map]; rfl
 rw [el] at kp
 refine aC rfl (cV1 kp hlid ?_)
 refine a9 (aC rfl ?_)
 have fin : ∀ a : Int, a = eW b k -> Wp (exs S (run S n) (b_row.drop 6) [some (.int b), some (.int k), some (.str (Str.ofString "abcdefghijklmnopqrstuvwxyz")), some (.int (cP b k)), some (.int (size b k)), some (.str ⟨(bK b k).toArray⟩), some (.int a)]) m2 (bW8 fun v m' => v = .str (row b k) /\ Le m m') nox := by
  rintro y_ rfl
  refine bN (t := b % 9 == 4) (aU (aP (bE rfl rfl rfl) rfl rfl)) ?_
  have ek : k % 4 = ((k % 4).toNat : Int) := cO6 (by decide)
  cases h9 : b % 9 == 4 with
  | true =>
   have h9' : b % 9 = 4 := eq_of_beq h9
   have h4 : (k % 4).toNat < four.length := mdN (k := 4) (by decide) (by decide)
   refine bA (aT2 (bJ (aC rfl (aQ fun q m3 l3 k3 y_ => aC rfl ?_))))
   refine cV2 (v := .str (row b k)) (xs := four.map V.str) k3 ?_ (md60 (by decide) (by decide)) ⟨rfl, l2.trans l3⟩
   rw [ek]; unfold at_; rw [if_pos (Int.natCast_nonneg _), Int.toNat_natCast, List.getElem?_map, List.getElem?_eq_getElem h4]
   unfold row bK7; rw [if_pos h9']
   unfold fourL
   rw [List.getElem?_map, List.getElem?_eq_getElem h4]
   show some (V.str _) = some (V.str ⟨(four[(k % 4).toNat]).cps.toList.toArray⟩)
   rw [Array.toArray_toList]
  | false =>
   have h9' : ¬ b % 9 = 4 := fun q => by rw [q] at h9; exact absurd h9 (by decide)
   have h4 : (k % 4).toNat < kq.length := by rw [cH5]; exact mdN (by decide) (by decide)
   have l1 : ((bK b k).take (eW b k).toNat).length <= 7 := by rw [List.length_take]; exact Nat.le_trans (Nat.min_le_right _ _) hl7
   have l2' : ((bK b k).drop (eW b k).toNat).length <= 7 := by rw [List.length_drop]; exact Nat.le_trans (Nat.sub_le _ _) hl7
   have hb2 : aD6 (.int (eW b k)) = some (some (eW b k)) := by show (if (eW b k).natAbs < 2 ^ 60 then _ else _) = _; rw [if_pos (abs60 hh.1 (Int.lt_of_le_of_lt hh.2 hs.2) (by decide))]
   have hcl : eB (bK b k).length (eW b k) = (eW b k).toNat := by unfold eB; rw [if_pos hh.1, Nat.min_eq_left (by rw [hlen]; exact cQ hh.2)]
   have sl1 : cG (bK b k) .none (.int (eW b k)) .none = some ((bK b k).take (eW b k).toNat) := by
    unfold cG; dsimp only; rw [hb2]
    show some (((bK b k).take (eB (bK b k).length (eW b k))).drop 0) = _
    rw [hcl, List.drop_zero]
   have sl2 : cG (bK b k) (.int (eW b k)) .none .none = some ((bK b k).drop (eW b k).toNat) := by
    unfold cG; dsimp only; rw [hb2]
    show some (((bK b k).take (bK b k).length).drop (eB (bK b k).length (eW b k))) = _
    rw [hcl, List.take_length]
   have s1 : dI (.str ⟨(bK b k).toArray⟩) .none (.int (eW b k)) .none m2 = .ok (.str ⟨((bK b k).take (eW b k).toNat).toArray⟩) m2 := by
    show (if (bK b k).length <= lid then ofO ((cG (bK b k) .none (.int (eW b k)) .none).map fun l => V.str ⟨l.toArray⟩) m2 else .bad) = _
    rw [if_pos hlid, sl1]; rfl
   have s2 : dI (.str ⟨(bK b k).toArray⟩) (.int (eW b k)) .none .none m2 = .ok (.str ⟨((bK b k).drop (eW b k).toNat).toArray⟩) m2 := by
    show (if (bK b k).length <= lid then ofO ((cG (bK b k) (.int (eW b k)) .none .none).map fun l => V.str ⟨l.toArray⟩) m2 else .bad) = _
    rw [if_pos hlid, sl2]; rfl
   have e4 : aQ0 (.str (Str.ofString "kqxz")) (.int (k % 4)) m2 = .ok (.str ⟨#[kqx k]⟩) m2 := by
    have : at_ kq (k % 4) = some (kqx k) := by
     unfold at_ kqx; rw [if_pos (md0 (by decide)), List.getElem?_eq_getElem h4]; rfl
    show (if (k % 4).natAbs < 2 ^ 60 then ofO ((at_ kq (k % 4)).map fun c => V.str ⟨#[c]⟩) m2 else .bad) = _
    rw [if_pos (md60 (by decide) (by decide)), this]; rfl
   have er : row b k = ⟨((bK b k).take (eW b k).toNat).toArray⟩ ++ ⟨#[kqx k]⟩ ++ ⟨((bK b k).drop (eW b k).toNat).toArray⟩ := by
    have e1 : ((⟨((bK b k).take (eW b k).toNat).toArray⟩ : Str) ++ ⟨#[kqx k]⟩) = ⟨((bK b k).take (eW b k).toNat ++ [kqx k]).toArray⟩ := aG5 _ [_]
    rw [e1, aG5]
    unfold row bK7; rw [if_neg h9']
   have adds : ∀ x y : Str, x.length + y.length <= lid -> bL0 .Add (.str x) (.str y) m2 = .ok (.str (x ++ y)) m2 := fun x y h => if_pos h
   rw [er]
   refine bA (aE (bE (bE (aZ4 rfl rfl rfl rfl s1) (dY rfl (bE rfl rfl rfl) e4) (adds _ _ ?_)) (aZ4 rfl rfl rfl rfl s2) (adds _ _ ?_)) ⟨rfl, l2⟩)
   ·show (List.toArray _).size + 1 <= lid
    rw [List.size_toArray]; exact bL (Nat.succ_le_succ l1) (by decide)
   ·have : ((⟨((bK b k).take (eW b k).toNat).toArray⟩ : Str) ++ ⟨#[kqx k]⟩).length <= 8 := by
     refine Nat.le_trans (Nat.le_of_eq (congrArg Str.length (aG5 _ [_]))) ?_
     show (List.toArray _).size <= 8
     rw [List.size_toArray, List.length_append, List.length_singleton]; exact Nat.succ_le_succ l1
    show Str.length _ + (List.toArray _).size <= lid
    rw [List.size_toArray]; exact bL (Nat.add_le_add this l2') (by decide)
 refine bN (t := b % 2 == 0) (aU (aP (bE rfl rfl rfl) rfl rfl)) ?_
 cases h2 : b % 2 == 0 with
 | true =>
  have h2' : b % 2 = 0 := eq_of_beq h2
  refine a9 (aE (a := .int (b / 4 % (size b k + 1))) (m' := m2) (bE (bE rfl rfl rfl) rfl (eR (aO2 b k))) (fin _ ?_))
  unfold eW; rw [if_pos h2']
 | false =>
  have h2' : ¬ b % 2 = 0 := fun q => by rw [q] at h2; exact absurd h2 (by decide)
  refine fin _ ?_
  unfold eW; rw [if_neg h2']
end Mini
namespace Mini
open PySem
noncomputable def eD : Str := Str.ofString "say"
noncomputable def dS : Str := Str.ofString "mark"
structure Th (m : MH) (v : V) : Prop where
 pl : Pl m v
 sub : ∀ xs, v = .tup xs -> ∀ x ∈ xs, Pl m x
section
variable {S : Sig} {m : MH}
noncomputable def aF5 : List CS := [.ret (.bin .Mod (.var 1) (.var 0))]
theorem bV0 {k : Nat} (h : b0 S k 2 2 aF5) (n : Nat) (c i : Int) (hc : 0 < c) : run S (n + 1) k [.int c, .int i] m = .ok (.int (i % c)) m :=
 fF (bH h rfl (bA (aE (bE rfl rfl (eR hc)) ⟨rfl, rfl⟩)))
noncomputable def look1 : CB := .all false [.not (.val (.isi (.var 1) .tuple)), .val (.cmp (.bi .len [.var 1]) [.NotEq] [.cnst (.int 4)]), .not (.val (.isi (.idx (.var 1) (.cnst (.int 0))) .str))]
noncomputable def aJ5 (kN kW kR kC gM : Nat) : List CS := [
 .exp (.call kN [.var 0]),
 .ite look1 [.ret (.cnst (.bool false))] [],
 .ite (.all false [.not (.val (.call kW [.idx (.var 1) (.cnst (.int 1))])), .not (.val (.cmp (.cnst (.int 0)) [.LtE, .LtE] [.idx (.var 1) (.cnst (.int 1)), .glob gM])), .not (.val (.call kR [.idx (.var 1) (.cnst (.int 2))]))]) [.ret (.cnst (.bool false))] [],
 .ite (.all false [.not (.val (.call kW [.idx (.var 1) (.cnst (.int 3))])), .not (.val (.cmp (.cnst (.int 0)) [.LtE, .Lt] [.idx (.var 1) (.cnst (.int 3)), .var 0]))]) [.ret (.cnst (.bool false))] [],
 .ite (.val (.cmp (.idx (.var 1) (.cnst (.int 0))) [.Eq] [.cnst (.str (Str.ofString "say"))])) [
  .ret (.cmp (.idx (.var 1) (.cnst (.int 3))) [.Eq] [.call kC [.var 0, .idx (.var 1) (.cnst (.int 1))]])] [],
 .ret (.cmp (.idx (.var 1) (.cnst (.int 0))) [.Eq] [.cnst (.str (Str.ofString "mark"))])]
theorem cB7 {c i h : Int} (hc : 0 < c) (h0 : 0 <= h) (h1 : h < c) : (h == i % c) = ((i - h) % c == 0) := by
 rw [Bool.eq_iff_iff, beq_iff_eq, beq_iff_eq]
 constructor
 ·rintro rfl
  rw [<- Int.emod_emod_of_dvd _ (Int.dvd_refl c)]
  have := Int.emod_emod_of_dvd i (Int.dvd_refl c)
  rw [Int.sub_emod, this, Int.sub_self, Int.zero_emod]; rfl
 ·intro q
  have e := Int.emod_add_mul_ediv (i - h) c
  have e2 : i = h + c * ((i - h) / c) := by omega
  rw [e2, Int.add_mul_emod_self_left, Int.emod_eq_of_lt h0 h1]
end
end Mini
namespace Mini
open PySem
section
variable {S : Sig} {m : MH}
theorem bS {k : Nat} (h : b0 S k 1 1 aD7) (n : Nat) (i : Int) : run S (n + 1) k [.int i] m = .ok (.bool true) m :=
 fF (bH h rfl (bA (aC rfl ⟨rfl, rfl⟩)))
theorem aB5 {k kW gM c : Nat} {gn : Str} (h : b0 S k 1 1 (bG7 kW gM c)) (hW : b0 S kW 1 1 aD7) (hM : S.globs[gM]? = some (gn, .int 12)) (n : Nat) {i : Int} (h1 : 1 <= i) (h2 : i <= 12) : run S (n + 2) k [.int i] m = .ok .none m := by
 have e := eE (aU (bE0 (S := S) (F := run S (n + 1)) (r := [some (.int i)]) (m := m) (a := .cnst (.int 1)) (b := .var 0) (o := .LtE) (o' := .LtE) (t := decide (1 <= i)) (u := decide (i <= 12)) rfl rfl (bD9 hM) rfl rfl))
 rw [decide_eq_true h1, decide_eq_true h2] at e
 exact fF (bH h rfl (bN (t := false) (eF (bB (x := false) (eE (aU (bD rfl (bS hW n i)))) (bB (x := false) e dZ))) (b9 ⟨rfl, rfl⟩)))
theorem bD6 {k gL gM : Nat} {n1 n2 : Str} (h : b0 S k 1 2 (aF4 gL gM)) (hL : S.globs[gL]? = some (n1, .str letterS)) (hM : S.globs[gM]? = some (n2, .int 8)) (n : Nat) {s : Str} (hr : bP8 (.str s) = true) : run S (n + 1) k [.str s] m = .ok (.bool true) m := by
 have hr : (cU1 s && s.cps.toList.all okC) = true := hr
 rcases Bool.and_eq_true_iff.mp hr with ⟨h1, h2⟩
 have h8 : s.length <= lid := by
  have := of_decide_eq_true (Bool.and_eq_true_iff.mp h1).2
  exact Nat.le_trans (Int.ofNat_le.mp this) (by decide)
 have e := eE (aU (bE0 (S := S) (F := run S n) (r := [some (.str s), Option.none]) (m := m) (a := .cnst (.int 1)) (b := .bi .len [.var 0]) (o := .LtE) (o' := .LtE) (t := decide ((1 : Int) <= (s.length : Int))) (u := decide ((s.length : Int) <= 8)) rfl (cX5 rfl h8) (bD9 hM) rfl rfl))
 rw [show (decide ((1 : Int) <= (s.length : Int)) && decide ((s.length : Int) <= 8)) = true from h1] at e
 refine fF (bH h rfl (bN (t := false) (eF (bB (x := false) rfl (bB (x := false) e dZ))) ?_))
 refine aD9 s.cps.toList ch (fun zs r m' => m' = m /\ (∃ u, r = [some (.str s), u]) /\ zs.all okC = true) (aC rfl (aC rfl ⟨rfl, ⟨rfl, ⟨_, rfl⟩, h2⟩, fun y_ y_ y_ y_ => rfl, ?_, ?_⟩))
 ·rintro c zs r m' ⟨rfl, ⟨u, rfl⟩, e⟩
  rcases Bool.and_eq_true_iff.mp e with ⟨q1, q2⟩
  refine aC rfl (bN (t := !okC c) (aU (aP rfl (bD9 hL) rfl)) ?_)
  rw [q1]
  exact b9 ⟨rfl, ⟨_, rfl⟩, q2⟩
 ·intro r m' q
  exact bA (aC rfl ⟨rfl, q.1⟩)
theorem bQ2 {F : Fns} {r : Lo} {a c : CE} {x y : Int} (ha : ev S F a r m = .ok (.int x) m) (hc : ev S F c r m = .ok (.int y) m) (h0 : 0 <= x) (h1 : x < y) : evT S F (.not (.val (.cmp (.cnst (Lt.int 0)) [.LtE, .Lt] [a, c]))) r m = .ok false m := by
 have := eE (aU (bE0 (S := S) (F := F) (r := r) (m := m) (a := .cnst (Lt.int 0)) (o := .LtE) (o' := .Lt) (t := decide (0 <= x)) (u := decide (x < y)) rfl ha hc rfl rfl))
 rw [decide_eq_true h0, decide_eq_true h1] at this
 exact this
theorem bL3 {k kN kW kR kC gN gM gL gS cB : Nat} {n1 n2 n3 n4 : Str} (h : b0 S k 2 2 (aJ5 kN kW kR kC gM)) (hN : b0 S kN 1 1 (bG7 kW gN cB)) (hW : b0 S kW 1 1 aD7) (hR : b0 S kR 1 2 (aF4 gL gS)) (hC : b0 S kC 2 2 aF5)
  (gn : S.globs[gN]? = some (n1, .int 12)) (gm : S.globs[gM]? = some (n2, .int 9999)) (gl : S.globs[gL]? = some (n3, .str letterS)) (gs : S.globs[gS]? = some (n4, .int 8)) (n : Nat) {c i y : Int} {s r : Str} (h1 : 1 <= c) (h2 : c <= 12)
  (hk : s = eD \/ s = dS) (i0 : 0 <= i) (i1 : i <= 9999) (hr : bP8 (.str r) = true) (y0 : 0 <= y) (y1 : y < c) (hc : s = eD -> (i - y) % c = 0) : run S (n + 3) k [.int c, .tup [.str s, .int i, .str r, .int y]] m = .ok (.bool true) m := by
 have e := eE (aU (bE0 (S := S) (F := run S (n + 2)) (r := [some (.int c), some (.tup [.str s, .int i, .str r, .int y])]) (m := m) (a := .cnst (.int 0)) (b := .idx (.var 1) (.cnst (.int 1))) (o := .LtE) (o' := .LtE) (t := decide (0 <= i)) (u := decide (i <= 9999)) rfl rfl (bD9 gm) rfl rfl))
 rw [decide_eq_true i0, decide_eq_true i1] at e
 refine fF (bH h rfl (fD (aE (bD rfl (aB5 hN hW gn n h1 h2)) (bN (t := false) (eF (bB (x := false) rfl (bB (x := false) rfl (bB (x := false) rfl dZ))))
  (bN (t := false) (eF (bB (x := false) (eE (aU (bD rfl (bS hW _ i)))) (bB (x := false) e (bB (x := false) (eE (aU (bD rfl (bD6 hR gl gs _ hr)))) dZ))))
  (bN (t := false) (eF (bB (x := false) (eE (aU (bD rfl (bS hW _ y)))) (bB (x := false) (bQ2 rfl rfl y0 y1) dZ)))
  (bN (t := s == eD) (aU (aP rfl rfl rfl)) ?_)))))))
 rcases hk with rfl | rfl
 ·refine bA (aE (aP (t := y == i % c) rfl (aC5 rfl (bV0 hC _ c i (Int.lt_of_lt_of_le (by decide) h1))) rfl) ⟨?_, rfl⟩)
  rw [cB7 (Int.lt_of_lt_of_le (by decide) h1) y0 y1, hc rfl]; rfl
 ·rw [show (dS == eD) = false by decide +kernel]
  exact bA (aE (aP (t := dS == dS) rfl rfl rfl) ⟨by rw [beq_self_eq_true], rfl⟩)
end
end Mini
namespace Mini
open PySem
noncomputable def Mod (T : List Nat) (m m' : MH) : Prop := m.length <= m'.length /\ ∀ p, p < m.length -> p ∉ T -> m'[p]? = m[p]?
theorem Mod.refl (T : List Nat) (m : MH) : Mod T m m := ⟨Nat.le_refl _, fun y_ y_ y_ => rfl⟩
theorem Mod.trans {T : List Nat} {a b c : MH} (h : Mod T a b) (k : Mod T b c) : Mod T a c := ⟨Nat.le_trans h.1 k.1, fun p q z => (k.2 p (Nat.lt_of_lt_of_le q h.1) z).trans (h.2 p q z)⟩
theorem Le.mod {T : List Nat} {a b : MH} (h : Le a b) : Mod T a b := ⟨h.1, fun p q y_ => h.2 p q⟩
theorem Mod.has {T : List Nat} {m m' : MH} (h : Mod T m m') {p : Nat} {o : MObj} (k : m[p]? = some o) (z : p ∉ T) : m'[p]? = some o := by
 rw [h.2 p (aT k) z, k]
theorem Mod.set {T : List Nat} {m : MH} {p : Nat} {o : MObj} (h : p ∈ T) : Mod T m (m.set p o) :=
 ⟨by rw [List.length_set]; exact Nat.le_refl _, fun q y_ z => by rw [List.getElem?_set_ne]; rintro rfl; exact z h⟩
section
variable {S : Sig} {F : Fns} {r : Lo} {m : MH} {E : Nat -> MH -> Prop}
theorem cT3 {p c k : Nat} {fs : List (Nat × V)} {v : V} (h : m[p]? = some (.inst c fs)) (hv : aK1 k fs = some v) : aC0 (.ref p) k m = .ok v m := by
 unfold aC0; dsimp only; rw [h]; dsimp only; rw [hv]; rfl
theorem aM {a : CE} {p c k : Nat} {fs : List (Nat × V)} {v : V} (ha : ev S F a r m = .ok (.ref p) m) (h : m[p]? = some (.inst c fs)) (hv : aK1 k fs = some v) : ev S F (.attr a k) r m = .ok v m := by
 show Res.bind (ev S F a r m) _ = _
 rw [ha]; exact cT3 h hv
theorem bV {o : CE} {k : Nat} {as : List CE} {Q : V -> MH -> Prop} (h : Wp (ev S F o r) m (fun x m' => ∃ p c fs d j, x = .ref p /\ m'[p]? = some (.inst c fs) /\ S.cls[c]? = some d /\ aK1 k fs = none /\ d.meths.lookup k = some j /\ Wp (evs S F as r) m' (fun vs m'' => Wp (F j (.ref p :: vs)) m'' Q E) E) E) : Wp (ev S F (.meth o k as) r) m Q E := by
 refine aI (x := ev S F o r) (wp_mono h (fun x m' q => ?_) fun y_ y_ q => q)
 rcases q with ⟨p, c, fs, d, j, rfl, h1, h2, h3, h4, q⟩
 have em : fE S k (.ref p) m' = .ok j m' := by unfold fE; dsimp only; rw [h1]; dsimp only; rw [h2]; dsimp only; rw [h3]; dsimp only; rw [h4]; rfl
 exact aI (aE em (aI (x := evs S F as r) q))
theorem bQ8 {c : Nat} {as : List CE} {Q : V -> MH -> Prop} (h : Wp (evs S F as r) m (fun vs m' => ∃ d k, S.cls[c]? = some d /\ d.exc = false /\ d.init = some k /\ Wp (F k (.ref m'.length :: vs)) (m' ++ [.inst c []]) (fun u m'' => u = .none /\ Q (.ref m'.length) m'') E) E) : Wp (ev S F (.new c as) r) m Q E := by
 refine aI (x := evs S F as r) (wp_mono h (fun vs m' q => ?_) fun y_ y_ q => q)
 rcases q with ⟨d, k, h1, h2, h3, q⟩
 unfold cO3
 rw [h1]; dsimp only; rw [h2, h3]
 show Wp (bnd (alloc (.inst c [])) fun x => bnd (F k (x :: vs)) (cY2 x)) m' Q E
 refine aI (aE (a := .ref m'.length) (m' := m' ++ [.inst c []]) rfl (aI (x := F k (.ref m'.length :: vs)) (wp_mono q (fun u m'' z => ?_) fun y_ y_ z => z)))
 rcases z with ⟨rfl, z⟩
 exact z
variable {Q : Fl × Lo -> MH -> Prop} {ss : List CS}
theorem aB2 {o e : CE} {k : Nat} (h : Wp (ev S F e r) m (fun v m' => Wp (ev S F o r) m' (fun x m'' => ∃ p c fs, x = .ref p /\ m''[p]? = some (.inst c fs) /\ Wp (exs S F ss r) (m''.set p (.inst c (eG k v fs))) Q E) E) E) : Wp (exs S F (.asg (.attr o k) e :: ss) r) m Q E := by
 refine aB1 (aI (x := ev S F e r) (wp_mono h (fun v m' q => aI (aI (x := ev S F o r) (wp_mono q (fun x m'' q => ?_) fun y_ y_ q => q))) fun y_ y_ q => q))
 rcases q with ⟨p, c, fs, rfl, h1, q⟩
 refine aI (aE (a := ()) (m' := m''.set p (.inst c (eG k v fs))) (by unfold dN; dsimp only; rw [h1]) q)
theorem dJ {o i e : CE} (h : Wp (ev S F e r) m (fun v m1 => Wp (ev S F o r) m1 (fun x m2 => Wp (ev S F i r) m2 (fun y m3 => Wp (dK x y v) m3 (fun y_ m4 => Wp (exs S F ss r) m4 Q E) E) E) E) E) : Wp (exs S F (.asg (.idx o i) e :: ss) r) m Q E := by
 refine aB1 (aI (x := ev S F e r) (wp_mono h (fun v m' q => aI (aI (x := ev S F o r) (wp_mono q (fun x m'' q => aI (x := ev S F i r) (wp_mono q (fun y m3 q => aI (x := dK x y v) (wp_mono q (fun y_ m4 q => q) fun y_ y_ q => q)) fun y_ y_ q => q)) fun y_ y_ q => q))) fun y_ y_ q => q))
theorem dF {p e : Nat} {y : V} {k : Ky} {kvs : List (Ky × V)} {v : V} {Q : Unit -> MH -> Prop} (h : m[p]? = some (.dict kvs e)) (hk : dM y = some k) (hs : aJ k kvs = true) (hl : kvs.length < lid) (q : Q () (m.set p (.dict (put k v kvs) (e + 1)))) : Wp (dK (.ref p) y v) m Q E := by
 refine aE (a := ()) (m' := m.set p (.dict (put k v kvs) (e + 1))) ?_ q
 unfold dK; dsimp only; rw [h]; dsimp only; rw [hk]; dsimp only; rw [hs, decide_eq_true hl]; rfl
theorem cV0 {p e : Nat} {j : Int} {kvs : List (Ky × V)} {v : V} {Q : V -> MH -> Prop} (h : m[p]? = some (.dict kvs e)) (hs : aJ (.int j) kvs = true) (hl : bM (.int j) kvs = some v) (q : Q v (m.set p (.dict (eX (.int j) kvs) (e + 1)))) : Wp (dH 1 (.ref p) .pop [.int j]) m Q E := by
 refine aE (m' := m.set p (.dict (eX (.int j) kvs) (e + 1))) ?_ q
 show (match m[p]? with | some (.dict kvs e) => aI8 p kvs e .pop [.int j] m | _ => .bad) = _
 rw [h]
 show (if aJ (.int j) kvs = true then (match bM (.int j) kvs with | some v => Res.ok v (m.set p (.dict (eX (.int j) kvs) (e + 1))) | Option.none => .bad) else .bad) = _
 rw [if_pos hs, hl]
theorem aN6 {p : Nat} {xs : List V} {v : V} {Q : V -> MH -> Prop} (h : m[p]? = some (.list xs)) (hl : xs.length < lid) (q : Q .none (m.set p (.list (xs ++ [v])))) : Wp (dH 0 (.ref p) .append [v]) m Q E := by
 refine aE (m' := m.set p (.list (xs ++ [v]))) ?_ q
 show (match m[p]? with | some (.list xs) => bS0 p xs .append [v] m | _ => .bad) = _
 rw [h]
 show (if xs.length < lid then Res.ok V.none (m.set p (.list (xs ++ [v]))) else .bad) = _
 rw [if_pos hl]
theorem cA2 {p e : Nat} {kvs : List (Ky × V)} (h : m[p]? = some (.dict kvs e)) : smK (.ref p) m = some 1 := by unfold smK; dsimp only; rw [h]
theorem aX {p e : Nat} {x : V} {k : Ky} {kvs : List (Ky × V)} (h : m[p]? = some (.dict kvs e)) (hk : dM x = some k) (hs : aJ k kvs = true) : inV x (.ref p) m = .ok (bM k kvs).isSome m := by
 unfold inV; dsimp only; rw [h]; dsimp only; rw [hk]; dsimp only; rw [if_pos hs]
theorem bX {p e : Nat} {x v : V} {k : Ky} {kvs : List (Ky × V)} (h : m[p]? = some (.dict kvs e)) (hk : dM x = some k) (hs : aJ k kvs = true) (hl : bM k kvs = some v) : aQ0 (.ref p) x m = .ok v m := by
 unfold aQ0; dsimp only; rw [h]; dsimp only; rw [hk]; dsimp only; rw [if_pos hs, hl]; rfl
end
end Mini
namespace Mini
open PySem
structure Wo where
 k : Str
 n : Int
 r : Str
 h : Int
 deriving DecidableEq
noncomputable def Wo.v (w : Wo) : V := .tup [.str w.k, .int w.n, .str w.r, .int w.h]
noncomputable def Wo.ky (w : Wo) : Ky := .tup [.inr w.k, .inl w.n, .inr w.r, .inl w.h]
theorem cU8 {a b : Wo} (h : a.ky = b.ky) : a = b := by
 rcases a with ⟨a1, a2, a3, a4⟩
 rcases b with ⟨b1, b2, b3, b4⟩
 cases h; rfl
noncomputable def mrk (n : Int) (r : Str) (h : Int) : Wo := ⟨dS, n, r, h⟩
noncomputable def bZ (a b : Wo) : Bool := a.h == b.h && a.k == b.k && a.n == b.n && a.r != b.r
noncomputable def kD (l : List Wo) : List (Ky × V) := l.map fun w => (w.ky, .bool true)
noncomputable def iD (l : List Int) : List (Ky × V) := l.map fun i => (.int i, .bool true)
noncomputable def aL0 (w : Wo) (l : List Wo) : List Wo := if w ∈ l then l else l ++ [w]
theorem dA (l : List Wo) (w : Wo) : aJ w.ky (kD l) = true := by
 unfold aJ kD
 rw [List.all_map, List.all_eq_true]
 intro _ _; rfl
theorem eK (l : List Int) (k : Int) : aJ (.int k) (iD l) = true := by
 unfold aJ iD
 rw [List.all_map, List.all_eq_true]
 intro _ _; rfl
theorem aP7 (w : Wo) : ∀ l : List Wo, (bM w.ky (kD l)).isSome = decide (w ∈ l)
 | [] => by simp [kD, bM]
 | a :: l => by
  show (if a.ky = w.ky then some (V.bool true) else bM w.ky (kD l)).isSome = _
  by_cases z : a = w
  ·subst z; rw [if_pos rfl]; simp
  ·rw [if_neg fun c => z (cU8 c), aP7 w l]
   have : w ≠ a := fun c => z c.symm
   simp [this]
theorem aS7 (w : Wo) : ∀ l : List Wo, put w.ky (.bool true) (kD l) = kD (aL0 w l)
 | [] => by simp [kD, put, aL0]
 | a :: l => by
  show (if a.ky = w.ky then (a.ky, V.bool true) :: kD l else (a.ky, V.bool true) :: put w.ky (.bool true) (kD l)) = _
  by_cases z : a = w
  ·subst z; rw [if_pos rfl]; simp [aL0, kD]
  ·rw [if_neg fun c => z (cU8 c), aS7 w l]
   have : w ≠ a := fun c => z c.symm
   unfold aL0
   by_cases y : w ∈ l
   ·rw [if_pos y, if_pos (.tail _ y)]; rfl
   ·rw [if_neg y, if_neg (by simp [this, y])]; rfl
theorem aM3 {a b : Int} (h : Ky.int a = Ky.int b) : a = b := ky_i h
noncomputable def tD {α : Type} (g : α -> Int) (f : α -> V) (l : List α) : List (Ky × V) := l.map fun x => (.int (g x), f x)
theorem aW {α : Type} (g : α -> Int) (f : α -> V) (l : List α) (k : Int) : aJ (.int k) (tD g f l) = true := by
 unfold aJ tD
 rw [List.all_map, List.all_eq_true]
 intro _ _; rfl
theorem eS {α : Type} (g : α -> Int) (f : α -> V) (k : Int) : ∀ l : List α, bM (.int k) (tD g f l) = (l.find? fun x => g x == k).map f
 | [] => rfl
 | a :: l => by
  show (if Ky.int (g a) = Ky.int k then some (f a) else bM (.int k) (tD g f l)) = _
  by_cases z : g a = k
  ·rw [if_pos (by rw [z]), List.find?_cons_of_pos (by simp [z])]; rfl
  ·rw [if_neg fun c => z (aM3 c), List.find?_cons_of_neg (by simp [z]), eS g f k l]
theorem dU {α : Type} (g : α -> Int) (f : α -> V) (k : Int) (l : List α) : (bM (.int k) (tD g f l)).isSome = l.any fun x => g x == k := by
 rw [eS, Option.isSome_map]
 induction l with
 | nil => rfl
 | cons a l ih =>
  rw [List.any_cons]
  by_cases z : (g a == k) = true
  ·rw [List.find?_cons_of_pos (p := fun x => g x == k) z, z]; rfl
  ·rw [List.find?_cons_of_neg (p := fun x => g x == k) z, ih]; simp [z]
theorem aB3 {α : Type} (g : α -> Int) (f : α -> V) (k : Int) (v : V) : ∀ l : List α, (l.any fun x => g x == k) = false -> put (.int k) v (tD g f l) = tD g f l ++ [(.int k, v)]
 | [], _ => rfl
 | a :: l, h => by
  rw [List.any_cons, Bool.or_eq_false_iff] at h
  show (if Ky.int (g a) = Ky.int k then _ else (Ky.int (g a), f a) :: put (.int k) v (tD g f l)) = _
  rw [if_neg fun c => by rw [aM3 c] at h; simp at h, aB3 g f k v l h.2]; rfl
theorem cD4 (l : List Int) : iD l = tD id (fun y_ => .bool true) l := rfl
structure Hs where
 cnt : Int
 own : Int
 onw : Int
 known : List Wo
 marked : List Int
 rows : List (Int × Str × List Wo)
 named : List (Int × Wo × Wo)
noncomputable def bR (c : Int) : Int := (c + (c - 1) / 3) / 2 + 1
noncomputable def Hs.marking (s : Hs) (w : Wo) : Hs × List Wo :=
 if w.k ≠ eD \/ w.n ∈ s.marked then (s, []) else ({ s with marked := s.marked ++ [w.n], known := aL0 (mrk w.n w.r s.own) s.known }, [mrk w.n w.r s.own])
noncomputable def Hs.marks (s : Hs) (n : Int) (r : Str) : List Wo := ((List.range s.cnt.toNat).map fun (j : Nat) => mrk n r j).filter fun w => decide (w ∈ s.known)
noncomputable def Hs.wrote (s : Hs) (n : Int) : Bool := s.rows.any fun x => x.1 == n
noncomputable def Hs.writing (s : Hs) (n : Int) (r : Str) : Hs × List Wo :=
 if ((s.marks n r).length : Int) < bR s.cnt \/ s.wrote n = true then (s, []) else ({ s with rows := s.rows ++ [(n, r, s.marks n r)] }, s.marks n r)
noncomputable def Hs.naming (s : Hs) (w : Wo) (ahead : List Wo) : Hs × List Wo := match ahead with
 | [] => (s, [])
 | a :: _ => if (s.named.any fun x => x.1 == w.h) = true then (s, []) else ({ s with named := s.named ++ [(w.h, a, w)] }, [a, w])
noncomputable def Hs.hear (s : Hs) (w : Wo) : Hs × List Wo :=
 if w ∈ s.known then (s, []) else
  let ahead := s.known.filter fun a => bZ a w
  let a := ({ s with known := s.known ++ [w] } : Hs).marking w
  let b := a.1.writing w.n w.r
  let c := b.1.naming w ahead
  (c.1, a.2 ++ b.2 ++ c.2)
noncomputable def Hs.call (s : Hs) (r : Str) : Hs × List Wo :=
 let w : Wo := ⟨eD, s.onw, r, s.own⟩
 let a := ({ s with onw := s.onw + s.cnt } : Hs).hear w
 (a.1, w :: a.2)
structure Hd where
 p : Nat
 a : Nat
 b : Nat
 c : Nat
 d : Nat
 e : Nat
 f : Nat
 bs : List Nat
noncomputable def Hd.foot (D : Hd) : List Nat := [D.p, D.a, D.b, D.c, D.d, D.e, D.f]
noncomputable def Hd.all (D : Hd) : List Nat := D.foot ++ D.bs
noncomputable def aJ7 (l : List (Int × Str × List Wo)) : List (Ky × V) := tD (·.1) (fun x => V.str x.2.1) l
noncomputable def bK5 (l : List (Int × Nat)) : List (Ky × V) := tD (·.1) (fun x => V.ref x.2) l
noncomputable def bak (s : Hs) (D : Hd) : List (Int × Nat) := (s.rows.map (·.1)).zip D.bs
noncomputable def aY2 (l : List (Int × Wo × Wo)) : List V := l.map fun x => .tup [.int x.1, x.2.1.v, x.2.2.v]
noncomputable def bC1 (l : List (Int × Wo × Wo)) : List (Ky × V) := tD (·.1) (fun y_ => V.bool true) l
noncomputable def cU2 (D : Hd) (s : Hs) : List (Nat × V) := [(8, .int s.cnt), (9, .int s.own), (10, .int s.onw), (11, .ref D.a), (12, .ref D.b), (13, .ref D.c), (14, .ref D.d), (15, .ref D.e), (16, .ref D.f)]
structure Ho (m : MH) (C : Nat) (D : Hd) (s : Hs) : Prop where
 inst : m[D.p]? = some (.inst C (cU2 D s))
 kn : ∃ e, m[D.a]? = some (.dict (kD s.known) e)
 mr : ∃ e, m[D.b]? = some (.dict (iD s.marked) e)
 ro : ∃ e, m[D.c]? = some (.dict (aJ7 s.rows) e)
 ba : ∃ e, m[D.d]? = some (.dict (bK5 (bak s D)) e)
 na : m[D.e]? = some (.list (aY2 s.named))
 bl : ∃ e, m[D.f]? = some (.dict (bC1 s.named) e)
 bk : ∀ (i : Nat) (x : Int × Str × List Wo), s.rows[i]? = some x -> ∃ q, D.bs[i]? = some q /\ m[q]? = some (.list (x.2.2.map Wo.v))
 len : D.bs.length = s.rows.length
 nd : D.all.Nodup
theorem Ho.mod {T : List Nat} {m m' : MH} {C : Nat} {D : Hd} {s : Hs} (h : Ho m C D s) (l : Mod T m m') (ht : ∀ x ∈ D.all, x ∉ T) : Ho m' C D s := by
 have F : ∀ x ∈ D.foot, x ∉ T := fun x hx => ht x (List.mem_append_left _ hx)
 refine ⟨l.has h.inst (F _ (by simp [Hd.foot])), ?_, ?_, ?_, ?_, l.has h.na (F _ (by simp [Hd.foot])), ?_, fun i x e => ?_, h.len, h.nd⟩
 ·rcases h.kn with ⟨e, k⟩; exact ⟨e, l.has k (F _ (by simp [Hd.foot]))⟩
 ·rcases h.mr with ⟨e, k⟩; exact ⟨e, l.has k (F _ (by simp [Hd.foot]))⟩
 ·rcases h.ro with ⟨e, k⟩; exact ⟨e, l.has k (F _ (by simp [Hd.foot]))⟩
 ·rcases h.ba with ⟨e, k⟩; exact ⟨e, l.has k (F _ (by simp [Hd.foot]))⟩
 ·rcases h.bl with ⟨e, k⟩; exact ⟨e, l.has k (F _ (by simp [Hd.foot]))⟩
 ·rcases h.bk i x e with ⟨q, k1, k2⟩
  exact ⟨q, k1, l.has k2 (ht _ (List.mem_append_right _ (List.mem_of_getElem? k1)))⟩
theorem Ho.le {m m' : MH} {C : Nat} {D : Hd} {s : Hs} (h : Ho m C D s) (l : Le m m') : Ho m' C D s := h.mod (T := []) l.mod fun y_ y_ q => nomatch q
theorem Ho.lt {m : MH} {C : Nat} {D : Hd} {s : Hs} (h : Ho m C D s) : ∀ x ∈ D.all, x < m.length := by
 intro x hx
 rcases h.kn with ⟨y_, k1⟩
 rcases h.mr with ⟨y_, k2⟩
 rcases h.ro with ⟨y_, k3⟩
 rcases h.ba with ⟨y_, k4⟩
 rcases h.bl with ⟨y_, k5⟩
 rcases List.mem_append.mp hx with hx | hx
 ·simp only [Hd.foot, List.mem_cons, List.not_mem_nil, or_false] at hx
  rcases hx with rfl | rfl | rfl | rfl | rfl | rfl | rfl
  ·exact aT h.inst
  ·exact aT k1
  ·exact aT k2
  ·exact aT k3
  ·exact aT k4
  ·exact aT h.na
  ·exact aT k5
 ·rcases List.getElem?_of_mem hx with ⟨i, hi⟩
  have : i < s.rows.length := by rw [<- h.len]; exact (List.getElem?_eq_some_iff.mp hi).1
  rcases h.bk i _ (List.getElem?_eq_getElem this) with ⟨q, e1, e2⟩
  rw [hi] at e1; cases e1; exact aT e2
end Mini
namespace Mini
open PySem
theorem cB6 {l : List Nat} (nd : l.Nodup) {i j x y : Nat} (hi : l[i]? = some x) (hj : l[j]? = some y) (hij : i ≠ j) : x ≠ y := by
 rcases List.getElem?_eq_some_iff.mp hi with ⟨h1, rfl⟩
 rcases List.getElem?_eq_some_iff.mp hj with ⟨h2, rfl⟩
 have P := List.pairwise_iff_getElem.mp nd
 rcases Nat.lt_or_gt_of_ne hij with z | z
 ·exact P i j h1 h2 z
 ·exact fun e => P j i h2 h1 z e.symm
theorem Hd.upd {D : Hd} (nd : D.all.Nodup) {m : MH} {o' : MObj} {j x : Nat} (hx : D.all[j]? = some x) : ∀ (i q : Nat) (o : MObj), D.all[i]? = some q -> i ≠ j -> m[q]? = some o -> (m.set x o')[q]? = some o :=
 fun i q o hq hij k => aN (cB6 nd hx hq (fun e => hij e.symm)) k
section
variable {m : MH} {C : Nat} {D : Hd} {s : Hs}
theorem Ho.setP (h : Ho m C D s) (k : Int) : Ho (m.set D.p (.inst C (cU2 D { s with onw := k }))) C D { s with onw := k } := by
 have F := Hd.upd h.nd (m := m) (o' := .inst C (cU2 D { s with onw := k })) (j := 0) rfl
 refine ⟨aY h.inst, ?_, ?_, ?_, ?_, F 5 _ _ rfl (by decide) h.na, ?_, fun i x e => ?_, h.len, h.nd⟩
 ·rcases h.kn with ⟨e, k⟩; exact ⟨e, F 1 _ _ rfl (by decide) k⟩
 ·rcases h.mr with ⟨e, k⟩; exact ⟨e, F 2 _ _ rfl (by decide) k⟩
 ·rcases h.ro with ⟨e, k⟩; exact ⟨e, F 3 _ _ rfl (by decide) k⟩
 ·rcases h.ba with ⟨e, k⟩; exact ⟨e, F 4 _ _ rfl (by decide) k⟩
 ·rcases h.bl with ⟨e, k⟩; exact ⟨e, F 6 _ _ rfl (by decide) k⟩
 ·rcases h.bk i x e with ⟨q, k1, k2⟩; exact ⟨q, k1, F (i + 7) _ _ k1 (by omega) k2⟩
theorem Ho.setK (h : Ho m C D s) (l : List Wo) (e : Nat) : Ho (m.set D.a (.dict (kD l) e)) C D { s with known := l } := by
 have F := Hd.upd h.nd (m := m) (o' := .dict (kD l) e) (j := 1) rfl
 rcases h.kn with ⟨e0, k0⟩
 refine ⟨F 0 _ _ rfl (by decide) h.inst, ⟨e, aY k0⟩, ?_, ?_, ?_, F 5 _ _ rfl (by decide) h.na, ?_, fun i x e => ?_, h.len, h.nd⟩
 ·rcases h.mr with ⟨e, k⟩; exact ⟨e, F 2 _ _ rfl (by decide) k⟩
 ·rcases h.ro with ⟨e, k⟩; exact ⟨e, F 3 _ _ rfl (by decide) k⟩
 ·rcases h.ba with ⟨e, k⟩; exact ⟨e, F 4 _ _ rfl (by decide) k⟩
 ·rcases h.bl with ⟨e, k⟩; exact ⟨e, F 6 _ _ rfl (by decide) k⟩
 ·rcases h.bk i x e with ⟨q, k1, k2⟩; exact ⟨q, k1, F (i + 7) _ _ k1 (by omega) k2⟩
theorem Ho.setM (h : Ho m C D s) (l : List Int) (e : Nat) : Ho (m.set D.b (.dict (iD l) e)) C D { s with marked := l } := by
 have F := Hd.upd h.nd (m := m) (o' := .dict (iD l) e) (j := 2) rfl
 rcases h.mr with ⟨e0, k0⟩
 refine ⟨F 0 _ _ rfl (by decide) h.inst, ?_, ⟨e, aY k0⟩, ?_, ?_, F 5 _ _ rfl (by decide) h.na, ?_, fun i x e => ?_, h.len, h.nd⟩
 ·rcases h.kn with ⟨e, k⟩; exact ⟨e, F 1 _ _ rfl (by decide) k⟩
 ·rcases h.ro with ⟨e, k⟩; exact ⟨e, F 3 _ _ rfl (by decide) k⟩
 ·rcases h.ba with ⟨e, k⟩; exact ⟨e, F 4 _ _ rfl (by decide) k⟩
 ·rcases h.bl with ⟨e, k⟩; exact ⟨e, F 6 _ _ rfl (by decide) k⟩
 ·rcases h.bk i x e with ⟨q, k1, k2⟩; exact ⟨q, k1, F (i + 7) _ _ k1 (by omega) k2⟩
theorem Ho.setR (h : Ho m C D s) {n : Int} {r : Str} {ws : List Wo} {q e1 e2 : Nat} (hq : m[q]? = some (.list (ws.map Wo.v))) (hn : q ∉ D.all) :
  Ho ((m.set D.c (.dict (aJ7 (s.rows ++ [(n, r, ws)])) e1)).set D.d (.dict (bK5 (bak s D ++ [(n, q)])) e2)) C { D with bs := D.bs ++ [q] } { s with rows := s.rows ++ [(n, r, ws)] } := by
 have F1 := Hd.upd h.nd (m := m) (o' := .dict (aJ7 (s.rows ++ [(n, r, ws)])) e1) (j := 3) rfl
 have F2 := Hd.upd h.nd (m := m.set D.c (.dict (aJ7 (s.rows ++ [(n, r, ws)])) e1)) (o' := .dict (bK5 (bak s D ++ [(n, q)])) e2) (j := 4) rfl
 have F : ∀ (i x : Nat) (o : MObj), D.all[i]? = some x -> i ≠ 3 -> i ≠ 4 -> m[x]? = some o -> ((m.set D.c (.dict (aJ7 (s.rows ++ [(n, r, ws)])) e1)).set D.d (.dict (bK5 (bak s D ++ [(n, q)])) e2))[x]? = some o := fun i x o a b c d => F2 i x o a c (F1 i x o a b d)
 rcases h.ro with ⟨e3, k3⟩
 rcases h.ba with ⟨e4, k4⟩
 have qc : D.c ≠ q := fun e => hn (e ▸ List.mem_append_left _ (by simp [Hd.foot]))
 have qd : D.d ≠ q := fun e => hn (e ▸ List.mem_append_left _ (by simp [Hd.foot]))
 have kc : (m.set D.c (.dict (aJ7 (s.rows ++ [(n, r, ws)])) e1))[D.c]? = some (.dict (aJ7 (s.rows ++ [(n, r, ws)])) e1) := aY k3
 have kd := F1 4 D.d _ rfl (by decide) k4
 have eb : bak { s with rows := s.rows ++ [(n, r, ws)] } { D with bs := D.bs ++ [q] } = bak s D ++ [(n, q)] := by
  unfold bak
  rw [List.map_append]
  exact List.zip_append (by rw [List.length_map, h.len])
 refine ⟨F 0 _ _ rfl (by decide) (by decide) h.inst, ?_, ?_, ⟨e1, F2 3 _ _ rfl (by decide) kc⟩, ⟨e2, ?_⟩, F 5 _ _ rfl (by decide) (by decide) h.na, ?_, fun i x e => ?_, ?_, ?_⟩
 ·rcases h.kn with ⟨e, k⟩; exact ⟨e, F 1 _ _ rfl (by decide) (by decide) k⟩
 ·rcases h.mr with ⟨e, k⟩; exact ⟨e, F 2 _ _ rfl (by decide) (by decide) k⟩
 ·rw [eb]; exact aY kd
 ·rcases h.bl with ⟨e, k⟩; exact ⟨e, F 6 _ _ rfl (by decide) (by decide) k⟩
 ·rcases Nat.lt_or_ge i s.rows.length with z | z
  ·have e : s.rows[i]? = some x := by rw [<- e]; exact (List.getElem?_append_left z).symm
   rcases h.bk i x e with ⟨y, k1, k2⟩
   exact ⟨y, by rw [<- k1]; exact List.getElem?_append_left (by rw [h.len]; exact z), F (i + 7) _ _ k1 (by omega) (by omega) k2⟩
  ·have e : (s.rows ++ [(n, r, ws)])[i]? = some x := e
   rw [List.getElem?_append_right z] at e
   have hi : i = s.rows.length := by
    cases w : i - s.rows.length with
    | zero => omega
    | succ j => rw [w] at e; cases e
   subst hi
   rw [Nat.sub_self] at e
   cases e
   refine ⟨q, ?_, aN qd (aN qc hq)⟩
   show (D.bs ++ [q])[s.rows.length]? = some q
   rw [<- h.len]; simp
 ·show (D.bs ++ [q]).length = (s.rows ++ [(n, r, ws)]).length
  rw [List.length_append, List.length_append, h.len]; rfl
 ·show (D.foot ++ (D.bs ++ [q])).Nodup
  rw [<- List.append_assoc]
  refine List.nodup_append.mpr ⟨h.nd, List.nodup_cons.mpr ⟨List.not_mem_nil, List.nodup_nil⟩, fun a ha b hb => ?_⟩
  rw [List.mem_singleton.mp hb]
  rintro rfl
  exact hn ha
theorem Ho.setN (h : Ho m C D s) {x : Int × Wo × Wo} {e1 : Nat} : Ho ((m.set D.f (.dict (bC1 (s.named ++ [x])) e1)).set D.e (.list (aY2 (s.named ++ [x])))) C D { s with named := s.named ++ [x] } := by
 have F1 := Hd.upd h.nd (m := m) (o' := .dict (bC1 (s.named ++ [x])) e1) (j := 6) rfl
 have F2 := Hd.upd h.nd (m := m.set D.f (.dict (bC1 (s.named ++ [x])) e1)) (o' := .list (aY2 (s.named ++ [x]))) (j := 5) rfl
 have F : ∀ (i y : Nat) (o : MObj), D.all[i]? = some y -> i ≠ 6 -> i ≠ 5 -> m[y]? = some o -> ((m.set D.f (.dict (bC1 (s.named ++ [x])) e1)).set D.e (.list (aY2 (s.named ++ [x]))))[y]? = some o := fun i x o a b c d => F2 i x o a c (F1 i x o a b d)
 rcases h.bl with ⟨e3, k3⟩
 have kf : (m.set D.f (.dict (bC1 (s.named ++ [x])) e1))[D.f]? = some (.dict (bC1 (s.named ++ [x])) e1) := aY k3
 have ke := F1 5 D.e _ rfl (by decide) h.na
 refine ⟨F 0 _ _ rfl (by decide) (by decide) h.inst, ?_, ?_, ?_, ?_, aY ke, ⟨e1, F2 6 _ _ rfl (by decide) kf⟩, fun i x e => ?_, h.len, h.nd⟩
 ·rcases h.kn with ⟨e, k⟩; exact ⟨e, F 1 _ _ rfl (by decide) (by decide) k⟩
 ·rcases h.mr with ⟨e, k⟩; exact ⟨e, F 2 _ _ rfl (by decide) (by decide) k⟩
 ·rcases h.ro with ⟨e, k⟩; exact ⟨e, F 3 _ _ rfl (by decide) (by decide) k⟩
 ·rcases h.ba with ⟨e, k⟩; exact ⟨e, F 4 _ _ rfl (by decide) (by decide) k⟩
 ·rcases h.bk i x e with ⟨q, k1, k2⟩; exact ⟨q, k1, F (i + 7) _ _ k1 (by omega) (by omega) k2⟩
end
end Mini
namespace Mini
open PySem
structure HN where
 C : Nat
 kW : Nat
 kN : Nat
 kM : Nat
 kE : Nat
 kR : Nat
 kU : Nat
 ki : Nat
 cC : Nat
 cH : Nat
 cR : Nat
 cN : Nat
 gM : Nat
 gL : Nat
 gS : Nat
noncomputable def cI6 (kN : Nat) : List CS := [.exp (.call kN [.var 0]), .ret (.bin .FloorDiv (.bin .Sub (.var 0) (.cnst (.int 1))) (.cnst (.int 3)))]
noncomputable def bH1 (kN kM : Nat) : List CS := [.exp (.call kN [.var 0]), .ret (.bin .Add (.bin .FloorDiv (.bin .Add (.var 0) (.call kM [.var 0])) (.cnst (.int 2))) (.cnst (.int 1)))]
noncomputable def bG3 : List CS := [
 (.ret (.boolop true [(.cmp (.idx (.var 0) (.cnst (Lt.int 3))) [.Eq] [(.idx (.var 1) (.cnst (Lt.int 3)))]), (.cmp (.idx (.var 0) (.cnst (Lt.int 0))) [.Eq] [(.idx (.var 1) (.cnst (Lt.int 0)))]), (.cmp (.idx (.var 0) (.cnst (Lt.int 1))) [.Eq] [(.idx (.var 1) (.cnst (Lt.int 1)))]), (.cmp (.idx (.var 0) (.cnst (Lt.int 2))) [.NotEq] [(.idx (.var 1) (.cnst (Lt.int 2)))])]))]
noncomputable def bW0 (kN kW cH : Nat) : List CS := [
 (.exp (.call kN [(.var 1)])),
 (.ite (.all false [(.not (.val (.call kW [(.var 2)]))), (.not (.val (.cmp (.cnst (Lt.int 0)) [.LtE, .Lt] [(.var 2), (.var 1)])))]) [
  (.rse cH (Str.ofString "no house of the town"))] []),
 (.asg (.attr (.var 0) 8) (.var 1)),
 (.asg (.attr (.var 0) 9) (.var 2)),
 (.asg (.attr (.var 0) 10) (.var 2)),
 (.asg (.attr (.var 0) 11) (.dict [] [])),
 (.asg (.attr (.var 0) 12) (.dict [] [])),
 (.asg (.attr (.var 0) 13) (.dict [] [])),
 (.asg (.attr (.var 0) 14) (.dict [] [])),
 (.asg (.attr (.var 0) 15) (.list [])),
 (.asg (.attr (.var 0) 16) (.dict [] []))]
noncomputable def cI8 (kR cR : Nat) : List CS := [
 (.ite (.not (.val (.call kR [(.var 1)]))) [
  (.rse cR (Str.ofString "no row"))] []),
 (.asg (.one (.one 2)) (.tup [(.cnst (Lt.str (Str.ofString "say"))), (.attr (.var 0) 10), (.var 1), (.attr (.var 0) 9)])),
 (.asg (.attr (.var 0) 10) (.bin .Add (.attr (.var 0) 10) (.attr (.var 0) 8))),
 (.ret (.bin .Add (.list [(.var 2)]) (.meth (.var 0) 1 [(.var 2)])))]
noncomputable def cI7 (kU : Nat) : List CS := [
 (.ite (.val (.cmp (.var 1) [.In] [(.attr (.var 0) 11)])) [
  (.ret (.list []))] []),
 (.asg (.one (.one 2)) (.comp (.var 3) (.one 3) 1 .expr [(.attr (.var 0) 11)] [(.val (.call kU [(.var 3), (.var 1)]))])),
 (.asg (.idx (.attr (.var 0) 11) (.var 1)) (.cnst (Lt.bool true))),
 (.ret (.bin .Add (.bin .Add (.meth (.var 0) 2 [(.var 1)]) (.meth (.var 0) 3 [(.idx (.var 1) (.cnst (Lt.int 1))), (.idx (.var 1) (.cnst (Lt.int 2)))])) (.meth (.var 0) 4 [(.var 1), (.var 2)])))]
noncomputable def aX8 : List CS := [
 (.ite (.all false [(.val (.cmp (.idx (.var 1) (.cnst (Lt.int 0))) [.NotEq] [(.cnst (Lt.str (Str.ofString "say")))])), (.val (.cmp (.idx (.var 1) (.cnst (Lt.int 1))) [.In] [(.attr (.var 0) 12)]))]) [
  (.ret (.list []))] []),
 (.asg (.one (.one 2)) (.tup [(.cnst (Lt.str (Str.ofString "mark"))), (.idx (.var 1) (.cnst (Lt.int 1))), (.idx (.var 1) (.cnst (Lt.int 2))), (.attr (.var 0) 9)])),
 (.asg (.idx (.attr (.var 0) 12) (.idx (.var 1) (.cnst (Lt.int 1)))) (.cnst (Lt.bool true))),
 (.asg (.idx (.attr (.var 0) 11) (.var 2)) (.cnst (Lt.bool true))),
 (.ret (.list [(.var 2)]))]
noncomputable def aX5 (kE : Nat) : List CS := [
 (.asg (.one (.one 3)) (.comp (.tup [(.cnst (Lt.str (Str.ofString "mark"))), (.var 1), (.var 2), (.var 4)]) (.one 4) 1 .range [(.attr (.var 0) 8)] [])),
 (.asg (.one (.one 3)) (.comp (.var 4) (.one 4) 1 .expr [(.var 3)] [(.val (.cmp (.var 4) [.In] [(.attr (.var 0) 11)]))])),
 (.ite (.all false [(.val (.cmp (.bi .len [(.var 3)]) [.Lt] [(.call kE [(.attr (.var 0) 8)])])), (.val (.cmp (.var 1) [.In] [(.attr (.var 0) 13)]))]) [
  (.ret (.list []))] []),
 (.asg (.idx (.attr (.var 0) 13) (.var 1)) (.var 2)),
 (.asg (.idx (.attr (.var 0) 14) (.var 1)) (.var 3)),
 (.ret (.bi .list [(.var 3)]))]
noncomputable def bG8 : List CS := [
 (.ite (.all false [(.val (.cmp (.var 2) [.Eq] [(.list [])])), (.val (.cmp (.idx (.var 1) (.cnst (Lt.int 3))) [.In] [(.attr (.var 0) 16)]))]) [
  (.ret (.list []))] []),
 (.asg (.idx (.attr (.var 0) 16) (.idx (.var 1) (.cnst (Lt.int 3)))) (.cnst (Lt.bool true))),
 (.exp (.smeth (.attr (.var 0) 15) .append [(.tup [(.idx (.var 1) (.cnst (Lt.int 3))), (.idx (.var 2) (.cnst (Lt.int 0))), (.var 1)])])),
 (.ret (.list [(.idx (.var 2) (.cnst (Lt.int 0))), (.var 1)]))]
noncomputable def bG9 : List CS := [
 (.asg (.one (.one 1)) (.dict [] [])),
 (.for_ .expr (.one 2) [(.bi .sorted [(.attr (.var 0) 13)])] [
  (.asg (.idx (.var 1) (.var 2)) (.idx (.attr (.var 0) 13) (.var 2)))]),
 (.ret (.var 1))]
noncomputable def eZ (kW cN : Nat) : List CS := [
 (.ite (.all false [(.not (.val (.call kW [(.var 1)]))), (.val (.cmp (.var 1) [.NotIn] [(.attr (.var 0) 13)]))]) [
  (.rse cN (Str.ofString "nothing is written there"))] []),
 (.ret (.bi .list [(.idx (.attr (.var 0) 14) (.var 1))]))]
noncomputable def bH3 : List CS := [
 (.ret (.bi .list [(.attr (.var 0) 15)]))]
structure HF (S : Sig) (N : HN) : Prop where
 W : b0 S N.kW 1 1 aD7
 N_ : b0 S N.kN 1 1 (bG7 N.kW N.gM N.cC)
 M : b0 S N.kM 1 1 (cI6 N.kN)
 E : b0 S N.kE 1 1 (bH1 N.kN N.kM)
 R : b0 S N.kR 1 2 (aF4 N.gL N.gS)
 U : b0 S N.kU 2 2 bG3
 I : b0 S N.ki 3 3 (bW0 N.kN N.kW N.cH)
 call : b0 S (N.ki + 1) 2 3 (cI8 N.kR N.cR)
 hear : b0 S (N.ki + 2) 2 3 (cI7 N.kU)
 marking : b0 S (N.ki + 3) 2 3 aX8
 writing : b0 S (N.ki + 4) 3 4 (aX5 N.kE)
 naming : b0 S (N.ki + 5) 3 3 bG8
 ledger : b0 S (N.ki + 6) 1 3 bG9
 backing : b0 S (N.ki + 7) 2 2 (eZ N.kW N.cN)
 caught : b0 S (N.ki + 8) 1 1 bH3
 gM : ∃ nm, S.globs[N.gM]? = some (nm, .int 12)
 gL : ∃ nm, S.globs[N.gL]? = some (nm, .str letterS)
 gS : ∃ nm, S.globs[N.gS]? = some (nm, .int 8)
 cls : ∃ d, S.cls[N.C]? = some d /\ d.exc = false /\ d.init = some N.ki /\ ∀ j, j < 8 -> d.meths.lookup j = some (N.ki + 1 + j)
section
variable {S : Sig} {N : HN} {m : MH} {D : Hd} {s : Hs}
theorem cO4 (H : HF S N) (n : Nat) (c : Int) (h1 : 1 <= c) (h2 : c <= 12) (m : MH) : run S (n + 3) N.kM [.int c] m = .ok (.int ((c - 1) / 3)) m := by
 rcases H.gM with ⟨y_, gM⟩
 have en : run S (n + 2) N.kN [.int c] m = .ok .none m := by
  exact aB5 H.N_ H.W gM n h1 h2
 refine fF ?_
 exact bH H.M rfl (fD (aE (bD rfl en) (bA (aC rfl ⟨rfl, rfl⟩))))
theorem bU4 (H : HF S N) (n : Nat) (c : Int) (h1 : 1 <= c) (h2 : c <= 12) (m : MH) : run S (n + 4) N.kE [.int c] m = .ok (.int (bR c)) m := by
 rcases H.gM with ⟨y_, gM⟩
 have en : run S (n + 3) N.kN [.int c] m = .ok .none m := by
  exact aB5 H.N_ H.W gM (n + 1) h1 h2
 refine fF ?_
 refine bH H.E rfl (fD (aE (bD rfl en) (bA (aE (bE (bE (bE rfl (bD rfl (cO4 H n c h1 h2 m)) rfl) rfl rfl) rfl rfl) ⟨rfl, rfl⟩))))
theorem bN1 (H : HF S N) (n : Nat) (a b : Wo) (m : MH) : run S (n + 1) N.kU [a.v, b.v] m = .ok (.bool (bZ a b)) m := by
 refine fF ?_
 refine bH H.U rfl (bA (aE (cM7 (x := a.h == b.h) ?_ (cM7 (x := a.k == b.k) ?_ (cM7 (x := a.n == b.n) ?_ (q_one (v := .bool (a.r != b.r)) ?_)))) ⟨?_, rfl⟩))
 ·exact aP rfl rfl rfl
 ·exact aP rfl rfl rfl
 ·exact aP rfl rfl rfl
 ·exact aP rfl rfl rfl
 ·unfold bZ; simp [Bool.and_assoc]
noncomputable def Hd.ext (D : Hd) (l : List Nat) : Hd := { D with bs := D.bs ++ l }
theorem Hd.ext_nil (D : Hd) : D.ext [] = D := by unfold Hd.ext; rw [List.append_nil]
theorem Hd.ext_ext (D : Hd) (a b : List Nat) : (D.ext a).ext b = D.ext (a ++ b) := by unfold Hd.ext; rw [List.append_assoc]
structure Tells (m : MH) (C : Nat) (D : Hd) (x : Hs × List Wo) (u : V) (m' : MH) : Prop where
 all : ∃ q l, u = .ref q /\ m'[q]? = some (.list (x.2.map Wo.v)) /\ m.length <= q /\ q ∉ (D.ext l).all /\ Ho m' C (D.ext l) x.1 /\ Mod D.foot m m' /\ ∀ y ∈ l, m.length <= y
theorem c9 {C : Nat} {x : Hs × List Wo} {q : Nat} {m' : MH} (k : m'[q]? = some (.list (x.2.map Wo.v))) (g : m.length <= q) (o : q ∉ D.all) (h : Ho m' C D x.1) (M : Mod D.foot m m') : Tells m C D x (.ref q) m' :=
 ⟨q, [], rfl, k, g, by rw [Hd.ext_nil]; exact o, by rw [Hd.ext_nil]; exact h, M, fun y_ q => nomatch q⟩
theorem dQ {C : Nat} {p : Hs × List Wo} {x : Mn V} {Q : V -> MH -> Prop} {E : Nat -> MH -> Prop} (h : Wp x m (Tells m C D p) nox) (k : ∀ m' q l, m'[q]? = some (.list (p.2.map Wo.v)) -> m.length <= q -> q ∉ (D.ext l).all -> Ho m' C (D.ext l) p.1 -> Mod D.foot m m' -> (∀ y ∈ l, m.length <= y) -> Q (.ref q) m') : Wp x m Q E :=
 aV h fun y_ m' ⟨q, l, e, k1, k2, k3, k4, k5, k6⟩ => e ▸ k m' q l k1 k2 k3 k4 k5 k6
theorem bJ0 (H : HF S N) (n : Nat) (w : Wo) (h : Ho m N.C D s) (hl : s.known.length + s.marked.length < lid) : Wp (run S (n + 1) (N.ki + 3) [.ref D.p, w.v]) m (Tells m N.C D (s.marking w)) nox := by
 rcases h.mr with ⟨eb, kb⟩
 have hc : evT S (run S n) (.all false [(.val (.cmp (.idx (.var 1) (.cnst (Lt.int 0))) [.NotEq] [(.cnst (Lt.str (Str.ofString "say")))])), (.val (.cmp (.idx (.var 1) (.cnst (Lt.int 1))) [.In] [(.attr (.var 0) 12)]))]) [some (.ref D.p), some w.v, none] m = .ok (decide (w.k ≠ eD \/ w.n ∈ s.marked)) m := by
  have e1 : evT S (run S n) (.val (.cmp (.idx (.var 1) (.cnst (Lt.int 0))) [.NotEq] [(.cnst (Lt.str (Str.ofString "say")))])) [some (.ref D.p), some w.v, none] m = .ok (!(w.k == eD)) m := aU (aP rfl rfl rfl)
  have e2 : evT S (run S n) (.val (.cmp (.idx (.var 1) (.cnst (Lt.int 1))) [.In] [(.attr (.var 0) 12)])) [some (.ref D.p), some w.v, none] m = .ok (decide (w.n ∈ s.marked)) m := by
   refine aU (aP rfl (aM rfl h.inst rfl) ?_)
   show inV (.int w.n) (.ref D.b) m = _
   rw [aX kb rfl (eK _ _), cD4, dU]
   congr 1
   rw [Bool.eq_iff_iff]; simp
  have := eF (bB e1 (bB e2 dZ))
  rw [this]
  congr 1
  rw [Bool.eq_iff_iff]; simp
 refine bH H.marking rfl (bN hc ?_)
 unfold Hs.marking
 by_cases z : w.k ≠ eD \/ w.n ∈ s.marked
 ·rw [if_pos z, decide_eq_true z]
  refine bA (bJ (aG (aQ fun q m' l k g => ?_)))
  exact c9 k g (fun c => by have := h.lt q c; omega) (h.le l) l.mod
 ·rw [if_neg z, decide_eq_false z]
  have z2 : w.n ∉ s.marked := fun c => z (.inr c)
  refine a9 (aE (aZ3 (aO rfl (aO rfl (aO rfl (aO (aM rfl h.inst rfl) rfl))))) ?_)
  refine dJ (aC rfl (aE (aM rfl h.inst rfl) (aC rfl (dF kb rfl (eK _ _) (by unfold iD; rw [List.length_map]; omega) ?_))))
  have ep : put (.int w.n) (.bool true) (iD s.marked) = iD (s.marked ++ [w.n]) := by
   rw [cD4, aB3 _ _ _ _ _ (by rw [List.any_eq_false]; intro x hx; simp; rintro rfl; exact z2 hx)]
   unfold iD tD
   rw [List.map_append]; rfl
  show Wp _ (m.set D.b (.dict (put (.int w.n) (.bool true) (iD s.marked)) (eb + 1))) _ _
  rw [ep]
  have h1 := h.setM (s.marked ++ [w.n]) (eb + 1)
  rcases h1.kn with ⟨ea, ka⟩
  refine dJ (aC rfl (aE (aM rfl h1.inst rfl) (aC rfl (dF ka (k := (mrk w.n w.r s.own).ky) rfl (dA _ _) (by unfold kD; rw [List.length_map]; show s.known.length < lid; omega) ?_))))
  show Wp _ (List.set _ D.a (.dict (put (mrk w.n w.r s.own).ky (.bool true) (kD s.known)) (ea + 1))) _ _
  rw [aS7]
  have h2 := h1.setK (aL0 (mrk w.n w.r s.own) s.known) (ea + 1)
  refine bA (bJ (aF (aC rfl (aG (aQ fun q m' l k g => ?_)))))
  have g' : m.length <= q := by simpa using g
  refine c9 k g' (fun c => by have := h.lt q c; omega) (h2.le l) ?_
  exact ((Mod.set (by simp [Hd.foot])).trans (Mod.set (by simp [Hd.foot]))).trans l.mod
end
end Mini
namespace Mini
open PySem
section
variable {S : Sig} {N : HN} {m : MH} {D : Hd} {s : Hs}
theorem aF8 {α : Type} {x y : Mn α} {Q : α -> MH -> Prop} {E : Nat -> MH -> Prop} (h : x m = y m) (k : Wp y m Q E) : Wp x m Q E := by unfold Wp at k ⊢; rw [h]; exact k
theorem Ho.out {C : Nat} (h : Ho m C D s) {q : Nat} (hq : m.length <= q) : q ∉ D.all := fun c => by have := h.lt q c; omega
theorem aB4 {D : Hd} {q : Nat} (h : q ∉ D.all) : q ∉ D.foot := fun c => h (List.mem_append_left _ c)
theorem aU0 (s : Hs) (x : Int) (r : Str) : (s.marks x r).length <= s.cnt.toNat := by
 unfold Hs.marks
 exact Nat.le_trans (List.length_filter_le _ _) (by rw [List.length_map, List.length_range]; exact Nat.le_refl _)
theorem bH7 (H : HF S N) (n : Nat) (x : Int) (r : Str) (h : Ho m N.C D s) (h1 : 1 <= s.cnt) (h2 : s.cnt <= 12) (hl : s.rows.length < lid) : Wp (run S (n + 5) (N.ki + 4) [.ref D.p, .int x, .str r]) m (Tells m N.C D (s.writing x r)) nox := by
 have hcn : s.cnt.toNat <= 12 := by omega
 refine bH H.writing rfl (a9 (aL7 (List.range s.cnt.toNat) (fun (j : Nat) => V.int (0 + (j : Int))) (fun (j : Nat) => (mrk x r j).v) (fun m' => m' = m) (aF (aE (aM rfl h.inst rfl) (aG (aE (aO0 (by omega)) ⟨rfl, rfl, fun y_ y_ => rfl, ?_, ?_, ?_⟩))))))
 ·intro j hj m' em
  rw [em]
  refine aC rfl (aC rfl ⟨?_, rfl⟩)
  show V.tup [_, _, _, .int (0 + (j : Int))] = _
  rw [Int.zero_add]; rfl
 ·rw [List.length_range]; unfold lid; omega
 ·intro q1 m1' m1 em l1 k1 g1
  rw [em] at l1 g1
  clear em m1'
  have ha := h.le l1
  rcases ha.kn with ⟨ea, ka⟩
  have k1 : m1[q1]? = some (.list (((List.range s.cnt.toNat).map fun (j : Nat) => mrk x r j).map Wo.v)) := by rw [List.map_map]; exact k1
  refine a9 (aH5 ((List.range s.cnt.toNat).map fun (j : Nat) => mrk x r j) Wo.v Wo.v (fun w => decide (w ∈ s.known)) (fun m' => m' = m1) (aF (aC rfl (aG (d9 (m := m1) (p := q1) (xs := ((List.range s.cnt.toNat).map fun (j : Nat) => mrk x r j).map Wo.v) k1 ⟨rfl, rfl, ?_, ?_, ?_, ?_⟩)))))
  ·intro m' em; rw [em]; exact cI k1
  ·intro w hw m' em
   rw [em]
   refine aC rfl (aP9 (aE (aU (aP (t := decide (w ∈ s.known)) rfl (aM rfl ha.inst rfl) ?_)) ⟨rfl, ?_⟩))
   ·show inV w.v (.ref D.a) m1 = _
    rw [aX ka (k := w.ky) rfl (dA _ _), aP7]
   ·cases decide (w ∈ s.known) with
    | true => exact fS (aC (m' := m1) (a := w.v) rfl ⟨rfl, rfl⟩)
    | false => rfl
  ·rw [List.length_map, List.length_range]; unfold lid; omega
  ·intro q2 m2' m2 em l2 k2 g2
   rw [em] at l2 g2
   clear em m2'
   have k2 : m2[q2]? = some (.list ((s.marks x r).map Wo.v)) := k2
   have hb := ha.le l2
   have qo : q2 ∉ D.all := ha.out g2
   rcases hb.ro with ⟨ec, kc⟩
   rcases hb.ba with ⟨ed, kd⟩
   have ml := aU0 s x r
   have hc : evT S (run S (n + 4)) (.all false [(.val (.cmp (.bi .len [(.var 3)]) [.Lt] [(.call N.kE [(.attr (.var 0) 8)])])), (.val (.cmp (.var 1) [.In] [(.attr (.var 0) 13)]))]) [some (.ref D.p), some (.int x), some (.str r), some (.ref q2)] m2 = .ok (decide (((s.marks x r).length : Int) < bR s.cnt \/ s.wrote x = true)) m2 := by
    have e1 : evT S (run S (n + 4)) (.val (.cmp (.bi .len [(.var 3)]) [.Lt] [(.call N.kE [(.attr (.var 0) 8)])])) [some (.ref D.p), some (.int x), some (.str r), some (.ref q2)] m2 = .ok (decide (((s.marks x r).length : Int) < bR s.cnt)) m2 := by
     refine aU (aP (x := .int (s.marks x r).length) ?_ (bD (aM rfl hb.inst rfl) (bU4 H n s.cnt h1 h2 m2)) rfl)
     show biV .len [.ref q2] m2 = _
     unfold biV; dsimp only; rw [k2]; dsimp only; rw [List.length_map]
    have e2 : evT S (run S (n + 4)) (.val (.cmp (.var 1) [.In] [(.attr (.var 0) 13)])) [some (.ref D.p), some (.int x), some (.str r), some (.ref q2)] m2 = .ok (s.wrote x) m2 := by
     refine aU (aP rfl (aM rfl hb.inst rfl) ?_)
     show inV (.int x) (.ref D.c) m2 = _
     rw [aX kc rfl (aW _ _ _ _), aJ7, dU]; rfl
    rw [eF (bB e1 (bB e2 dZ))]
    congr 1
    rw [Bool.eq_iff_iff]; simp
   refine bN hc ?_
   unfold Hs.writing
   by_cases z : ((s.marks x r).length : Int) < bR s.cnt \/ s.wrote x = true
   ·rw [if_pos z, decide_eq_true z]
    refine bA (bJ (aG (aQ fun q m' l k g => ?_)))
    have g3 : m.length <= q := Nat.le_trans l1.1 (Nat.le_trans l2.1 g)
    exact c9 k g3 (h.out g3) (hb.le l) ((l1.trans (l2.trans l)).mod)
   ·rw [if_neg z, decide_eq_false z]
    have zw : s.wrote x = false := by cases w : s.wrote x with | true => exact absurd (.inr w) z | false => rfl
    refine dJ (aC rfl (aE (aM rfl hb.inst rfl) (aC rfl (dF kc rfl (aW _ _ _ _) (by unfold aJ7 tD; rw [List.length_map]; exact hl) ?_))))
    have ep : put (.int x) (.str r) (aJ7 s.rows) = aJ7 (s.rows ++ [(x, r, s.marks x r)]) := by
     unfold aJ7
     rw [aB3 _ _ _ _ _ zw]
     unfold tD
     rw [List.map_append]; rfl
    show Wp _ (m2.set D.c (.dict (put (.int x) (.str r) (aJ7 s.rows)) (ec + 1))) _ _
    rw [ep]
    have F := Hd.upd hb.nd (m := m2) (o' := .dict (aJ7 (s.rows ++ [(x, r, s.marks x r)])) (ec + 1)) (j := 3) rfl
    have kd' := F 4 _ _ rfl (by decide) kd
    have ki' := F 0 _ _ rfl (by decide) hb.inst
    have zb : ((bak s D).any fun y => y.1 == x) = false := by
     rw [List.any_eq_false]
     intro y hy
     have : y.1 ∈ s.rows.map (·.1) := (List.of_mem_zip (a := y.1) (b := y.2) hy).1
     rcases List.mem_map.mp this with ⟨t, ht, e⟩
     have := List.any_eq_false.mp zw t ht
     rw [<- e]; exact this
    refine dJ (aC rfl (aE (aM rfl ki' rfl) (aC rfl (dF kd' rfl (aW _ _ _ _) (by unfold bK5 tD; rw [List.length_map]; unfold bak; rw [List.length_zip, List.length_map, h.len, Nat.min_self]; exact hl) ?_))))
    have ep2 : put (.int x) (.ref q2) (bK5 (bak s D)) = bK5 (bak s D ++ [(x, q2)]) := by
     unfold bK5
     rw [aB3 _ _ _ _ _ zb]
     unfold tD
     rw [List.map_append]; rfl
    show Wp _ (List.set _ D.d (.dict (put (.int x) (.ref q2) (bK5 (bak s D))) (ed + 1))) _ _
    rw [ep2]
    have h3 := hb.setR (n := x) (r := r) (e1 := ec + 1) (e2 := ed + 1) k2 qo
    have k3 : ((m2.set D.c (.dict (aJ7 (s.rows ++ [(x, r, s.marks x r)])) (ec + 1))).set D.d (.dict (bK5 (bak s D ++ [(x, q2)])) (ed + 1)))[q2]? = some (.list ((s.marks x r).map Wo.v)) :=
     aN (fun e => qo (e ▸ List.mem_append_left _ (by simp [Hd.foot]))) (aN (fun e => qo (e ▸ List.mem_append_left _ (by simp [Hd.foot]))) k2)
    have el : biV .list [.ref q2] ((m2.set D.c (.dict (aJ7 (s.rows ++ [(x, r, s.marks x r)])) (ec + 1))).set D.d (.dict (bK5 (bak s D ++ [(x, q2)])) (ed + 1))) = alloc (.list ((s.marks x r).map Wo.v)) ((m2.set D.c (.dict (aJ7 (s.rows ++ [(x, r, s.marks x r)])) (ec + 1))).set D.d (.dict (bK5 (bak s D ++ [(x, q2)])) (ed + 1))) := by
     unfold biV; dsimp only; rw [k3]
    refine bA (aO9 (aF (aC rfl (aG ?_))))
    refine aF8 el (aQ fun q m' l k g => ?_)
    have gl : m2.length <= q := by simpa using g
    have g3 : m.length <= q := Nat.le_trans l1.1 (Nat.le_trans l2.1 gl)
    have q3 : q2 < m2.length := aT k2
    have g4 : m.length <= q2 := Nat.le_trans l1.1 g2
    refine ⟨q, [q2], rfl, k, g3, fun c => ?_, h3.le l, ?_, fun y hy => by rw [List.mem_singleton.mp hy]; exact g4⟩
    ·have := h3.lt q c
     simp at this; omega
    ·exact ((l1.trans l2).mod.trans ((Mod.set (by simp [Hd.foot])).trans (Mod.set (by simp [Hd.foot])))).trans l.mod
noncomputable def Wo.d (w : Wo) : PyData := .tuple [.str w.k, .int w.n, .str w.r, .int w.h]
theorem aF1 (m : MH) (f : Nat) : ∀ l : List Wo, aA0 (rd (f + 2) m) (l.map Wo.v) = some (l.map Wo.d)
 | [] => rfl
 | w :: l => bW3 rfl (aF1 m f l)
theorem cE5 (x y : PyData) (a b : List PyData) : PyData.eqvAll (x :: a) (y :: b) = (PyData.eqv x y && PyData.eqvAll a b) := rfl
theorem cR7 (a b : Wo) : PyData.eqv a.d b.d = decide (a = b) := by
 rcases a with ⟨a1, a2, a3, a4⟩
 rcases b with ⟨b1, b2, b3, b4⟩
 have e : PyData.eqv (Wo.d ⟨a1, a2, a3, a4⟩) (Wo.d ⟨b1, b2, b3, b4⟩) = (a1 == b1 && (a2 == b2 && (a3 == b3 && (a4 == b4 && true)))) := rfl
 rw [e, Bool.eq_iff_iff, decide_eq_true_iff, Bool.and_eq_true_iff, Bool.and_eq_true_iff, Bool.and_eq_true_iff, Bool.and_true, beq_iff_eq, beq_iff_eq, beq_iff_eq, beq_iff_eq]
 exact ⟨fun ⟨p, q, r, s⟩ => by subst p q r s; rfl, fun e => by cases e; exact ⟨rfl, rfl, rfl, rfl⟩⟩
theorem aW4 : ∀ a b : List Wo, PyData.eqvAll (a.map Wo.d) (b.map Wo.d) = decide (a = b)
 | [], [] => rfl
 | [], _ :: _ => (decide_eq_false fun e => by cases e).symm
 | _ :: _, [] => (decide_eq_false fun e => by cases e).symm
 | x :: a, y :: b => by
  rw [List.map_cons, List.map_cons, cE5, cR7, aW4 a b, Bool.eq_iff_iff, Bool.and_eq_true_iff, decide_eq_true_iff, decide_eq_true_iff, decide_eq_true_iff]
  exact ⟨fun h => by rw [h.1, h.2], fun h => ⟨(List.cons.inj h).1, (List.cons.inj h).2⟩⟩
theorem cE6 {p q : Nat} {a b : List Wo} (hp : m[p]? = some (.list (a.map Wo.v))) (hq : m[q]? = some (.list (b.map Wo.v))) : eqV (.ref p) (.ref q) m = .ok (decide (a = b)) m := by
 have r1 : rd aI9 m (.ref p) = some (.list (a.map Wo.d)) := by
  show (match m[p]? with | some (.list xs) => (aA0 (rd 11 m) xs).map PyData.list | _ => none) = _
  rw [hp]; show (aA0 (rd 11 m) (a.map Wo.v)).map PyData.list = _; rw [aF1 m 9 a]; rfl
 have r2 : rd aI9 m (.ref q) = some (.list (b.map Wo.d)) := by
  show (match m[q]? with | some (.list xs) => (aA0 (rd 11 m) xs).map PyData.list | _ => none) = _
  rw [hq]; show (aA0 (rd 11 m) (b.map Wo.v)).map PyData.list = _; rw [aF1 m 9 b]; rfl
 unfold eqV
 rw [r1, r2]
 show Res.ok (PyData.eqvAll _ _) m = _
 rw [aW4]
theorem bR2 (H : HF S N) (n : Nat) (w : Wo) {ahead : List Wo} {qa : Nat} (ha : m[qa]? = some (.list (ahead.map Wo.v))) (hq : qa ∉ D.all) (h : Ho m N.C D s) (hl : s.named.length < lid) : Wp (run S (n + 1) (N.ki + 5) [.ref D.p, w.v, .ref qa]) m (Tells m N.C D (s.naming w ahead)) nox := by
 refine bH H.naming rfl (aE2 (aS8 (cT (aE1 (aH6 (aC rfl (bJ (aG (aQ fun q0 m0 l0 k0 g0 => ?_)))))))))
 have ha0 := l0.has ha
 have e0 : aJ1 .Eq (.ref qa) (.ref q0) m0 = .ok (decide (ahead = [])) m0 := cE6 ha0 (b := []) k0
 refine aE e0 (aC rfl ?_)
 have h0 := h.le l0
 rcases h0.bl with ⟨ef, kf⟩
 cases ahead with
 | nil =>
  rw [show decide (([] : List Wo) = []) = true from by simp]
  refine aK9 ?_
  refine bA (bJ (aG (aQ fun q m' l k g => ?_)))
  have g3 : m.length <= q := Nat.le_trans l0.1 g
  exact c9 k g3 (h.out g3) (h0.le l) ((l0.trans l).mod)
 | cons a as =>
  have e2 : evT S (run S n) (.val (.cmp (.idx (.var 1) (.cnst (Lt.int 3))) [.In] [(.attr (.var 0) 16)])) [some (.ref D.p), some w.v, some (.ref qa)] m0 = .ok (s.named.any fun x => x.1 == w.h) m0 := by
   refine aU (aP rfl (aM rfl h0.inst rfl) ?_)
   show inV (.int w.h) (.ref D.f) m0 = _
   rw [aX kf rfl (aW _ _ _ _), bC1, dU]
  rw [show decide (a :: as = []) = false from by simp]
  refine fS ?_
  refine aE (bB e2 dZ) ?_
  rw [Bool.or_false]
  unfold Hs.naming
  dsimp only
  cases z : s.named.any fun x => x.1 == w.h with
  | true =>
   show Wp _ m0 _ _
   refine bA (bJ (aG (aQ fun q m' l k g => ?_)))
   have g3 : m.length <= q := Nat.le_trans l0.1 g
   exact c9 k g3 (h.out g3) (h0.le l) ((l0.trans l).mod)
  | false =>
   show Wp _ m0 _ _
   rw [if_neg Bool.false_ne_true]
   refine dJ (aC rfl (aE (aM rfl h0.inst rfl) (aC rfl (dF kf rfl (aW _ _ _ _) (by unfold bC1 tD; rw [List.length_map]; exact hl) ?_))))
   have ep : put (.int w.h) (.bool true) (bC1 s.named) = bC1 (s.named ++ [(w.h, a, w)]) := by
    unfold bC1
    rw [aB3 _ _ _ _ _ z]
    unfold tD
    rw [List.map_append]; rfl
   show Wp _ (m0.set D.f (.dict (put (.int w.h) (.bool true) (bC1 s.named)) (ef + 1))) _ _
   rw [ep]
   have F := Hd.upd h0.nd (m := m0) (o' := .dict (bC1 (s.named ++ [(w.h, a, w)])) (ef + 1)) (j := 6) rfl
   have ki := F 0 _ _ rfl (by decide) h0.inst
   have ke := F 5 _ _ rfl (by decide) h0.na
   have qf : D.f ≠ qa := fun e => hq (e ▸ List.mem_append_left _ (by simp [Hd.foot]))
   have qe : D.e ≠ qa := fun e => hq (e ▸ List.mem_append_left _ (by simp [Hd.foot]))
   have ha1 := aN (o' := .dict (bC1 (s.named ++ [(w.h, a, w)])) (ef + 1)) qf ha0
   have hi : ∀ (m' : MH), m'[qa]? = some (.list ((a :: as).map Wo.v)) -> aQ0 (.ref qa) (.int 0) m' = .ok a.v m' := fun m' k => by
    unfold aQ0; dsimp only; rw [k]; rfl
   refine fD (cV (aE (aM rfl ki rfl) ⟨0, cA1 ke, rfl, aE (aO (aZ3 (aO rfl (aO (dY rfl rfl (hi _ ha1)) (aO rfl rfl)))) rfl) (aN6 ke (by unfold aY2; rw [List.length_map]; exact hl) ?_)⟩))
   have en : aY2 s.named ++ [V.tup [.int w.h, a.v, w.v]] = aY2 (s.named ++ [(w.h, a, w)]) := by unfold aY2; rw [List.map_append]; rfl
   show Wp _ (List.set _ D.e (.list (aY2 s.named ++ [V.tup [.int w.h, a.v, w.v]]))) _ _
   rw [en]
   have h1 := h0.setN (x := (w.h, a, w)) (e1 := ef + 1)
   have ha2 := aN (o' := .list (aY2 (s.named ++ [(w.h, a, w)]))) qe ha1
   refine bA (bJ (aE (aO (dY rfl rfl (hi _ ha2)) (aO rfl rfl)) (aQ fun q m' l k g => ?_)))
   have gl : m0.length <= q := by simpa using g
   have g3 : m.length <= q := Nat.le_trans l0.1 gl
   refine c9 k g3 (h.out g3) (h1.le l) ?_
   exact (l0.mod.trans ((Mod.set (by simp [Hd.foot])).trans (Mod.set (by simp [Hd.foot])))).trans l.mod
end
end Mini
namespace Mini
open PySem
noncomputable def Hs.sz (s : Hs) : Nat := s.known.length + s.marked.length + s.rows.length + s.named.length
theorem Hs.km (s : Hs) : s.known.length + s.marked.length <= s.sz := Nat.le_trans (Nat.le_add_right _ _) (Nat.le_add_right _ _)
theorem Hs.kl (s : Hs) : s.known.length <= s.sz := Nat.le_trans (Nat.le_add_right _ _) s.km
theorem Hs.rl (s : Hs) : s.rows.length <= s.sz := Nat.le_trans (Nat.le_add_left _ _) (Nat.le_add_right _ _)
theorem Hs.nl (s : Hs) : s.named.length <= s.sz := Nat.le_add_left _ _
theorem cW6 {a b a' b' c d k : Nat} (h : a' <= a + k) (h2 : b' <= b + 1) : a' + b' + c + d <= a + b + c + d + (k + 1) := by omega
theorem sum_3 {a b c d : Nat} : a + b + (c + 1) + d <= a + b + c + d + 1 := by omega
theorem cW7 {a b c d : Nat} : a + 1 + b + c + d = a + b + c + d + 1 := by omega
theorem bH4 (w : Wo) (l : List Wo) : (aL0 w l).length <= l.length + 1 := by
 unfold aL0
 by_cases h : w ∈ l
 ·rw [if_pos h]; exact Nat.le_succ _
 ·rw [if_neg h, List.length_append]; exact Nat.le_refl _
theorem cJ (s : Hs) (w : Wo) : (s.marking w).1.cnt = s.cnt /\ (s.marking w).1.rows = s.rows /\ (s.marking w).1.named = s.named /\ (s.marking w).1.own = s.own /\ (s.marking w).1.onw = s.onw /\ (s.marking w).1.sz <= s.sz + 2 /\ (s.marking w).2.length <= 1 := by
 unfold Hs.marking
 split
 ·exact ⟨rfl, rfl, rfl, rfl, rfl, Nat.le_add_right _ _, Nat.zero_le _⟩
 ·refine ⟨rfl, rfl, rfl, rfl, rfl, ?_, Nat.le_refl _⟩
  exact cW6 (bH4 (mrk w.n w.r s.own) s.known) (Nat.le_of_eq List.length_append)
theorem dX (s : Hs) (x : Int) (r : Str) : (s.writing x r).1.cnt = s.cnt /\ (s.writing x r).1.named = s.named /\ (s.writing x r).1.own = s.own /\ (s.writing x r).1.onw = s.onw /\ (s.writing x r).1.sz <= s.sz + 1 /\ (s.writing x r).2.length <= s.cnt.toNat := by
 unfold Hs.writing
 split
 ·exact ⟨rfl, rfl, rfl, rfl, Nat.le_add_right _ _, Nat.zero_le _⟩
 ·refine ⟨rfl, rfl, rfl, rfl, ?_, aU0 s x r⟩
  unfold Hs.sz; rw [List.length_append]; exact sum_3
theorem aD0 (s : Hs) (w : Wo) (l : List Wo) : (s.naming w l).1.cnt = s.cnt /\ (s.naming w l).1.own = s.own /\ (s.naming w l).1.onw = s.onw /\ (s.naming w l).1.sz <= s.sz + 1 /\ (s.naming w l).2.length <= 2 := by
 cases l with
 | nil => exact ⟨rfl, rfl, rfl, Nat.le_add_right _ _, Nat.zero_le _⟩
 | cons a l =>
  unfold Hs.naming
  dsimp only
  split
  ·exact ⟨rfl, rfl, rfl, Nat.le_add_right _ _, Nat.zero_le _⟩
  ·refine ⟨rfl, rfl, rfl, ?_, Nat.le_refl _⟩
   unfold Hs.sz; rw [List.length_append]; exact Nat.le_refl _
theorem dL (s : Hs) (w : Wo) : (s.hear w).1.cnt = s.cnt /\ (s.hear w).1.own = s.own /\ (s.hear w).1.onw = s.onw /\ (s.hear w).1.sz <= s.sz + 5 /\ (s.hear w).2.length <= s.cnt.toNat + 3 := by
 unfold Hs.hear
 split
 ·exact ⟨rfl, rfl, rfl, Nat.le_add_right _ _, Nat.zero_le _⟩
 ·dsimp only
  rcases cJ { s with known := s.known ++ [w] } w with ⟨a1, a2, a3, a4, a5, a6, a7⟩
  rcases dX (({ s with known := s.known ++ [w] } : Hs).marking w).1 w.n w.r with ⟨b1, b2, b3, b4, b5, b6⟩
  rcases aD0 ((({ s with known := s.known ++ [w] } : Hs).marking w).1.writing w.n w.r).1 w (s.known.filter fun a => bZ a w) with ⟨c1, c2, c3, c4, c5⟩
  have z : ({ s with known := s.known ++ [w] } : Hs).sz = s.sz + 1 := by unfold Hs.sz; rw [List.length_append]; exact cW7
  rw [a1] at b6
  refine ⟨c1.trans (b1.trans a1), c2.trans (b3.trans a4), c3.trans (b4.trans a5), Nat.le_trans c4 (Nat.succ_le_succ (Nat.le_trans b5 (Nat.succ_le_succ (Nat.le_trans a6 (Nat.le_of_eq (congrArg (· + 2) z)))))), ?_⟩
  rw [List.length_append, List.length_append]
  exact Nat.le_trans (Nat.add_le_add (Nat.add_le_add a7 b6) c5) (Nat.le_of_eq (by rw [Nat.add_comm 1]))
section
variable {S : Sig} {N : HN} {m : MH} {D : Hd} {s : Hs}
theorem aN9 {p e : Nat} {kvs : List (Ky × V)} (h : m[p]? = some (.dict kvs e)) : fC .expr [.ref p] m = .ok (kvs.map fun x => x.1.val, .dict p e) m := by
 show eA (.ref p) m = _
 unfold eA; dsimp only; rw [h]
theorem aZ0 {p e : Nat} {kvs : List (Ky × V)} (h : m[p]? = some (.dict kvs e)) : (Gd.dict p e).stays m = true := by
 unfold Gd.stays; dsimp only; rw [h]; exact beq_self_eq_true e
theorem bS7 (l : List Wo) : ((kD l).map fun x => x.1.val) = l.map Wo.v := by unfold kD; rw [List.map_map]; rfl
theorem bT3 (H : HF S N) (n : Nat) (w : Wo) (h : Ho m N.C D s) (h1 : 1 <= s.cnt) (h2 : s.cnt <= 12) (hl : s.sz + 8 < lid) : Wp (run S (n + 6) (N.ki + 2) [.ref D.p, w.v]) m (Tells m N.C D (s.hear w)) nox := by
 rcases h.kn with ⟨ea, ka⟩
 rcases H.cls with ⟨d, hd, hx, hi, hm⟩
 have e0 : evT S (run S (n + 5)) (.val (.cmp (.var 1) [.In] [(.attr (.var 0) 11)])) [some (.ref D.p), some w.v, none] m = .ok (decide (w ∈ s.known)) m := by
  refine aU (aP rfl (aM rfl h.inst rfl) ?_)
  show inV w.v (.ref D.a) m = _
  rw [aX ka (k := w.ky) rfl (dA _ _), aP7]
 refine bH H.hear rfl (bN e0 ?_)
 unfold Hs.hear
 by_cases z : w ∈ s.known
 ·rw [if_pos z, decide_eq_true z]
  refine bA (bJ (aG (aQ fun q m' l k g => ?_)))
  exact c9 k g (h.out g) (h.le l) l.mod
 ·rw [if_neg z, decide_eq_false z]
  dsimp only
  have hsl : s.sz < lid := Nat.lt_of_le_of_lt (Nat.le_add_right _ _) hl
  have hkl : s.known.length <= lid := Nat.le_of_lt (Nat.lt_of_le_of_lt s.kl hsl)
  refine a9 (aH5 s.known Wo.v Wo.v (fun a => bZ a w) (fun m' => m' = m) (aF (aE (aM rfl h.inst rfl) (aG (aE (aN9 ka) ⟨bS7 _, rfl, ?_, ?_, hkl, ?_⟩)))))
  ·intro m' em; rw [em]; exact aZ0 ka
  ·intro a ha m' em
   rw [em]
   refine aC rfl (aP9 (aE (aU (aC5 (vs := [a.v, w.v]) rfl (bN1 H _ a w m))) ⟨rfl, ?_⟩))
   cases bZ a w with
   | true => exact fS (aC (m' := m) (a := a.v) rfl ⟨rfl, rfl⟩)
   | false => rfl
  ·intro qa m1' m1 em l1 k1 g1
   rw [em] at l1 g1
   clear em m1'
   have ha := h.le l1
   rcases ha.kn with ⟨ea, ka⟩
   refine dJ (aC rfl (aE (aM rfl ha.inst rfl) (aC rfl (dF ka (k := w.ky) rfl (dA _ _) (by unfold kD; rw [List.length_map]; exact Nat.lt_of_le_of_lt s.kl hsl) ?_))))
   show Wp _ (m1.set D.a (.dict (put w.ky (.bool true) (kD s.known)) (ea + 1))) _ _
   rw [aS7, show aL0 w s.known = s.known ++ [w] from if_neg z]
   have hb := ha.setK (s.known ++ [w]) (ea + 1)
   have qo : qa ∉ D.all := h.out g1
   have kq := aN (o' := .dict (kD (s.known ++ [w])) (ea + 1)) (fun e => qo (e ▸ List.mem_append_left _ (by simp [Hd.foot])) : D.a ≠ qa) k1
   have M1 : Mod D.foot m (m1.set D.a (.dict (kD (s.known ++ [w])) (ea + 1))) := l1.mod.trans (Mod.set (by simp [Hd.foot]))
   generalize hs1 : ({ s with known := s.known ++ [w] } : Hs) = s1 at hb ⊢
   have sz1 : s1.sz = s.sz + 1 := by rw [<- hs1]; unfold Hs.sz; rw [List.length_append]; exact cW7
   have cn1 : s1.cnt = s.cnt := by rw [<- hs1]
   generalize hm2 : m1.set D.a (.dict (kD (s.known ++ [w])) (ea + 1)) = m2 at hb kq M1 ⊢
   have c1 := (cJ s1 w).1
   have c6 := (cJ s1 w).2.2.2.2.2.1
   have c7 := (cJ s1 w).2.2.2.2.2.2
   refine bA (aL8 (aL8 (bV (aC rfl ⟨D.p, N.C, _, d, N.ki + 3, rfl, hb.inst, hd, rfl, hm 2 (by decide), aC rfl (dQ (bJ0 H (n + 4) w hb (Nat.lt_of_le_of_lt s1.km (by rw [sz1]; exact Nat.lt_of_le_of_lt (Nat.add_le_add_left (show 1 <= 8 by decide) s.sz) hl))) fun m3 q1 l3 k3 g3 o3 h3 M3 y3 => ?_)⟩))))
   refine bV (aC rfl ⟨D.p, N.C, _, d, N.ki + 4, rfl, h3.inst, hd, rfl, hm 3 (by decide), aC rfl (dQ (bH7 (D := D.ext l3) H n w.n w.r h3 (by rw [c1, cn1]; exact h1) (by rw [c1, cn1]; exact h2) (Nat.lt_of_le_of_lt (Hs.rl _) (Nat.lt_of_le_of_lt c6 (by rw [sz1]; exact Nat.lt_of_le_of_lt (Nat.add_le_add_left (show 3 <= 8 by decide) s.sz) hl)))) fun m4 q2 l4 k4 g4 o4 h4 M4 y4 => ?_)⟩)
   have b5 := (dX (s1.marking w).1 w.n w.r).2.2.2.2.1
   have b6 := (dX (s1.marking w).1 w.n w.r).2.2.2.2.2
   have k34 := M4.has k3 (aB4 (D := D.ext l3) o3)
   have len2 : (s1.marking w).2.length + ((s1.marking w).1.writing w.n w.r).2.length <= 13 := by rw [c1, cn1] at b6; exact Nat.add_le_add c7 (Nat.le_trans b6 (cQ h2))
   refine bC7 k34 k4 (by rw [List.length_map, List.length_map]; exact bL len2 (by decide)) fun q5 m5 l5 k5 g5 => ?_
   have h5 := h4.le l5
   have le23 := M3.1
   have le34 := M4.1
   have qa5 : m5[qa]? = some (.list ((s.known.filter fun a => bZ a w).map Wo.v)) := l5.has (M4.has (M3.has kq (aB4 qo)) (show qa ∉ D.foot from aB4 qo))
   have lt2 : qa < m2.length := aT kq
   have oa : qa ∉ ((D.ext l3).ext l4).all := fun c => by
    rcases List.mem_append.mp c with c | c
    ·exact qo (List.mem_append_left _ c)
    ·have c : qa ∈ (D.bs ++ l3) ++ l4 := c
     rcases List.mem_append.mp c with c | c
     ·rcases List.mem_append.mp c with c | c
      ·exact qo (List.mem_append_right _ c)
      ·exact absurd (y3 _ c) (Nat.not_le.mpr lt2)
     ·exact absurd (Nat.le_trans le23 (y4 _ c)) (Nat.not_le.mpr lt2)
   refine bV (aC rfl ⟨D.p, N.C, _, d, N.ki + 5, rfl, h5.inst, hd, rfl, hm 4 (by decide), aC rfl (dQ (bR2 (D := (D.ext l3).ext l4) H (n + 4) w qa5 oa h5 (Nat.lt_of_le_of_lt (Hs.nl _) (Nat.lt_of_le_of_lt (Nat.le_trans b5 (Nat.succ_le_succ c6)) (by rw [sz1]; exact Nat.lt_of_le_of_lt (Nat.add_le_add_left (show 4 <= 8 by decide) s.sz) hl)))) fun m6 q6 l6 k6 g6 o6 h6 M6 y6 => ?_)⟩)
   have n5 := (aD0 ((s1.marking w).1.writing w.n w.r).1 w (s.known.filter fun a => bZ a w)).2.2.2.2
   have o5 : q5 ∉ ((D.ext l3).ext l4).all := h4.out g5
   have k56 := M6.has k5 (aB4 (D := (D.ext l3).ext l4) o5)
   refine bC7 k56 k6 (by rw [List.length_append, List.length_map, List.length_map, List.length_map]; exact bL (Nat.add_le_add len2 n5) (by decide)) fun q7 m7 l7 k7 g7 => ?_
   have h7 := h6.le l7
   have lm : m.length <= m2.length := M1.1
   have le56 := M6.1
   have le45 := l5.1
   rw [Hd.ext_ext, Hd.ext_ext] at h7
   rw [Hd.ext_ext, Hd.ext_ext] at h6
   rw [<- List.append_assoc] at h6 h7
   have le2 := Nat.le_trans lm le23
   have le3 := Nat.le_trans le2 le34
   refine ⟨q7, l3 ++ l4 ++ l6, rfl, ?_, Nat.le_trans (Nat.le_trans le3 le45) (Nat.le_trans le56 g7), h6.out g7, h7, ?_, fun y hy => ?_⟩
   ·rw [k7, List.map_append, List.map_append]
   ·exact (M1.trans M3).trans ((M4.trans l5.mod).trans (Mod.trans M6 l7.mod))
   ·rcases List.mem_append.mp hy with hy | hy
    ·rcases List.mem_append.mp hy with hy | hy
     ·exact Nat.le_trans lm (y3 y hy)
     ·exact Nat.le_trans le2 (y4 y hy)
    ·exact Nat.le_trans (Nat.le_trans le3 le45) (y6 y hy)
theorem cT1 (H : HF S N) (n : Nat) (r : Str) (h : Ho m N.C D s) (hr : bP8 (.str r) = true) (hrl : r.length <= 64) (h1 : 1 <= s.cnt) (h2 : s.cnt <= 12) (hl : s.sz + 8 < lid) : Wp (run S (n + 7) (N.ki + 1) [.ref D.p, .str r]) m (Tells m N.C D (s.call r)) nox := by
 rcases H.gL with ⟨y_, gL⟩
 rcases H.gS with ⟨y_, gS⟩
 rcases H.cls with ⟨d, hd, hx, hi, hm⟩
 have er := bD6 H.R gL gS (n + 5) (m := m) hr
 refine bH H.call rfl (bN (eE (aU (bD rfl er))) ?_)
 show Wp _ m _ _
 refine a9 (aE (aZ3 (aO rfl (aO (aM rfl h.inst rfl) (aO rfl (aO (aM rfl h.inst rfl) rfl))))) ?_)
 refine aB2 (aE (bE (aM rfl h.inst rfl) (aM rfl h.inst rfl) rfl) (aC rfl ⟨D.p, N.C, _, rfl, h.inst, ?_⟩))
 have hb := h.setP (s.onw + s.cnt)
 show Wp _ (m.set D.p (.inst N.C (cU2 D { s with onw := s.onw + s.cnt }))) _ _
 have M1 : Mod D.foot m (m.set D.p (.inst N.C (cU2 D { s with onw := s.onw + s.cnt }))) := Mod.set (by simp [Hd.foot])
 generalize hm2 : m.set D.p (.inst N.C (cU2 D { s with onw := s.onw + s.cnt })) = m2 at hb M1 ⊢
 refine bA (aL8 (bJ (aF (aC rfl (aG (aQ fun q0 m0 l0 k0 g0 => ?_))))))
 have h0 := hb.le l0
 refine bV (aC rfl ⟨D.p, N.C, _, d, N.ki + 2, rfl, h0.inst, hd, rfl, hm 1 (by decide), aC rfl (dQ (bT3 H n ⟨eD, s.onw, r, s.own⟩ h0 h1 h2 hl) fun m3 q1 l3 k3 g3 o3 h3 M3 y3 => ?_)⟩)
 have o0 : q0 ∉ D.all := hb.out g0
 have k03 := M3.has k0 (aB4 o0)
 have n5 : (Hs.hear { s with onw := s.onw + s.cnt } ⟨eD, s.onw, r, s.own⟩).2.length <= s.cnt.toNat + 3 := (dL { s with onw := s.onw + s.cnt } ⟨eD, s.onw, r, s.own⟩).2.2.2.2
 refine bC7 k03 k3 (by rw [List.length_map]; exact bL (Nat.add_le_add (Nat.le_refl 1) (Nat.le_trans n5 (Nat.add_le_add_right (cQ h2) 3))) (by decide)) fun q7 m7 l7 k7 g7 => ?_
 have lm := M1.1
 have lm2 := l0.1
 have lm3 := M3.1
 refine ⟨q7, l3, rfl, k7, Nat.le_trans (Nat.le_trans lm lm2) (Nat.le_trans lm3 g7), h3.out g7, h3.le l7, ?_, fun y hy => Nat.le_trans (Nat.le_trans lm lm2) (y3 y hy)⟩
 exact (M1.trans l0.mod).trans (M3.trans l7.mod)
end
end Mini
namespace Mini
open PySem
section
variable {S : Sig} {N : HN} {m : MH} {D : Hd} {s : Hs}
theorem bT5 {p C : Nat} {fs : List (Nat × V)} (h : m[p]? = some (.inst C fs)) (fs' : List (Nat × V)) (o : MObj) :
  ∃ m', (m ++ [o]).set p (.inst C fs') = m' /\ m'[p]? = some (.inst C fs') /\ m'[m.length]? = some o /\ (∀ q x, q ≠ p -> m[q]? = some x -> m'[q]? = some x) /\ m'.length = m.length + 1 /\ Mod [p] m m' := by
 have hlt := aT h
 refine ⟨_, rfl, aY ((Le.app _ _).has h), ?_, fun q x hq k => ?_, by simp, (Le.app _ _).mod.trans (Mod.set (.head _))⟩
 ·rw [List.getElem?_set_ne (by omega)]; exact bO
 ·exact aN (fun e => hq e.symm) ((Le.app _ _).has k)
noncomputable def Hs.new (c o : Int) : Hs := ⟨c, o, o, [], [], [], []⟩
theorem nd7 {p n : Nat} (h : p < n) : [p, n, n + 1, n + 2, n + 3, n + 4, n + 5].Nodup := by
 show (p :: List.range' n 6).Nodup
 exact List.nodup_cons.mpr ⟨fun q => absurd (List.mem_range'_1.mp q).1 (Nat.not_le.mpr h), List.nodup_range'⟩
theorem mem7 {p n y : Nat} (hy : y ∈ [p, n, n + 1, n + 2, n + 3, n + 4, n + 5]) : y = p \/ n <= y := by
 have hy : y ∈ p :: List.range' n 6 := hy
 rcases List.mem_cons.mp hy with e | e
 ·exact .inl e
 ·exact .inr (List.mem_range'_1.mp e).1
theorem cX {F : Fns} {r : Lo} {E : Nat -> MH -> Prop} {Q : Fl × Lo -> MH -> Prop} {ss : List CS} {p C k n : Nat} {fs : List (Nat × V)} {o : MObj} {e : CE} (he : ev S F e r m = .ok (.ref m.length) (m ++ [o])) (hv : ev S F (.var 0) r (m ++ [o]) = .ok (.ref p) (m ++ [o])) (h : m[p]? = some (.inst C fs)) (hn : m.length = n)
  (q : ∀ m', m'[p]? = some (.inst C (eG k (.ref n) fs)) -> m'[n]? = some o -> (∀ q x, q ≠ p -> m[q]? = some x -> m'[q]? = some x) -> m'.length = n + 1 -> Mod [p] m m' -> Wp (exs S F ss r) m' Q E) : Wp (exs S F (.asg (.attr (.var 0) k) e :: ss) r) m Q E := by
 subst hn
 rcases bT5 h (eG k (.ref m.length) fs) o with ⟨a1, e1, i1, n1, f1, L1, M1⟩
 refine aB2 (aE he (aE hv ⟨p, C, fs, rfl, (Le.app _ _).has h, ?_⟩))
 rw [e1]
 exact q a1 i1 n1 f1 L1 M1
theorem cQ2 (H : HF S N) (n : Nat) {c o : Int} {p : Nat} (h1 : 1 <= c) (h2 : c <= 12) (h3 : 0 <= o) (h4 : o < c) (hp : m[p]? = some (.inst N.C [])) : Wp (run S (n + 3) N.ki [.ref p, .int c, .int o]) m (fun u m' => u = .none /\ ∃ D, D.p = p /\ Ho m' N.C D (Hs.new c o) /\ Mod [p] m m' /\ ∀ y ∈ D.all, y = p \/ m.length <= y) nox := by
 rcases H.gM with ⟨y_, gM⟩
 have en : run S (n + 2) N.kN [.int c] m = .ok .none m := by
  exact aB5 H.N_ H.W gM n h1 h2
 have hlt := aT hp
 refine bH H.I rfl (fD (aE (bD rfl en) (bN (t := false) (eF (bB (x := false) (eE (aU (bD rfl (bS H.W (n + 1) o)))) (bB (x := false) (bQ2 rfl rfl h3 h4) dZ))) ?_)))
 clear en h1 h2 h3 h4
 refine aB2 (aC rfl (aC rfl ⟨p, N.C, [], rfl, hp, ?_⟩))
 have k1 := aY (o' := .inst N.C (eG 8 (.int c) [])) hp
 refine aB2 (aC rfl (aC rfl ⟨p, N.C, _, rfl, k1, ?_⟩))
 have k2 := aY (o' := .inst N.C (eG 9 (.int o) (eG 8 (.int c) []))) k1
 refine aB2 (aC rfl (aC rfl ⟨p, N.C, _, rfl, k2, ?_⟩))
 have k3 := aY (o' := .inst N.C (eG 10 (.int o) (eG 9 (.int o) (eG 8 (.int c) [])))) k2
 have M0 : Mod [p] m (((m.set p (.inst N.C (eG 8 (.int c) []))).set p (.inst N.C (eG 9 (.int o) (eG 8 (.int c) [])))).set p (.inst N.C (eG 10 (.int o) (eG 9 (.int o) (eG 8 (.int c) []))))) :=
  ((Mod.set (.head _)).trans (Mod.set (.head _))).trans (Mod.set (.head _))
 have L0 : (((m.set p (.inst N.C (eG 8 (.int c) []))).set p (.inst N.C (eG 9 (.int o) (eG 8 (.int c) [])))).set p (.inst N.C (eG 10 (.int o) (eG 9 (.int o) (eG 8 (.int c) []))))).length = m.length := by simp
 clear k1 k2
 generalize ((m.set p (.inst N.C (eG 8 (.int c) []))).set p (.inst N.C (eG 9 (.int o) (eG 8 (.int c) [])))).set p (.inst N.C (eG 10 (.int o) (eG 9 (.int o) (eG 8 (.int c) [])))) = a0 at k3 M0 L0 ⊢
 refine cX rfl rfl k3 L0 fun a1 i1 n1 f1 L1 M1 => ?_
 refine cX rfl rfl i1 L1 fun a2 i2 n2 f2 L2 M2 => ?_
 refine cX rfl rfl i2 L2 fun a3 i3 n3 f3 L3 M3 => ?_
 refine cX rfl rfl i3 L3 fun a4 i4 n4 f4 L4 M4 => ?_
 refine cX rfl rfl i4 L4 fun a5 i5 n5 f5 L5 M5 => ?_
 refine cX rfl rfl i5 L5 fun a6 i6 n6 f6 L6 M6 => ?_
 have g : ∀ k, m.length + k ≠ p := fun k e => absurd hlt (by rw [<- e]; exact Nat.not_lt.mpr (Nat.le_add_right _ _))
 refine b9 ⟨rfl, ⟨p, m.length, m.length + 1, m.length + 2, m.length + 3, m.length + 4, m.length + 5, []⟩, rfl, ⟨i6, ⟨0, ?_⟩, ⟨0, ?_⟩, ⟨0, ?_⟩, ⟨0, ?_⟩, ?_, ⟨0, n6⟩, fun i x e => ?_, rfl, nd7 hlt⟩, ?_, fun y hy => mem7 hy⟩
 ·exact f6 _ _ (g 0) (f5 _ _ (g 0) (f4 _ _ (g 0) (f3 _ _ (g 0) (f2 _ _ (g 0) n1))))
 ·exact f6 _ _ (g 1) (f5 _ _ (g 1) (f4 _ _ (g 1) (f3 _ _ (g 1) n2)))
 ·exact f6 _ _ (g 2) (f5 _ _ (g 2) (f4 _ _ (g 2) n3))
 ·exact f6 _ _ (g 3) (f5 _ _ (g 3) n4)
 ·exact f6 _ _ (g 4) n5
 ·cases e
 ·exact ((M0.trans M1).trans (M2.trans M3)).trans ((M4.trans M5).trans M6)
theorem bU9 (H : HF S N) (n : Nat) (h : Ho m N.C D s) : run S (n + 1) (N.ki + 8) [.ref D.p] m = .ok (.ref m.length) (m ++ [.list (aY2 s.named)]) := by
 rw [bD5 H.caught rfl]
 show Res.bind (Res.bind (Res.bind (Res.bind (Res.bind (ev S (run S n) (.attr (.var 0) 15) [some (.ref D.p)] m) _) _) _) _) _ = _
 rw [aM (k := 15) (v := .ref D.e) rfl h.inst rfl]
 show Res.bind (Res.bind (Res.bind (biV .list [.ref D.e] m) _) _) _ = _
 have : biV .list [.ref D.e] m = .ok (.ref m.length) (m ++ [.list (aY2 s.named)]) := by
  unfold biV; dsimp only; rw [h.na]; rfl
 rw [this]; rfl
noncomputable def bQ (l : List (Int × Str × List Wo)) (k : Int) : Str := match l.find? (fun x => x.1 == k) with
 | some x => x.2.1
 | none => Str.empty
noncomputable def ledD (l : List (Int × Str × List Wo)) : List (Ky × V) := (sortI (l.map (·.1))).foldl (fun d i => put (.int i) (.str (bQ l i)) d) []
theorem bA1 {α : Type} (g : α -> Int) (f : α -> V) : ∀ l : List α, fK (tD g f l) = some (l.map g)
 | [] => rfl
 | a :: l => by
  show (fK (tD g f l)).map _ = _
  rw [bA1 g f l]; rfl
theorem aP2 {i j : Int} : ∀ {l : List Int}, j ∈ insI i l ↔ j = i \/ j ∈ l
 | [] => by simp [insI]
 | a :: l => by
  unfold insI
  split
  ·simp
  ·rw [List.mem_cons, aP2, List.mem_cons]; exact ⟨fun h => by rcases h with h | h | h <;> simp [h], fun h => by rcases h with h | h | h <;> simp [h]⟩
theorem mem_sortI {j : Int} : ∀ {l : List Int}, j ∈ sortI l ↔ j ∈ l
 | [] => Iff.rfl
 | a :: l => by
  show j ∈ insI a (sortI l) ↔ _
  rw [aP2, mem_sortI, List.mem_cons]
theorem bF2 (i : Int) : ∀ l : List Int, (insI i l).length = l.length + 1
 | [] => rfl
 | a :: l => by
  unfold insI
  split
  ·rfl
  ·rw [List.length_cons, bF2, List.length_cons]
theorem eM : ∀ l : List Int, (sortI l).length = l.length
 | [] => rfl
 | a :: l => by
  show (insI a (sortI l)).length = _
  rw [bF2, eM, List.length_cons]
theorem aC6 {k j : Int} {v : V} {d : List (Ky × V)} (h : aJ (.int k) d = true) : aJ (.int k) (put (.int j) v d) = true := by
 induction d with
 | nil => rfl
 | cons a d ih =>
  rcases a with ⟨b, x⟩
  unfold aJ at h ih ⊢
  rw [List.all_cons, Bool.and_eq_true] at h
  show (if b = Ky.int j then (b, v) :: d else (b, x) :: put (.int j) v d).all _ = true
  split
  ·rw [List.all_cons, h.1, h.2]; rfl
  ·rw [List.all_cons, ih h.2, h.1]; rfl
theorem aO6 {k : Ky} {v : V} : ∀ d : List (Ky × V), (put k v d).length <= d.length + 1
 | [] => Nat.le_refl _
 | (b, x) :: d => by
  show (if b = k then (b, v) :: d else (b, x) :: put k v d).length <= _
  split
  ·exact Nat.le_succ _
  ·exact Nat.succ_le_succ (aO6 (k := k) (v := v) d)
theorem cP1 {x : Mn V} {kvs : List (Ky × V)} {Q : V -> MH -> Prop} {E : Nat -> MH -> Prop} (h : Wp x m (fun u m' => ∃ q e, u = .ref q /\ m'[q]? = some (.dict kvs e) /\ m.length <= q /\ Le m m') nox) (k : ∀ m' q e, m'[q]? = some (.dict kvs e) -> m.length <= q -> Le m m' -> Q (.ref q) m') : Wp x m Q E :=
 aV h fun y_ m' ⟨q, e, e0, k1, k2, k3⟩ => e0 ▸ k m' q e k1 k2 k3
inductive LInv (C : Nat) (D : Hd) (s : Hs) (m m0 : MH) (zs : List Int) (r : Lo) (m' : MH) : Prop
 | mk (a : List Int) (e : Nat) (x : Option V) (er : r = [some (.ref D.p), some (.ref m.length), x]) (e1 : sortI (s.rows.map (·.1)) = a ++ zs) (ka : m'[m.length]? = some (.dict (a.foldl (fun d i => put (.int i) (.str (bQ s.rows i)) d) []) e)) (kb : m'[m0.length]? = some (.list ((sortI (s.rows.map (·.1))).map V.int))) (hh : Ho m' C D s) (ll : Le m m') (hq : aJ (.int 0) (a.foldl (fun d i => put (.int i) (.str (bQ s.rows i)) d) []) = true) (hz : (a.foldl (fun d i => put (.int i) (.str (bQ s.rows i)) d) []).length <= a.length)
theorem bS3 (H : HF S N) (n : Nat) (h : Ho m N.C D s) (hl : s.rows.length < 64) : Wp (run S (n + 1) (N.ki + 6) [.ref D.p]) m (fun u m' => ∃ q e, u = .ref q /\ m'[q]? = some (.dict (ledD s.rows) e) /\ m.length <= q /\ Le m m') nox := by
 refine bH H.ledger rfl (a9 (aE (a := .ref m.length) (m' := m ++ [.dict [] 0]) rfl ?_))
 have l0 : Le m (m ++ [.dict [] 0]) := .app _ _
 have k0 : (m ++ [.dict [] 0])[m.length]? = some (.dict [] 0) := bO
 generalize m ++ [MObj.dict [] 0] = m0 at l0 k0 ⊢
 have h0 := h.le l0
 rcases h0.ro with ⟨ec, kc⟩
 have hs : biV .sorted [.ref D.c] m0 = .ok (.ref m0.length) (m0 ++ [.list ((sortI (s.rows.map (·.1))).map V.int)]) := by
  unfold biV; dsimp only; rw [kc]; dsimp only
  unfold aJ7
  rw [bA1]; dsimp only
  rw [if_pos (.inl (by rw [List.length_map]; exact hl))]; rfl
 have k1 : (m0 ++ [MObj.list ((sortI (s.rows.map (·.1))).map V.int)])[m0.length]? = some (.list ((sortI (s.rows.map (·.1))).map V.int)) := bO
 have l1 : Le m0 (m0 ++ [.list ((sortI (s.rows.map (·.1))).map V.int)]) := .app _ _
 have g1 : m0.length < (m0 ++ [MObj.list ((sortI (s.rows.map (·.1))).map V.int)]).length := by simp
 generalize (m0 ++ [MObj.list ((sortI (s.rows.map (·.1))).map V.int)]) = m1 at k1 l1 g1 hs
 have lt0 := aT k0
 have ht : ∀ i ∈ sortI (s.rows.map (·.1)), bM (.int i) (aJ7 s.rows) = some (.str (bQ s.rows i)) := fun i hi => by
  have hi := mem_sortI.mp hi
  rcases List.mem_map.mp hi with ⟨x, hx, e⟩
  unfold aJ7
  rw [eS]
  unfold bQ
  cases q : s.rows.find? fun x => x.1 == i with
  | none => exact absurd (List.find?_eq_none.mp q x hx) (by simp [e])
  | some y => rfl
 refine aD9 (sortI (s.rows.map (·.1))) V.int (LInv N.C D s m m0) (aF (aO9 (aF (aE (aM rfl h0.inst rfl) (aG (aE hs (aG (d9 k1 ⟨rfl, ⟨[], 0, none, rfl, rfl, l1.has k0, k1, h0.le l1, l0.trans l1, rfl, Nat.le_refl _⟩, ?_, ?_, ?_⟩))))))))
 ·rintro zs r m' ⟨a, e, x, rfl, e1, ka, kb, hh, ll, hq, hz⟩
  exact cI kb
 ·rintro z zs r m' ⟨a, e, x, rfl, e1, ka, kb, hh, ll, hq, hz⟩
  rcases hh.ro with ⟨e2, k2⟩
  have hm : z ∈ sortI (s.rows.map (·.1)) := by rw [e1]; simp
  have al : a.length < 64 := by
   have := congrArg List.length e1
   rw [eM, List.length_map, List.length_append] at this
   exact Nat.lt_of_le_of_lt (Nat.le_trans (Nat.le_add_right _ _) (Nat.le_of_eq this.symm)) hl
  have np : m.length ∉ D.all := h.out (Nat.le_refl _)
  refine aC rfl (dJ (aE (dY (aM rfl hh.inst rfl) rfl (bX k2 rfl (aW _ _ _ _) (ht z hm))) (aC rfl (aC rfl (dF ka rfl hq (Nat.lt_of_le_of_lt hz (Nat.lt_of_lt_of_le al (by decide))) (b9 ?_))))))
  refine ⟨a ++ [z], e + 1, some (.int z), rfl, by rw [e1, List.append_assoc]; rfl, ?_, aN (Nat.ne_of_lt lt0) kb, hh.mod (T := [m.length]) (Mod.set (.head _)) fun y hy hy' => ?_, ?_, ?_, ?_⟩
  ·rw [List.foldl_append]; exact aY ka
  ·rw [List.mem_singleton.mp hy'] at hy; exact np hy
  ·exact ll.set (Nat.le_refl _) _
  ·rw [List.foldl_append]; exact aC6 hq
  ·rw [List.foldl_append, List.length_append]
   have := aO6 (k := .int z) (v := .str (bQ s.rows z)) (a.foldl (fun d i => put (.int i) (.str (bQ s.rows i)) d) [])
   exact Nat.le_trans this (Nat.succ_le_succ hz)
 ·rintro r m' ⟨a, e, x, rfl, e1, ka, kb, hh, ll, hq, hz⟩
  rw [List.append_nil] at e1
  refine bA (aC rfl ⟨m.length, e, rfl, ?_, Nat.le_refl _, ll⟩)
  unfold ledD; rw [e1]; exact ka
end
end Mini
namespace Mini
open PySem
section
variable {m : MH} {p q : Nat}
theorem bP9 {xs : List V} (hp : m[p]? = some (.list xs)) : rd aI9 m (.ref p) = (aA0 (rd 11 m) xs).map PyData.list := by
 show (match m[p]? with | some (.list xs) => (aA0 (rd 11 m) xs).map PyData.list | _ => none) = _
 rw [hp]
theorem aP1 {a b : V} (h : eqV a b m = .ok true m) : aJ1 .NotEq a b m = .ok false m := by
 show (eqV a b m).bind _ = _
 rw [h]; rfl
end
theorem ins_mem {i j : Int} {l : List Int} : j ∈ insI i l ↔ j = i \/ j ∈ l := aP2
theorem cH6 {i : Int} : ∀ {l : List Int}, l.Pairwise (· < ·) -> i ∉ l -> (insI i l).Pairwise (· < ·)
 | [], _, _ => List.pairwise_singleton _ _
 | k :: l, h, hi => by
  show (if i <= k then i :: k :: l else k :: insI i l).Pairwise (· < ·)
  have hk : i ≠ k := fun e => hi (e ▸ .head _)
  have h' := List.pairwise_cons.mp h
  by_cases z : i <= k
  ·rw [if_pos z]
   have z : i < k := Int.lt_iff_le_and_ne.mpr ⟨z, hk⟩
   exact List.pairwise_cons.mpr ⟨List.forall_mem_cons.mpr ⟨z, fun x hx => Int.lt_trans z (h'.1 x hx)⟩, h⟩
  ·rw [if_neg z]
   refine List.pairwise_cons.mpr ⟨fun x hx => ?_, cH6 h'.2 fun q => hi (.tail _ q)⟩
   rcases ins_mem.mp hx with e | e
   ·rw [e]; exact Int.not_le.mp z
   ·exact h'.1 x e
theorem bO9 : ∀ {l : List Int}, l.Nodup -> (sortI l).Pairwise (· < ·)
 | [], _ => List.Pairwise.nil
 | i :: l, h => by
  rw [List.nodup_cons] at h
  exact cH6 (bO9 h.2) fun q => h.1 (mem_sortI.mp q)
theorem aS4 : ∀ {l : List Int}, l.Pairwise (· < ·) -> sortI l = l
 | [], _ => rfl
 | i :: l, h => by
  have h' := List.pairwise_cons.mp h
  show insI i (sortI l) = _
  rw [aS4 h'.2]
  cases l with
  | nil => rfl
  | cons j l => exact if_pos (Int.le_of_lt (h'.1 j (.head _)))
theorem cN0 {k : Int} {v : V} : ∀ {is : List Int} {f : Int -> V}, k ∉ is -> put (.int k) v (tD id f is) = tD id f is ++ [(.int k, v)] := fun {is f} h => by
 rw [aB3]
 rw [List.any_eq_false]
 intro x hx e
 exact h (eq_of_beq e ▸ hx)
noncomputable def aM2 (l : List (Int × Str × List Wo)) : List (Ky × V) := tD id (fun i => .str (bQ l i)) (sortI (l.map (·.1)))
theorem cY6 {l : List (Int × Str × List Wo)} (nd : (l.map (·.1)).Nodup) : ledD l = aM2 l := by
 have key : ∀ (is js : List Int), (js ++ is).Nodup -> is.foldl (fun d i => put (.int i) (.str (bQ l i)) d) (tD id (fun i => .str (bQ l i)) js) = tD id (fun i => .str (bQ l i)) (js ++ is) := by
  intro is
  induction is with
  | nil => intro js _; rw [List.append_nil]; rfl
  | cons i is ih =>
   intro js h
   have hi : i ∉ js := fun c => (List.nodup_append.mp h).2.2 i c i (.head _) rfl
   rw [List.foldl_cons, cN0 hi]
   have := ih (js ++ [i]) (by rw [List.append_assoc]; exact h)
   rw [List.append_assoc] at this
   rw [show tD id (fun i => V.str (bQ l i)) js ++ [(Ky.int i, V.str (bQ l i))] = tD id (fun i => .str (bQ l i)) (js ++ [i]) by unfold tD; rw [List.map_append]; rfl]
   exact this
 exact key _ [] ((bO9 nd).imp fun h => Int.ne_of_lt h)
section
variable {S : Sig} {N : HN} {m : MH} {D : Hd} {s : Hs}
noncomputable def aR2 (l : List (Int × Str × List Wo)) (k : Int) : List Wo := match l.find? (fun x => x.1 == k) with
 | some x => x.2.2
 | none => []
theorem cR0 {l : List (Int × Str × List Wo)} {bs : List Nat} {k : Int} : ∀ {x : Int × Str × List Wo}, l.find? (fun x => x.1 == k) = some x -> bs.length = l.length -> ∃ (i q : Nat), l[i]? = some x /\ bs[i]? = some q /\ ((l.map (·.1)).zip bs).find? (fun y => y.1 == k) = some (x.1, q) := by
 induction l generalizing bs with
 | nil => intro x h; cases h
 | cons a l ih =>
  intro x h hl
  cases bs with
  | nil => cases hl
  | cons b bs =>
   by_cases z : (a.1 == k) = true
   ·rw [List.find?_cons_of_pos (p := fun x : Int × Str × List Wo => x.1 == k) z] at h
    cases h
    exact ⟨0, b, rfl, rfl, List.find?_cons_of_pos (p := fun y : Int × Nat => y.1 == k) z⟩
   ·rw [List.find?_cons_of_neg (p := fun x : Int × Str × List Wo => x.1 == k) z] at h
    rcases ih h (Nat.succ.inj hl) with ⟨i, q, h1, h2, h3⟩
    exact ⟨i + 1, q, h1, h2, (List.find?_cons_of_neg (p := fun y : Int × Nat => y.1 == k) z).trans h3⟩
theorem bH6 {k : Int} (hb : s.wrote k = true) : ∃ x, s.rows.find? (fun x => x.1 == k) = some x := by
 have hs : (s.rows.find? fun x => x.1 == k).isSome = true := by
  rw [List.find?_isSome]
  rcases List.any_eq_true.mp hb with ⟨x, hx, e⟩
  exact ⟨x, hx, e⟩
 exact Option.isSome_iff_exists.mp hs
theorem bK6 (H : HF S N) (n : Nat) {k : Int} (h : Ho m N.C D s) (hb : s.wrote k = true) : run S (n + 2) (N.ki + 7) [.ref D.p, .int k] m = .ok (.ref m.length) (m ++ [.list ((aR2 s.rows k).map Wo.v)]) := by
 rcases h.ro with ⟨ec, kc⟩
 rcases h.ba with ⟨ed, kd⟩
 rcases bH6 hb with ⟨x, hx⟩
 rcases cR0 hx h.len with ⟨i, q, h1, h2, h3⟩
 rcases h.bk i x h1 with ⟨q', g1, g2⟩
 rw [h2] at g1
 cases g1
 have ew : evT S (run S (n + 1)) (.not (.val (.call N.kW [(.var 1)]))) [some (.ref D.p), some (.int k)] m = .ok false m := eE (aU (bD rfl (bS H.W n k)))
 have e1 : evT S (run S (n + 1)) (.all false [(.not (.val (.call N.kW [(.var 1)]))), (.val (.cmp (.var 1) [.NotIn] [(.attr (.var 0) 13)]))]) [some (.ref D.p), some (.int k)] m = .ok false m := by
  refine eF (bB (x := false) ew (bB (x := false) (aU (aP rfl (aM rfl h.inst rfl) ?_)) dZ))
  show Res.bind (inV (.int k) (.ref D.c) m) _ = _
  rw [aX kc rfl (aW _ _ _ _), aJ7, dU]
  show Res.ok (!s.wrote k) m = _
  rw [hb]; rfl
 have ei : aQ0 (.ref D.d) (.int k) m = .ok (.ref q) m := bX kd rfl (aW _ _ _ _) (by unfold bK5; rw [eS]; unfold bak; rw [h3]; rfl)
 have eb : aR2 s.rows k = x.2.2 := by unfold aR2; rw [hx]
 rw [bD5 H.backing rfl]
 show ((exs S (run S (n + 1)) (eZ N.kW N.cN) [some (.ref D.p), some (.int k)] m).bind dA4) = _
 have e2 : exs S (run S (n + 1)) (eZ N.kW N.cN) [some (.ref D.p), some (.int k)] m = .ok (.ret (.ref m.length), [some (.ref D.p), some (.int k)]) (m ++ [.list ((aR2 s.rows k).map Wo.v)]) := by
  have w : Wp (exs S (run S (n + 1)) (eZ N.kW N.cN) [some (.ref D.p), some (.int k)]) m (fun p m' => p = (.ret (.ref m.length), [some (.ref D.p), some (.int k)]) /\ m' = m ++ [.list ((aR2 s.rows k).map Wo.v)]) nox := by
   refine bN e1 (bA (aO9 (aF (aE (dY (aM rfl h.inst rfl) rfl ei) (aG (aE (a := .ref m.length) (m' := m ++ [.list ((aR2 s.rows k).map Wo.v)]) ?_ ⟨rfl, rfl⟩))))))
   unfold biV; dsimp only; rw [g2, eb]; rfl
  rcases aA1 w with ⟨a, m', e, rfl, rfl⟩
  exact e
 rw [e2]; rfl
end
end Mini
namespace Mini
open PySem
structure Lr where
 s : Int
 r : Int
 w : Wo
noncomputable def Lr.v (l : Lr) : V := .tup [.int l.s, .int l.r, l.w.v]
noncomputable def aU5 (l : List (Int × Lr)) : List (Ky × V) := tD (·.1) (fun x => x.2.v) l
structure Tn where
 cnt : Int
 hs : List Hs
 given : Int
 lets : List (Int × Lr)
 said : List Wo
noncomputable def Tn.send (t : Tn) (l : Lr) : Tn := { t with given := t.given + 1, lets := t.lets ++ [(t.given, l)] }
noncomputable def Tn.say (t : Tn) (w : Wo) : Tn := { t with said := aL0 w t.said }
noncomputable def Tn.to (h : Int) (w : Wo) (t : Tn) (j : Nat) : Tn := if (j : Int) = h then t else t.send ⟨h, j, w⟩
noncomputable def Tn.tell1 (h : Int) (t : Tn) (w : Wo) : Tn := (List.range t.cnt.toNat).foldl (Tn.to h w) (t.say w)
noncomputable def Tn.tell (t : Tn) (h : Int) (ws : List Wo) : Tn := ws.foldl (Tn.tell1 h) t
structure Tn.Lk (t : Tn) (b : Nat) : Prop where
 lt : ∀ x ∈ t.lets, x.1 < t.given
 ll : t.lets.length <= b
 sl : t.said.length <= b
theorem Tn.Lk.mono {t : Tn} {b c : Nat} (h : t.Lk b) (k : b <= c) : t.Lk c := ⟨h.lt, Nat.le_trans h.ll k, Nat.le_trans h.sl k⟩
theorem Tn.Lk.send {t : Tn} {b : Nat} (h : t.Lk b) (l : Lr) : (t.send l).Lk (b + 1) := by
 refine ⟨fun x hx => ?_, ?_, Nat.le_succ_of_le h.sl⟩
 ·rcases List.mem_append.mp hx with hx | hx
  ·exact Int.lt_trans (h.lt x hx) (Int.lt_succ _)
  ·rw [List.mem_singleton.mp hx]; exact Int.lt_succ _
 ·show (t.lets ++ [_]).length <= _
  rw [List.length_append]; exact Nat.succ_le_succ h.ll
theorem Tn.Lk.say {t : Tn} {b : Nat} (h : t.Lk b) (w : Wo) : (t.say w).Lk (b + 1) := ⟨h.lt, Nat.le_succ_of_le h.ll, Nat.le_trans (bH4 w t.said) (Nat.succ_le_succ h.sl)⟩
theorem Tn.Lk.to {t : Tn} {b : Nat} (h : t.Lk b) (i : Int) (w : Wo) (j : Nat) : (t.to i w j).Lk (b + 1) := by
 unfold Tn.to
 split
 ·exact h.mono (Nat.le_succ _)
 ·exact h.send _
theorem Tn.Lk.tos {b : Nat} (i : Int) (w : Wo) : ∀ (l : List Nat) {t : Tn} {b : Nat}, t.Lk b -> (l.foldl (Tn.to i w) t).Lk (b + l.length)
 | [], _, _, h => h
 | j :: l, t, b, h => by
  have := Tn.Lk.tos (b := 0) i w l (h.to i w j)
  rw [List.length_cons, Nat.add_comm l.length, <- Nat.add_assoc]; exact this
theorem cW3 (i : Int) (w : Wo) (t : Tn) (j : Nat) : (t.to i w j).cnt = t.cnt /\ (t.to i w j).hs = t.hs /\ (t.to i w j).said = t.said := by
 unfold Tn.to
 split <;> exact ⟨rfl, rfl, rfl⟩
theorem bN7 (i : Int) (w : Wo) : ∀ (l : List Nat) (t : Tn), (l.foldl (Tn.to i w) t).cnt = t.cnt /\ (l.foldl (Tn.to i w) t).hs = t.hs /\ (l.foldl (Tn.to i w) t).said = t.said
 | [], _ => ⟨rfl, rfl, rfl⟩
 | j :: l, t => by
  have h := bN7 i w l (t.to i w j)
  have k := cW3 i w t j
  exact ⟨h.1.trans k.1, h.2.1.trans k.2.1, h.2.2.trans k.2.2⟩
theorem aS1 (i : Int) (w : Wo) (t : Tn) : (t.tell1 i w).cnt = t.cnt /\ (t.tell1 i w).hs = t.hs /\ (t.tell1 i w).said = aL0 w t.said := bN7 i w _ (t.say w)
theorem Tn.Lk.tell1 {t : Tn} {b : Nat} (h : t.Lk b) (i : Int) (w : Wo) (h2 : t.cnt <= 12) : (t.tell1 i w).Lk (b + 13) := by
 have := Tn.Lk.tos (b := 0) i w (List.range t.cnt.toNat) (h.say w)
 refine this.mono ?_
 rw [List.length_range, Nat.add_assoc]
 exact Nat.add_le_add_left (by rw [Nat.add_comm]; exact Nat.succ_le_succ (cQ h2)) b
theorem b8 (i : Int) : ∀ (ws : List Wo) (t : Tn), (t.tell i ws).cnt = t.cnt /\ (t.tell i ws).hs = t.hs /\ (t.tell i ws).said = ws.foldl (fun l w => aL0 w l) t.said
 | [], _ => ⟨rfl, rfl, rfl⟩
 | w :: l, t => by
  have h := b8 i l (t.tell1 i w)
  have k := aS1 i w t
  refine ⟨h.1.trans k.1, h.2.1.trans k.2.1, h.2.2.trans ?_⟩
  rw [k.2.2]; rfl
theorem Tn.Lk.tell (i : Int) : ∀ (ws : List Wo) {t : Tn} {b : Nat}, t.Lk b -> t.cnt <= 12 -> (t.tell i ws).Lk (b + 13 * ws.length)
 | [], _, _, h, _ => h
 | w :: l, t, b, h, h2 => by
  have := Tn.Lk.tell i l (h.tell1 i w h2) (by rw [(aS1 i w t).1]; exact h2)
  rw [List.length_cons, Nat.mul_succ, Nat.add_comm (13 * l.length), <- Nat.add_assoc]; exact this
structure Td where
 p : Nat
 h : Nat
 o : Nat
 l : Nat
 s : Nat
 ds : List Hd
noncomputable def Td.foot (T : Td) : List Nat := [T.p, T.h, T.o, T.l, T.s]
noncomputable def Td.all (T : Td) : List Nat := T.foot ++ T.ds.flatMap Hd.all
theorem Td.m0 {T : Td} : T.p ∈ T.foot := .head _
theorem Td.m1 {T : Td} : T.h ∈ T.foot := .tail _ (.head _)
theorem Td.m2 {T : Td} : T.o ∈ T.foot := .tail _ (.tail _ (.head _))
theorem Td.m3 {T : Td} : T.l ∈ T.foot := .tail _ (.tail _ (.tail _ (.head _)))
theorem Td.m4 {T : Td} : T.s ∈ T.foot := .tail _ (.tail _ (.tail _ (.tail _ (.head _))))
theorem Td.ne {T : Td} (h : T.foot.Nodup) : T.o ≠ T.l /\ T.o ≠ T.s /\ T.l ≠ T.s := ⟨cB6 h (i := 2) (j := 3) rfl rfl (by decide), cB6 h (i := 2) (j := 4) rfl rfl (by decide), cB6 h (i := 3) (j := 4) rfl rfl (by decide)⟩
theorem Td.out {T : Td} (h : T.foot.Nodup) : T.p ∉ [T.o, T.l, T.s] /\ T.h ∉ [T.o, T.l, T.s] := by
 have a := List.nodup_cons.mp h
 have b := List.nodup_cons.mp a.2
 exact ⟨fun c => a.1 (.tail _ c), b.1⟩
theorem Td.mem {T : Td} {x : Nat} : x ∈ T.all ↔ x ∈ T.foot \/ ∃ D ∈ T.ds, x ∈ D.all := by
 unfold Td.all; rw [List.mem_append, List.mem_flatMap]
noncomputable def cD5 (t : Tn) (T : Td) : List (Ky × V) := tD (·.1) (fun x : Int × Nat => V.ref x.2) ((t.hs.map (·.own)).zip (T.ds.map (·.p)))
structure To (m : MH) (N : HN) (T : Td) (t : Tn) : Prop where
 inst : m[T.p]? = some (.inst (N.C + 2) [(8, .int t.cnt), (26, .ref T.h), (27, .ref T.o), (28, .ref T.s)])
 hd : ∃ e, m[T.h]? = some (.dict (cD5 t T) e)
 po : m[T.o]? = some (.inst (N.C + 1) [(20, .int t.given), (21, .ref T.l)])
 le : ∃ e, m[T.l]? = some (.dict (aU5 t.lets) e)
 sa : ∃ e, m[T.s]? = some (.dict (kD t.said) e)
 hs : ∀ (i : Nat) (D : Hd), T.ds[i]? = some D -> ∃ s, t.hs[i]? = some s /\ Ho m N.C D s
 len : T.ds.length = t.hs.length
 nd : T.foot.Nodup
 df : ∀ D ∈ T.ds, ∀ x ∈ D.all, x ∉ T.foot
 dd : ∀ (i j : Nat) (D D' : Hd), T.ds[i]? = some D -> T.ds[j]? = some D' -> i ≠ j -> ∀ x ∈ D.all, x ∉ D'.all
section
variable {S : Sig} {N : HN} {m m' : MH} {T : Td} {t : Tn}
theorem To.mod {X : List Nat} (h : To m N T t) (l : Mod X m m') (hx : ∀ x ∈ T.all, x ∉ X) : To m' N T t := by
 have F : ∀ x ∈ T.foot, x ∉ X := fun x q => hx x (Td.mem.mpr (.inl q))
 refine ⟨l.has h.inst (F _ Td.m0), h.hd.imp fun e k => l.has k (F _ Td.m1), l.has h.po (F _ Td.m2), h.le.imp fun e k => l.has k (F _ Td.m3), h.sa.imp fun e k => l.has k (F _ Td.m4), fun i D e => ?_, h.len, h.nd, h.df, h.dd⟩
 rcases h.hs i D e with ⟨s, k1, k2⟩
 exact ⟨s, k1, k2.mod l fun x q => hx x (Td.mem.mpr (.inr ⟨D, List.mem_of_getElem? e, q⟩))⟩
theorem To.up (h : To m N T t) (l : Le m m') : To m' N T t := h.mod (X := []) l.mod fun y_ y_ q => nomatch q
theorem To.lt (h : To m N T t) : ∀ x ∈ T.all, x < m.length := by
 intro x hx
 rcases Td.mem.mp hx with hx | ⟨D, hD, hx⟩
 ·rcases h.hd with ⟨y_, k1⟩
  rcases h.le with ⟨y_, k2⟩
  rcases h.sa with ⟨y_, k3⟩
  simp only [Td.foot, List.mem_cons, List.not_mem_nil, or_false] at hx
  rcases hx with rfl | rfl | rfl | rfl | rfl
  ·exact aT h.inst
  ·exact aT k1
  ·exact aT h.po
  ·exact aT k2
  ·exact aT k3
 ·rcases List.getElem?_of_mem hD with ⟨i, e⟩
  rcases h.hs i D e with ⟨s, y_, k⟩
  exact k.lt x hx
theorem To.out (h : To m N T t) {q : Nat} (hq : m.length <= q) : q ∉ T.all := fun c => Nat.not_lt.mpr hq (h.lt q c)
theorem To.chg (h : To m N T t) (M : Mod [T.o, T.l, T.s] m m') {g : Int} {ls : List (Int × Lr)} {sd : List Wo} (po : m'[T.o]? = some (.inst (N.C + 1) [(20, .int g), (21, .ref T.l)])) (le : ∃ e, m'[T.l]? = some (.dict (aU5 ls) e)) (sa : ∃ e, m'[T.s]? = some (.dict (kD sd) e)) : To m' N T { t with given := g, lets := ls, said := sd } := by
 have hp := Td.out h.nd
 refine ⟨M.has h.inst hp.1, h.hd.imp fun e k => M.has k hp.2, po, le, sa, fun i D e => ?_, h.len, h.nd, h.df, h.dd⟩
 rcases h.hs i D e with ⟨s, k1, k2⟩
 exact ⟨s, k1, k2.mod M fun x q c => h.df D (List.mem_of_getElem? e) x q (.tail _ (.tail _ c))⟩
theorem aA7 {α : Type} {l : List α} {i : Nat} {x : α} (h : l[i]? = some x) : l.set i x = l := by
 refine List.ext_getElem? fun j => ?_
 by_cases q : i = j
 ·subst q; rw [List.getElem?_set_self (List.getElem?_eq_some_iff.mp h).1, h]
 ·rw [List.getElem?_set_ne q]
set_option tactic.hygienic true in
theorem To.hou (h : To m N T t) {i : Nat} {D : Hd} {s s' : Hs} {l : List Nat} (hi : T.ds[i]? = some D) (hs : t.hs[i]? = some s) (ho : s'.own = s.own) (M : Mod D.foot m m') (H : Ho m' N.C (D.ext l) s') (hl : ∀ y ∈ l, m.length <= y) : To m' N { T with ds := T.ds.set i (D.ext l) } { t with hs := t.hs.set i s' } := by
 have hD := List.mem_of_getElem? hi
 have lt := (List.getElem?_eq_some_iff.mp hi).1
 have F : ∀ x ∈ T.foot, x ∉ D.foot := fun x q c => h.df D hD x (List.mem_append_left _ c) q
 have ext : ∀ x, x ∈ (D.ext l).all -> x ∈ D.all \/ m.length <= x := fun x q => by
  rcases List.mem_append.mp q with q | q
  ·exact .inl (List.mem_append_left _ q)
  ·rcases List.mem_append.mp q with q | q
   ·exact .inl (List.mem_append_right _ q)
   ·exact .inr (hl x q)
 have get : ∀ (j : Nat) (D' : Hd), (T.ds.set i (D.ext l))[j]? = some D' -> (j = i /\ D' = D.ext l) \/ (j ≠ i /\ T.ds[j]? = some D') := fun j D' e => by
  by_cases q : i = j
  ·subst q
   rw [List.getElem?_set_self lt] at e
   exact .inl ⟨rfl, (Option.some.inj e).symm⟩
  ·rw [List.getElem?_set_ne q] at e
   exact .inr ⟨fun c => q c.symm, e⟩
 have oldlt : ∀ (j : Nat) (D' : Hd), T.ds[j]? = some D' -> ∀ x ∈ D'.all, x < m.length := fun j D' e x q => h.lt x (Td.mem.mpr (.inr ⟨D', List.mem_of_getElem? e, q⟩))
 refine ⟨M.has h.inst (F _ Td.m0), ?_, M.has h.po (F _ Td.m2), h.le.imp fun e k => M.has k (F _ Td.m3), h.sa.imp fun e k => M.has k (F _ Td.m4), fun j D' e => ?_, ?_, h.nd, fun D' q => ?_, fun j k D1 D2 e1 e2 hne x q => ?_⟩
 ·rcases h.hd with ⟨e, k⟩
  refine ⟨e, ?_⟩
  have e1 : (t.hs.set i s').map (·.own) = t.hs.map (·.own) := by
   rw [List.map_set, ho]
   exact aA7 (by rw [List.getElem?_map, hs]; rfl)
  have e2 : (T.ds.set i (D.ext l)).map (·.p) = T.ds.map (·.p) := by
   rw [List.map_set]
   exact aA7 (by rw [List.getElem?_map, hi]; rfl)
  show m'[T.h]? = some (.dict (tD _ _ (((t.hs.set i s').map (·.own)).zip ((T.ds.set i (D.ext l)).map (·.p)))) e)
  rw [e1, e2]
  exact M.has k (F _ Td.m1)
 ·rcases get j D' e with ⟨rfl, rfl⟩ | ⟨hj, e⟩
  ·exact ⟨s', List.getElem?_set_self (by rw [<- h.len]; exact lt), H⟩
  ·rcases h.hs j D' e with ⟨s1, k1, k2⟩
   refine ⟨s1, by rw [List.getElem?_set_ne fun c => hj c.symm]; exact k1, k2.mod M fun x q c => h.dd j i D' D e hi hj x q (List.mem_append_left _ c)⟩
 ·rw [List.length_set, List.length_set]; exact h.len
 ·rcases List.getElem?_of_mem q with ⟨j, e⟩
  intro x hx c
  rcases get j D' e with ⟨rfl, rfl⟩ | ⟨hj, e⟩
  ·rcases ext x hx with z | z
   ·exact h.df D hD x z c
   ·exact Nat.not_lt.mpr z (h.lt x (Td.mem.mpr (.inl c)))
  ·exact h.df D' (List.mem_of_getElem? e) x hx c
 ·rcases get j D1 e1 with ⟨rfl, rfl⟩ | ⟨hj, e1⟩
  ·rcases get k D2 e2 with ⟨rfl, rfl⟩ | ⟨hk, e2⟩
   ·exact absurd rfl hne
   ·intro c
    rcases ext x q with z | z
    ·exact h.dd j k D D2 hi e2 hne x z c
    ·exact Nat.not_lt.mpr z (oldlt k D2 e2 x c)
  ·rcases get k D2 e2 with ⟨rfl, rfl⟩ | ⟨hk, e2⟩
   ·intro c
    rename_i e0
    rcases ext x c with z | z
    ·exact h.dd j k D1 D e0 hi hne x q z
    ·exact Nat.not_lt.mpr z (oldlt j D1 e0 x q)
   ·exact h.dd j k D1 D2 e1 e2 hne x q
end
noncomputable def Tw (m : MH) (N : HN) (p : Nat) (t : Tn) (B : List (Nat × MObj)) : Prop := ∃ T, T.p = p /\ To m N T t /\ ∀ x ∈ B, x.1 ∉ T.all /\ m[x.1]? = some x.2
section
variable {S : Sig} {N : HN} {m m' : MH} {p : Nat} {t : Tn} {B : List (Nat × MObj)}
theorem Tw.up (h : Tw m N p t B) (l : Le m m') : Tw m' N p t B := by
 rcases h with ⟨T, e, h1, h2⟩
 exact ⟨T, e, h1.up l, fun x q => ⟨(h2 x q).1, l.has (h2 x q).2⟩⟩
theorem Tw.new (h : Tw m N p t B) (l : Le m m') {q : Nat} {o : MObj} (k : m'[q]? = some o) (g : m.length <= q) : Tw m' N p t ((q, o) :: B) := by
 rcases h with ⟨T, e, h1, h2⟩
 exact ⟨T, e, h1.up l, bF ⟨h1.out g, k⟩ fun x q => ⟨(h2 x q).1, l.has (h2 x q).2⟩⟩
theorem Tw.has (h : Tw m N p t B) {q : Nat} {o : MObj} (k : (q, o) ∈ B) : m[q]? = some o := by
 rcases h with ⟨T, e, h1, h2⟩
 exact (h2 _ k).2
theorem Tw.sub {B' : List (Nat × MObj)} (h : Tw m N p t B) (k : ∀ x ∈ B', x ∈ B) : Tw m N p t B' := by
 rcases h with ⟨T, e, h1, h2⟩
 exact ⟨T, e, h1, fun x q => h2 x (k x q)⟩
theorem Tw.tail {x : Nat × MObj} (h : Tw m N p t (x :: B)) : Tw m N p t B := h.sub fun y_ q => .tail _ q
theorem Tw.set {q : Nat} {o : MObj} (h : Tw m N p t ((q, o) :: B)) (o' : MObj) (hn : ∀ x ∈ B, x.1 ≠ q) : Tw (m.set q o') N p t ((q, o') :: B) := by
 rcases h with ⟨T, e, h1, h2⟩
 have hq := (h2 _ (.head _)).1
 refine ⟨T, e, h1.mod (X := [q]) (Mod.set (.head _)) fun x hx c => hq (List.mem_singleton.mp c ▸ hx), bF ⟨hq, aY (h2 _ (.head _)).2⟩ fun x hx => ⟨(h2 x (.tail _ hx)).1, aN (fun c => hn x hx c.symm) (h2 x (.tail _ hx)).2⟩⟩
end
end Mini
namespace Mini
open PySem
noncomputable def bV9 : List CS := [
 (.asg (.attr (.var 0) 20) (.cnst (Lt.int 0))),
 (.asg (.attr (.var 0) 21) (.dict [] []))]
noncomputable def cI5 : List CS := [
 (.asg (.one (.one 2)) (.attr (.var 0) 20)),
 (.asg (.attr (.var 0) 20) (.bin .Add (.var 2) (.cnst (Lt.int 1)))),
 (.asg (.idx (.attr (.var 0) 21) (.var 2)) (.var 1)),
 (.ret (.var 2))]
noncomputable def bG6 (kW cL : Nat) : List CS := [
 (.ite (.all false [(.not (.val (.call kW [(.var 1)]))), (.val (.cmp (.var 1) [.NotIn] [(.attr (.var 0) 21)]))]) [
  (.rse cL (Str.ofString "no such letter waits"))] []),
 (.ret (.smeth (.attr (.var 0) 21) .pop [(.var 1)]))]
noncomputable def bV8 : List CS := [
 (.ret (.comp (.tup [(.var 1), (.idx (.attr (.var 0) 21) (.var 1))]) (.one 1) 1 .expr [(.bi .sorted [(.attr (.var 0) 21)])] []))]
noncomputable def bV6 (kN kW cH C : Nat) : List CS := [
 (.exp (.call kN [(.var 1)])),
 (.ite (.not (.val (.isi (.var 2) .list))) [
  (.rse cH (Str.ofString "a list of liars is wanted"))] []),
 (.asg (.one (.one 3)) (.dict [] [])),
 (.for_ .expr (.one 4) [(.var 2)] [
  (.ite (.all false [(.not (.val (.call kW [(.var 4)]))), (.not (.val (.cmp (.cnst (Lt.int 0)) [.LtE, .Lt] [(.var 4), (.var 1)]))), (.val (.cmp (.var 4) [.In] [(.var 3)]))]) [
   (.rse cH (Str.ofString "no other house of the town"))] []),
  (.asg (.idx (.var 3) (.var 4)) (.cnst (Lt.bool true)))]),
 (.asg (.attr (.var 0) 8) (.var 1)),
 (.asg (.attr (.var 0) 26) (.dict [] [])),
 (.for_ .range (.one 4) [(.var 1)] [
  (.ite (.val (.cmp (.var 4) [.NotIn] [(.var 3)])) [
   (.asg (.idx (.attr (.var 0) 26) (.var 4)) (.new C [(.var 1), (.var 4)]))] [])]),
 (.asg (.attr (.var 0) 27) (.new (C + 1) [])),
 (.asg (.attr (.var 0) 28) (.dict [] []))]
noncomputable def bH0 (kW cH : Nat) : List CS := [
 (.ite (.all false [(.not (.val (.call kW [(.var 1)]))), (.val (.cmp (.var 1) [.NotIn] [(.attr (.var 0) 26)]))]) [
  (.rse cH (Str.ofString "no honest house of the town"))] []),
 (.ret (.idx (.attr (.var 0) 26) (.var 1)))]
noncomputable def cI4 : List CS := [
 (.for_ .expr (.one 3) [(.var 2)] [
  (.asg (.idx (.attr (.var 0) 28) (.var 3)) (.cnst (Lt.bool true))),
  (.for_ .range (.one 4) [(.attr (.var 0) 8)] [
   (.ite (.val (.cmp (.var 4) [.NotEq] [(.var 1)])) [
    (.exp (.meth (.attr (.var 0) 27) 17 [(.tup [(.var 1), (.var 4), (.var 3)])]))] [])])]),
 (.ret (.bi .list [(.var 2)]))]
noncomputable def bV7 : List CS := [
 (.asg (.one (.one 3)) (.meth (.meth (.var 0) 22 [(.var 1)]) 0 [(.var 2)])),
 (.ret (.meth (.var 0) 23 [(.var 1), (.var 3)]))]
noncomputable def bG4 : List CS := [
 (.asg (.one (.one 2)) (.meth (.attr (.var 0) 27) 18 [(.var 1)])),
 (.ite (.val (.cmp (.idx (.var 2) (.cnst (Lt.int 1))) [.NotIn] [(.attr (.var 0) 26)])) [
  (.ret (.list []))] []),
 (.ret (.meth (.var 0) 23 [(.idx (.var 2) (.cnst (Lt.int 1))), (.meth (.idx (.attr (.var 0) 26) (.idx (.var 2) (.cnst (Lt.int 1)))) 1 [(.idx (.var 2) (.cnst (Lt.int 2)))])]))]
noncomputable def dC6 (kW kD cH cW cF : Nat) : List CS := [
 (.ite (.all false [(.not (.val (.call kW [(.var 1)]))), (.not (.val (.cmp (.cnst (Lt.int 0)) [.LtE, .Lt] [(.var 1), (.attr (.var 0) 8)]))), (.val (.cmp (.var 1) [.In] [(.attr (.var 0) 26)]))]) [
  (.rse cH (Str.ofString "no liar of the town"))] []),
 (.ite (.all false [(.not (.val (.call kW [(.var 2)]))), (.not (.val (.cmp (.cnst (Lt.int 0)) [.LtE, .Lt] [(.var 2), (.attr (.var 0) 8)]))), (.val (.cmp (.var 2) [.Eq] [(.var 1)]))]) [
  (.rse cH (Str.ofString "no other house of the town"))] []),
 (.ite (.not (.val (.call kD [(.attr (.var 0) 8), (.var 3)]))) [
  (.rse cW (Str.ofString "no word of the town"))] []),
 (.ite (.all true [(.val (.cmp (.idx (.var 3) (.cnst (Lt.int 3))) [.NotEq] [(.var 1)])), (.val (.cmp (.var 3) [.NotIn] [(.attr (.var 0) 28)]))]) [
  (.rse cF (Str.ofString "nobody has spoken that word"))] []),
 (.asg (.idx (.attr (.var 0) 28) (.var 3)) (.cnst (Lt.bool true))),
 (.ret (.meth (.attr (.var 0) 27) 17 [(.tup [(.var 1), (.var 2), (.var 3)])]))]
noncomputable def bV5 : List CS := [
 (.ret (.meth (.attr (.var 0) 27) 19 []))]
noncomputable def bG5 : List CS := [
 (.ret (.bi .list [(.attr (.var 0) 28)]))]
noncomputable def aX6 : List CS := [
 (.ret (.meth (.meth (.var 0) 22 [(.var 1)]) 5 []))]
noncomputable def aN3 : List CS := [
 (.ret (.meth (.meth (.var 0) 22 [(.var 1)]) 6 [(.var 2)]))]
noncomputable def aX7 : List CS := [
 (.ret (.meth (.meth (.var 0) 22 [(.var 1)]) 7 []))]
structure TF (S : Sig) (N : HN) : Prop where
 H : HF S N
 caller : b0 S (N.kR + 1) 2 2 aF5
 word : b0 S (N.kR + 2) 2 2 (aJ5 N.kN N.kW N.kR (N.kR + 1) (N.gS + 1))
 gN : ∃ nm, S.globs[N.gS + 1]? = some (nm, .int 9999)
 pinit : b0 S (N.ki + 9) 1 1 bV9
 send : b0 S (N.ki + 10) 2 3 cI5
 pbring : b0 S (N.ki + 11) 2 2 (bG6 N.kW (N.cR + 3))
 pwait : b0 S (N.ki + 12) 1 1 bV8
 tinit : b0 S (N.ki + 13) 3 5 (bV6 N.kN N.kW N.cH N.C)
 honest : b0 S (N.ki + 14) 2 2 (bH0 N.kW N.cH)
 tell : b0 S (N.ki + 15) 3 5 cI4
 tcall : b0 S (N.ki + 16) 3 4 bV7
 tbring : b0 S (N.ki + 17) 2 3 bG4
 lie : b0 S (N.ki + 18) 4 4 (dC6 N.kW (N.kR + 2) N.cH (N.cR + 1) (N.cR + 2))
 twait : b0 S (N.ki + 19) 1 1 bV5
 spoken : b0 S (N.ki + 20) 1 1 bG5
 tledger : b0 S (N.ki + 21) 2 2 aX6
 tbacking : b0 S (N.ki + 22) 3 3 aN3
 tcaught : b0 S (N.ki + 23) 2 2 aX7
 post : ∃ d, S.cls[N.C + 1]? = some d /\ d.exc = false /\ d.init = some (N.ki + 9) /\ d.meths.lookup 17 = some (N.ki + 10) /\ d.meths.lookup 18 = some (N.ki + 11) /\ d.meths.lookup 19 = some (N.ki + 12)
 town : ∃ d, S.cls[N.C + 2]? = some d /\ d.exc = false /\ d.init = some (N.ki + 13) /\ d.meths = [(22, N.ki + 14), (23, N.ki + 15), (0, N.ki + 16), (18, N.ki + 17), (24, N.ki + 18), (19, N.ki + 19), (25, N.ki + 20), (5, N.ki + 21), (6, N.ki + 22), (7, N.ki + 23)]
theorem cN1 {k : Int} {v : Lr} {l : List (Int × Lr)} (h : ∀ x ∈ l, x.1 < k) : put (.int k) v.v (aU5 l) = aU5 (l ++ [(k, v)]) := by
 unfold aU5
 rw [aB3]
 ·unfold tD; rw [List.map_append]; rfl
 ·rw [List.any_eq_false]
  intro x hx e
  exact absurd (eq_of_beq e) (Int.ne_of_lt (h x hx))
section
variable {S : Sig} {N : HN} {m : MH} {T : Td} {t : Tn} {p : Nat} {B : List (Nat × MObj)}
theorem bP6 (Z : TF S N) (n : Nat) (l : Lr) {b : Nat} (h : To m N T t) (k : t.Lk b) (hb : b < lid) : Wp (run S (n + 1) (N.ki + 10) [.ref T.o, l.v]) m (fun u m' => u = .int t.given /\ To m' N T (t.send l) /\ Mod [T.o, T.l, T.s] m m') nox := by
 rcases h.le with ⟨e, kd⟩
 have nd := Td.ne h.nd
 have nol : T.o ≠ T.l := nd.1
 have nos : T.o ≠ T.s := nd.2.1
 have nls : T.l ≠ T.s := nd.2.2
 refine bH Z.send rfl (a9 (aE (aM rfl h.po rfl) (aB2 (aC rfl (aC rfl ⟨T.o, N.C + 1, _, rfl, h.po, ?_⟩)))))
 have po1 := aY (o' := .inst (N.C + 1) [(20, .int (t.given + 1)), (21, .ref T.l)]) h.po
 have le1 := aN (o' := .inst (N.C + 1) [(20, .int (t.given + 1)), (21, .ref T.l)]) nol kd
 refine dJ (aC rfl (aE (aM rfl po1 rfl) (aC rfl (dF le1 (k := .int t.given) rfl (aW _ _ _ _) (by unfold aU5 tD; rw [List.length_map]; exact Nat.lt_of_le_of_lt k.ll hb) ?_))))
 show Wp _ (List.set _ T.l (.dict (put (.int t.given) l.v (aU5 t.lets)) (e + 1))) _ _
 rw [cN1 k.lt]
 have M : Mod [T.o, T.l, T.s] m ((m.set T.o (.inst (N.C + 1) [(20, .int (t.given + 1)), (21, .ref T.l)])).set T.l (.dict (aU5 (t.lets ++ [(t.given, l)])) (e + 1))) := (Mod.set (.head _)).trans (Mod.set (.tail _ (.head _)))
 refine bA (aC rfl ⟨rfl, h.chg M (aN (fun q => nol q.symm) po1) ⟨_, aY le1⟩ ?_, M⟩)
 exact h.sa.imp fun e' k' => aN nls (aN nos k')
theorem nq {T : Td} {q : Nat} (h : q ∉ T.all) : q ∉ [T.o, T.l, T.s] := fun c => h (Td.mem.mpr (.inl (.tail _ (.tail _ c))))
inductive TIn (N : HN) (T : Td) (t : Tn) (h : Int) (q : Nat) (w : Wo) (m : MH) (zs : List Nat) (r : Lo) (m' : MH) : Prop
 | mk (a : List Nat) (x : Option V) (e : List.range t.cnt.toNat = a ++ zs) (er : r = [some (.ref T.p), some (.int h), some (.ref q), some w.v, x]) (k : To m' N T (a.foldl (Tn.to h w) (t.say w))) (M : Mod [T.o, T.l, T.s] m m')
inductive TOut (N : HN) (T : Td) (t : Tn) (h : Int) (q : Nat) (ws : List Wo) (m : MH) (zs : List Wo) (r : Lo) (m' : MH) : Prop
 | mk (a : List Wo) (x y : Option V) (e : ws = a ++ zs) (er : r = [some (.ref T.p), some (.int h), some (.ref q), x, y]) (k : To m' N T (t.tell h a)) (M : Mod [T.o, T.l, T.s] m m')
theorem cL6 (Z : TF S N) (n : Nat) (h : Int) {ws : List Wo} {q b : Nat} (H : Tw m N p t B) (hq : (q, .list (ws.map Wo.v)) ∈ B) (k : t.Lk b) (hb : b + 13 * ws.length < lid) (h0 : 1 <= t.cnt) (h2 : t.cnt <= 12) : Wp (run S (n + 2) (N.ki + 15) [.ref p, .int h, .ref q]) m (fun u m' => ∃ q', u = .ref q' /\ Tw m' N p (t.tell h ws) ((q', .list (ws.map Wo.v)) :: B)) nox := by
 rcases H with ⟨T, rfl, h1, hB⟩
 rcases Z.post with ⟨y_, hpd, y_, y_, hm1, y_⟩
 have qo := nq (hB _ hq).1
 have kq : m[q]? = some (.list (ws.map Wo.v)) := (hB _ hq).2
 refine bH Z.tell rfl (aD9 ws Wo.v (TOut N T t h q ws m) (aF (aC rfl (aG (d9 kq ⟨rfl, ⟨[], none, none, rfl, rfl, h1, Mod.refl _ _⟩, ?_, ?_, ?_⟩)))))
 ·rintro zs r m' ⟨a, x, y, e, er, k', M⟩
  exact cI (M.has kq qo)
 ·rintro w zs r m' ⟨a, x, y, e, er, k', M⟩
  subst er
  rcases k'.sa with ⟨es, ks⟩
  have lk := Tn.Lk.tell h a k h2
  have al : a.length + 1 <= ws.length := by rw [e, List.length_append, List.length_cons, <- Nat.add_assoc]; exact Nat.succ_le_succ (Nat.le_add_right _ _)
  have cn : (t.tell h a).cnt = t.cnt := (b8 h a t).1
  have bl : b + 13 * a.length + 13 < lid := Nat.lt_of_le_of_lt (by rw [Nat.add_assoc]; exact Nat.add_le_add_left (Nat.mul_le_mul_left 13 al) b) hb
  refine aC rfl (dJ (aC rfl (aE (aM rfl k'.inst rfl) (aC rfl (dF ks (k := w.ky) rfl (dA _ _) (by unfold kD; rw [List.length_map]; exact Nat.lt_of_le_of_lt lk.sl (Nat.lt_of_le_of_lt (Nat.le_add_right _ 13) bl)) ?_)))))
  show Wp _ (m'.set T.s (.dict (put w.ky (.bool true) (kD (t.tell h a).said)) (es + 1))) _ _
  rw [aS7]
  have nd := Td.ne h1.nd
  have M1 : Mod [T.o, T.l, T.s] m' (m'.set T.s (.dict (kD (aL0 w (t.tell h a).said)) (es + 1))) := Mod.set (.tail _ (.tail _ (.head _)))
  have k1 : To (m'.set T.s (.dict (kD (aL0 w (t.tell h a).said)) (es + 1))) N T ((t.tell h a).say w) := k'.chg M1 (aN (fun c => nd.2.1 c.symm) k'.po) (k'.le.imp fun e' k' => aN (fun c => nd.2.2 c.symm) k') ⟨_, aY ks⟩
  generalize m'.set T.s (.dict (kD (aL0 w (t.tell h a).said)) (es + 1)) = m1 at M1 k1 ⊢
  have M2 := M.trans M1
  refine aD9 (List.range (t.tell h a).cnt.toNat) (fun (j : Nat) => V.int (0 + (j : Int))) (TIn N T (t.tell h a) h q w m) (aF (aE (aM rfl k1.inst rfl) (aG (aE (aO0 ?_) ⟨rfl, ⟨[], y, rfl, rfl, k1, M2⟩, fun y_ y_ y_ y_ => rfl, ?_, ?_⟩))))
  ·show ((t.tell h a).cnt).natAbs < 2 ^ 30
   rw [cn]
   exact Nat.lt_of_lt_of_le (aC1 (c := 13) (Int.le_trans (by decide) h0) (Int.lt_of_le_of_lt h2 (by decide : (12 : Int) < 13)) (by decide)) (by decide)
  ·rintro j js r m2 ⟨c, z, e2, er, k2, M3⟩
   subst er
   refine aC rfl (bN (t := !((0 + (j : Int)) == h)) (aU (aP rfl rfl rfl)) ?_)
   have ej : (c ++ [j]).foldl (Tn.to h w) ((t.tell h a).say w) = Tn.to h w (c.foldl (Tn.to h w) ((t.tell h a).say w)) j := by rw [List.foldl_append]; rfl
   have ec : List.range (t.tell h a).cnt.toNat = (c ++ [j]) ++ js := by rw [e2, List.append_assoc]; rfl
   cases hz : (0 + (j : Int)) == h with
   | true =>
    have hz := eq_of_beq hz
    rw [Int.zero_add] at hz
    exact b9 ⟨c ++ [j], some (.int (0 + (j : Int))), ec, rfl, by rw [ej]; unfold Tn.to; rw [if_pos hz]; exact k2, M3⟩
   | false =>
    have hz : ¬ ((j : Int) = h) := fun q => by rw [q, Int.zero_add, beq_self_eq_true] at hz; cases hz
    have lk2 := Tn.Lk.tos (b := 0) h w c (lk.say w)
    have cl : c.length <= 12 := by
     have := congrArg List.length e2
     rw [List.length_range, List.length_append, cn] at this
     exact Nat.le_trans (Nat.le_add_right _ _) (this ▸ cQ h2)
    refine fD (bV (aE (aM rfl k2.inst rfl) ⟨T.o, N.C + 1, _, _, N.ki + 10, rfl, k2.po, hpd, rfl, hm1, ?_⟩))
    refine aC rfl ?_
    refine aV (bP6 Z n ⟨h, 0 + (j : Int), w⟩ k2 lk2 (Nat.lt_of_le_of_lt (by rw [Nat.add_assoc]; exact Nat.add_le_add_left (by rw [Nat.add_comm]; exact Nat.succ_le_succ cl) _) bl)) fun u m3 z3 => ?_
    refine b9 ⟨c ++ [j], some (.int (0 + (j : Int))), ec, rfl, ?_, M3.trans z3.2.2⟩
    rw [ej]; unfold Tn.to; rw [if_neg hz]
    have := z3.2.1
    rw [Int.zero_add] at this
    exact this
  ·rintro r m2 ⟨c, z, e2, er, k2, M3⟩
   subst er
   rw [List.append_nil] at e2
   refine b9 ⟨a ++ [w], some w.v, z, by rw [e, List.append_assoc]; rfl, rfl, ?_, M3⟩
   unfold Tn.tell
   rw [List.foldl_append]
   show To m2 N T (Tn.tell1 h (t.tell h a) w)
   unfold Tn.tell1
   rw [e2]; exact k2
 ·rintro r m' ⟨a, x, y, e, er, k', M⟩
  subst er
  rw [List.append_nil] at e
  subst e
  have kq' := M.has kq qo
  have el : biV .list [.ref q] m' = alloc (.list (ws.map Wo.v)) m' := by unfold biV; dsimp only; rw [kq']
  refine bA (aO9 (aF (aC rfl (aG (aF8 el (aQ fun q' m2 l k2 g => ⟨q', rfl, ?_⟩))))))
  have tw : Tw m' N T.p (t.tell h ws) B := ⟨T, rfl, k', fun x hx => ⟨(hB x hx).1, M.has (hB x hx).2 (nq (hB x hx).1)⟩⟩
  exact tw.new l k2 g
end
end Mini
namespace Mini
open PySem
structure Tn.Ok (t : Tn) (b : Nat) : Prop where
 lk : t.Lk b
 c1 : 1 <= t.cnt
 c2 : t.cnt <= 12
 on : (t.hs.map (·.own)).Nodup
 hc : ∀ s ∈ t.hs, s.cnt = t.cnt /\ s.sz <= b
 as : (t.lets.map (·.1)).Pairwise (· < ·)
noncomputable def Tn.turn (t : Tn) (i : Nat) (x : Hs × List Wo) : Tn := Tn.tell { t with hs := t.hs.set i x.1 } x.1.own x.2
noncomputable def Tn.take (t : Tn) (k : Int) : Tn := { t with lets := t.lets.filter fun x => !(x.1 == k) }
section
variable {S : Sig} {N : HN} {m m' : MH} {T : Td} {t : Tn} {p b i : Nat} {B : List (Nat × MObj)} {s : Hs} {D : Hd}
theorem bF4 (len : T.ds.length = t.hs.length) (nd : (t.hs.map (·.own)).Nodup) (hs : t.hs[i]? = some s) : ∃ D, T.ds[i]? = some D /\ bM (.int s.own) (cD5 t T) = some (.ref D.p) := by
 have lt := (List.getElem?_eq_some_iff.mp hs).1
 have lt' : i < T.ds.length := by rw [len]; exact lt
 refine ⟨T.ds[i], List.getElem?_eq_getElem lt', ?_⟩
 unfold cD5
 rw [eS]
 have key : ∀ (is : List Int) (js : List Nat) (i : Nat) (x : Int) (y : Nat), is.Nodup -> is[i]? = some x -> js[i]? = some y -> (is.zip js).find? (fun z => z.1 == x) = some (x, y) := by
  intro is
  induction is with
  | nil => intro js i x y _ h; cases h
  | cons a is ih =>
   intro js i x y nd h1 h2
   cases js with
   | nil => cases h2
   | cons c js =>
    have nd := List.nodup_cons.mp nd
    cases i with
    | zero =>
     have e1 : a = x := Option.some.inj h1
     have e2 : c = y := Option.some.inj h2
     subst e1 e2
     exact List.find?_cons_of_pos (by exact beq_self_eq_true a)
    | succ i =>
     have h1 : is[i]? = some x := h1
     rw [List.zip_cons_cons, List.find?_cons_of_neg]
     ·exact ih js i x y nd.2 h1 h2
     ·intro q
      exact nd.1 ((show a = x from eq_of_beq q) ▸ List.mem_of_getElem? h1)
 rw [key _ _ i s.own T.ds[i].p nd (by rw [List.getElem?_map, hs]; rfl) (by rw [List.getElem?_map, List.getElem?_eq_getElem lt']; rfl)]
 rfl
theorem bF3 {h : Int} (hs : ∀ s ∈ t.hs, s.own ≠ h) : (bM (.int h) (cD5 t T)).isSome = false := by
 unfold cD5
 rw [dU, List.any_eq_false]
 intro x hx e
 have : x.1 ∈ t.hs.map (·.own) := (List.of_mem_zip (a := x.1) (b := x.2) hx).1
 rcases List.mem_map.mp this with ⟨s, h1, h2⟩
 exact hs s h1 (h2.trans (eq_of_beq e))
theorem aB8 (Z : TF S N) (n : Nat) (h : To m N T t) (nd : (t.hs.map (·.own)).Nodup) (hs : t.hs[i]? = some s) : ∃ D, T.ds[i]? = some D /\ Ho m N.C D s /\ run S (n + 2) (N.ki + 14) [.ref T.p, .int s.own] m = .ok (.ref D.p) m := by
 rcases bF4 h.len nd hs with ⟨D, e, el⟩
 rcases h.hs i D e with ⟨s', e1, e2⟩
 rw [hs] at e1
 cases e1
 rcases h.hd with ⟨ed, kd⟩
 have so : aJ (.int s.own) (cD5 t T) = true := aW _ _ _ _
 refine ⟨D, e, e2, fF (bH Z.honest rfl (bN (t := false) (eF (bB (x := false) (eE (aU (bD rfl (bS Z.H.W n s.own)))) (bB (x := false) (aU (aP rfl (aM rfl h.inst rfl) ?_)) dZ))) (bA (aE (dY (aM rfl h.inst rfl) rfl (bX kd rfl so el)) ⟨rfl, rfl⟩))))⟩
 show Res.bind (inV (.int s.own) (.ref T.h) m) _ = _
 rw [aX kd rfl so, el]; rfl
theorem To.tells (h1 : To m N T t) (hB : ∀ x ∈ B, x.1 ∉ T.all /\ m[x.1]? = some x.2) {l : List Nat} {q : Nat} {x : Hs × List Wo} (hi : T.ds[i]? = some D) (hs : t.hs[i]? = some s) (ho : x.1.own = s.own) (k : m'[q]? = some (.list (x.2.map Wo.v))) (g : m.length <= q) (o : q ∉ (D.ext l).all) (H : Ho m' N.C (D.ext l) x.1) (M : Mod D.foot m m') (hl : ∀ y ∈ l, m.length <= y) : Tw m' N T.p { t with hs := t.hs.set i x.1 } ((q, .list (x.2.map Wo.v)) :: B) := by
 have old : ∀ z, z ∈ ({ T with ds := T.ds.set i (D.ext l) } : Td).all -> z ∈ T.all \/ z ∈ (D.ext l).all := fun z hz => by
  rcases Td.mem.mp hz with hz | ⟨D', hD, hz⟩
  ·exact .inl (Td.mem.mpr (.inl hz))
  ·rcases List.mem_or_eq_of_mem_set hD with hD | rfl
   ·exact .inl (Td.mem.mpr (.inr ⟨D', hD, hz⟩))
   ·exact .inr hz
 have new : ∀ z, z ∈ (D.ext l).all -> z ∈ T.all \/ m.length <= z := fun z hz => by
  rcases List.mem_append.mp hz with hz | hz
  ·exact .inl (Td.mem.mpr (.inr ⟨D, List.mem_of_getElem? hi, List.mem_append_left _ hz⟩))
  ·rcases List.mem_append.mp hz with hz | hz
   ·exact .inl (Td.mem.mpr (.inr ⟨D, List.mem_of_getElem? hi, List.mem_append_right _ hz⟩))
   ·exact .inr (hl z hz)
 refine ⟨{ T with ds := T.ds.set i (D.ext l) }, rfl, h1.hou hi hs ho M H hl, bF ⟨fun c => ?_, k⟩ fun y hy => ⟨fun c => ?_, M.has (hB y hy).2 fun c => (hB y hy).1 (Td.mem.mpr (.inr ⟨D, List.mem_of_getElem? hi, List.mem_append_left _ c⟩))⟩⟩
 ·rcases old _ c with c | c
  ·exact h1.out g c
  ·exact o c
 ·rcases old _ c with c | c
  ·exact (hB y hy).1 c
  ·rcases new _ c with c | c
   ·exact (hB y hy).1 c
   ·exact Nat.not_lt.mpr c (aT (hB y hy).2)
theorem cW2 (Z : TF S N) (h : To m N T t) : ∃ d, m[T.p]? = some (.inst (N.C + 2) [(8, .int t.cnt), (26, .ref T.h), (27, .ref T.o), (28, .ref T.s)]) /\ S.cls[N.C + 2]? = some d /\ d.meths = [(22, N.ki + 14), (23, N.ki + 15), (0, N.ki + 16), (18, N.ki + 17), (24, N.ki + 18), (19, N.ki + 19), (25, N.ki + 20), (5, N.ki + 21), (6, N.ki + 22), (7, N.ki + 23)] := by
 rcases Z.town with ⟨d, h1, y_, y_, h2⟩
 exact ⟨d, h.inst, h1, h2⟩
theorem bI (Z : TF S N) (H : Tw m N p t B) {F : Fns} {r : Lo} {E : Nat -> MH -> Prop} {Q : V -> MH -> Prop} {o : CE} {k j : Nat} {as : List CE} (ho : ev S F o r m = .ok (.ref p) m) (hf : aK1 k ([(8, .none), (26, .none), (27, .none), (28, .none)]) = none) (hk : [(22, N.ki + 14), (23, N.ki + 15), (0, N.ki + 16), (18, N.ki + 17), (24, N.ki + 18), (19, N.ki + 19), (25, N.ki + 20), (5, N.ki + 21), (6, N.ki + 22), (7, N.ki + 23)].lookup k = some j) (q : Wp (evs S F as r) m (fun vs m' => Wp (F j (.ref p :: vs)) m' Q E) E) : Wp (ev S F (.meth o k as) r) m Q E := by
 rcases H with ⟨T, rfl, h1, hB⟩
 rcases cW2 Z h1 with ⟨d, e1, e2, e3⟩
 refine bV (aE ho ⟨T.p, N.C + 2, _, d, j, rfl, e1, e2, ?_, by rw [e3]; exact hk, q⟩)
 have key : ∀ (a b c d a' b' c' d' : V), aK1 k [(8, a), (26, b), (27, c), (28, d)] = none -> aK1 k [(8, a'), (26, b'), (27, c'), (28, d')] = none := by
  intro a b c d a' b' c' d' h
  have h : (if 8 = k then some a else if 26 = k then some b else if 27 = k then some c else if 28 = k then some d else none) = none := h
  show (if 8 = k then some a' else if 26 = k then some b' else if 27 = k then some c' else if 28 = k then some d' else none) = none
  by_cases h1 : 8 = k
  ·rw [if_pos h1] at h; cases h
  ·rw [if_neg h1] at h ⊢
   by_cases h2 : 26 = k
   ·rw [if_pos h2] at h; cases h
   ·rw [if_neg h2] at h ⊢
    by_cases h3 : 27 = k
    ·rw [if_pos h3] at h; cases h
    ·rw [if_neg h3] at h ⊢
     by_cases h4 : 28 = k
     ·rw [if_pos h4] at h; cases h
     ·rw [if_neg h4]
 exact key _ _ _ _ _ _ _ _ hf
theorem aQ3 (s : Hs) (w : Wo) : (s.hear w).1.own = s.own := (dL s w).2.1
theorem bG2 (s : Hs) (r : Str) : (s.call r).1.own = s.own := aQ3 { s with onw := s.onw + s.cnt } ⟨eD, s.onw, r, s.own⟩
theorem bN5 (Z : TF S N) (n : Nat) {x : Hs × List Wo} {q : Nat} {s : Hs} (H : Tw m N p { t with hs := t.hs.set i x.1 } ((q, .list (x.2.map Wo.v)) :: B)) (ho : x.1.own = s.own) (k : t.Ok b) (hb : b + 13 * x.2.length < lid) : Wp (run S (n + 2) (N.ki + 15) [.ref p, .int s.own, .ref q]) m (fun u m' => ∃ q', u = .ref q' /\ Tw m' N p (t.turn i x) ((q', .list (x.2.map Wo.v)) :: B)) nox := by
 refine aV (cL6 Z n s.own H (.head _) ⟨k.lk.lt, k.lk.ll, k.lk.sl⟩ hb k.c1 k.c2) fun u m' z => ?_
 rcases z with ⟨q', e, z⟩
 refine ⟨q', e, ?_⟩
 unfold Tn.turn
 rw [ho]
 exact z.sub fun y hy => by
  rcases List.mem_cons.mp hy with rfl | hy
  ·exact .head _
  ·exact .tail _ (.tail _ hy)
theorem bZ2 (Z : TF S N) (n : Nat) {r : Str} (H : Tw m N p t B) (k : t.Ok b) (hs : t.hs[i]? = some s) (hr : bP8 (.str r) = true) (hrl : r.length <= 64) (hb : b + 300 < lid) : Wp (run S (n + 8) (N.ki + 16) [.ref p, .int s.own, .str r]) m (fun u m' => ∃ q, u = .ref q /\ Tw m' N p (t.turn i (s.call r)) ((q, .list ((s.call r).2.map Wo.v)) :: B)) nox := by
 have sc := k.hc s (List.mem_of_getElem? hs)
 rcases id H with ⟨T, rfl, h1, hB⟩
 rcases aB8 Z (n + 5) h1 k.on hs with ⟨D, hD, hH, eh⟩
 rcases Z.H.cls with ⟨dh, hd, hx, hi, hm⟩
 have bl : s.sz + 8 < lid := Nat.lt_of_le_of_lt (Nat.add_le_add sc.2 (by decide : 8 <= 300)) hb
 refine bH Z.tcall rfl (a9 (bV (bI Z H rfl rfl rfl (aC rfl (aE eh ⟨D.p, N.C, _, dh, N.ki + 1, rfl, hH.inst, hd, rfl, hm 0 (by decide), aC rfl (dQ (cT1 Z.H n r hH hr hrl (by rw [sc.1]; exact k.c1) (by rw [sc.1]; exact k.c2) bl) fun m1 q1 l1 k1 g1 o1 H1 M1 y1 => ?_)⟩)))))
 have H2 := h1.tells hB hD hs (bG2 s r) k1 g1 o1 H1 M1 y1
 have n5 : (s.call r).2.length <= 16 := by
  have := (dL { s with onw := s.onw + s.cnt } ⟨eD, s.onw, r, s.own⟩).2.2.2.2
  show (_ :: (Hs.hear _ _).2).length <= 16
  rw [List.length_cons]
  exact Nat.succ_le_succ (Nat.le_trans this (Nat.add_le_add_right (cQ (show s.cnt <= 12 by rw [sc.1]; exact k.c2)) 3))
 exact bA (bI Z H2 rfl rfl rfl (aC rfl (bN5 Z (n + 5) H2 (bG2 s r) k (Nat.lt_of_le_of_lt (Nat.add_le_add_left (Nat.le_trans (Nat.mul_le_mul_left 13 n5) (by decide)) b) hb))))
theorem bF5 {l : Lr} {k : Int} {ls : List (Int × Lr)} (as : (ls.map (·.1)).Pairwise (· < ·)) (h : (k, l) ∈ ls) : ls.find? (fun x => x.1 == k) = some (k, l) := by
 induction ls with
 | nil => cases h
 | cons a ls ih =>
  have as := List.pairwise_cons.mp as
  by_cases z : (a.1 == k) = true
  ·rw [List.find?_cons_of_pos (p := fun x : Int × Lr => x.1 == k) z]
   rcases List.mem_cons.mp h with h | h
   ·rw [h]
   ·exact absurd (eq_of_beq z) (Int.ne_of_lt (as.1 k (List.mem_map.mpr ⟨_, h, rfl⟩)))
  ·rw [List.find?_cons_of_neg (p := fun x : Int × Lr => x.1 == k) z]
   rcases List.mem_cons.mp h with h | h
   ·rw [<- h] at z; exact absurd (beq_self_eq_true k) z
   ·exact ih as.2 h
theorem bF9 {k : Int} : ∀ {ls : List (Int × Lr)}, (ls.map (·.1)).Pairwise (· < ·) -> eX (.int k) (aU5 ls) = aU5 (ls.filter fun x => !(x.1 == k))
 | [], _ => rfl
 | a :: ls, as => by
  have as := List.pairwise_cons.mp as
  show (if Ky.int a.1 = Ky.int k then aU5 ls else (Ky.int a.1, a.2.v) :: eX (.int k) (aU5 ls)) = _
  by_cases z : a.1 = k
  ·rw [if_pos (by rw [z]), List.filter_cons_of_neg (by simp [z])]
   congr 1
   refine (List.filter_eq_self.mpr fun x hx => ?_).symm
   have := as.1 x.1 (List.mem_map.mpr ⟨x, hx, rfl⟩)
   rw [Bool.not_eq_true', beq_eq_false_iff_ne]
   rw [<- z]; exact (Int.ne_of_lt this).symm
  ·rw [if_neg fun c => z (aM3 c), List.filter_cons_of_pos (by simp [z]), bF9 as.2]; rfl
theorem aT3 (Z : TF S N) (n : Nat) {k : Int} {l : Lr} (h : To m N T t) (as : (t.lets.map (·.1)).Pairwise (· < ·)) (hk : (k, l) ∈ t.lets) : Wp (run S (n + 2) (N.ki + 11) [.ref T.o, .int k]) m (fun u m' => u = l.v /\ To m' N T (t.take k) /\ Mod [T.o, T.l, T.s] m m') nox := by
 rcases h.le with ⟨e, kd⟩
 have so : aJ (.int k) (aU5 t.lets) = true := aW _ _ _ _
 have el : bM (.int k) (aU5 t.lets) = some l.v := by unfold aU5; rw [eS, bF5 as hk]; rfl
 have nd := Td.ne h.nd
 refine bH Z.pbring rfl (bN (t := false) (eF (bB (x := false) (eE (aU (bD rfl (bS Z.H.W n k)))) (bB (x := false) (aU (aP rfl (aM rfl h.po rfl) ?_)) dZ))) (bA (cV (aE (aM rfl h.po rfl) ⟨1, cA2 kd, rfl, aC rfl (cV0 kd so el ⟨rfl, ?_, Mod.set (.tail _ (.head _))⟩)⟩))))
 ·show Res.bind (inV (.int k) (.ref T.l) m) _ = _
  rw [aX kd rfl so, el]; rfl
 ·rw [bF9 as]
  exact h.chg (Mod.set (.tail _ (.head _))) (aN (fun q => nd.1 q.symm) h.po) ⟨_, aY kd⟩ (h.sa.imp fun e' k' => aN nd.2.2 k')
theorem To.beside (hB : ∀ x ∈ B, x.1 ∉ T.all /\ m[x.1]? = some x.2) (M : Mod [T.o, T.l, T.s] m m') : ∀ x ∈ B, x.1 ∉ T.all /\ m'[x.1]? = some x.2 := fun x hx => ⟨(hB x hx).1, M.has (hB x hx).2 (nq (hB x hx).1)⟩
theorem bZ3 (Z : TF S N) (n : Nat) {k : Int} {l : Lr} (H : Tw m N p t B) (O : t.Ok b) (hk : (k, l) ∈ t.lets) (hl : ∀ s ∈ t.hs, s.own ≠ l.r) : Wp (run S (n + 3) (N.ki + 17) [.ref p, .int k]) m (fun u m' => ∃ q, u = .ref q /\ Tw m' N p (t.take k) ((q, .list []) :: B)) nox := by
 rcases H with ⟨T, rfl, h1, hB⟩
 rcases Z.post with ⟨y_, hpd, y_, y_, y_, hm1, y_⟩
 refine bH Z.tbring rfl (a9 (bV (aE (aM rfl h1.inst rfl) ⟨T.o, N.C + 1, _, _, N.ki + 11, rfl, h1.po, hpd, rfl, hm1, aC rfl (aV (aT3 Z n h1 O.as hk) fun u m1 z => ?_)⟩)))
 rcases z with ⟨rfl, h2, M⟩
 rcases h2.hd with ⟨ed, kd⟩
 refine bN (t := true) (aU (aP rfl (aM rfl h2.inst rfl) ?_)) (bA (bJ (aG (aQ fun q m2 l2 k2 g2 => ⟨q, rfl, ?_⟩))))
 ·show Res.bind (inV (.int l.r) (.ref T.h) m1) _ = _
  rw [aX kd rfl (aW _ _ _ _)]
  show Res.ok (!(bM (.int l.r) (cD5 (t.take k) T)).isSome) m1 = _
  rw [bF3 (t := t.take k) hl]; rfl
 ·have tw : Tw m1 N T.p (t.take k) B := ⟨T, rfl, h2, To.beside hB M⟩
  exact tw.new l2 k2 g2
theorem bZ4 (Z : TF S N) (n : Nat) {k : Int} {l : Lr} (H : Tw m N p t B) (O : t.Ok b) (hk : (k, l) ∈ t.lets) (hs : t.hs[i]? = some s) (hl : s.own = l.r) (hb : b + 300 < lid) : Wp (run S (n + 7) (N.ki + 17) [.ref p, .int k]) m (fun u m' => ∃ q, u = .ref q /\ Tw m' N p ((t.take k).turn i (s.hear l.w)) ((q, .list ((s.hear l.w).2.map Wo.v)) :: B)) nox := by
 rcases H with ⟨T, rfl, h1, hB⟩
 rcases Z.post with ⟨y_, hpd, y_, y_, y_, hm1, y_⟩
 have sc := O.hc s (List.mem_of_getElem? hs)
 have bl : s.sz + 8 < lid := Nat.lt_of_le_of_lt (Nat.add_le_add sc.2 (by decide : 8 <= 300)) hb
 refine bH Z.tbring rfl (a9 (bV (aE (aM rfl h1.inst rfl) ⟨T.o, N.C + 1, _, _, N.ki + 11, rfl, h1.po, hpd, rfl, hm1, aC rfl (aV (aT3 Z (n + 4) h1 O.as hk) fun u m1 z => ?_)⟩)))
 rcases z with ⟨rfl, h2, M⟩
 have O2 : (t.take k).Ok b := ⟨⟨fun x hx => O.lk.lt x (List.mem_filter.mp hx).1, Nat.le_trans (List.length_filter_le _ _) O.lk.ll, O.lk.sl⟩, O.c1, O.c2, O.on, O.hc, List.Pairwise.sublist (List.Sublist.map _ List.filter_sublist) O.as⟩
 have tw : Tw m1 N T.p (t.take k) B := ⟨T, rfl, h2, To.beside hB M⟩
 rcases h2.hd with ⟨ed, kd⟩
 rcases bF4 (t := t.take k) h2.len O.on hs with ⟨D, hD, el⟩
 rcases h2.hs i D hD with ⟨s', e1, hH⟩
 rw [show (t.take k).hs[i]? = some s from hs] at e1
 cases e1
 rcases Z.H.cls with ⟨dh, hd, hx, hi, hm⟩
 have so : aJ (.int s.own) (cD5 (t.take k) T) = true := aW _ _ _ _
 rw [hl] at el so
 refine bN (t := false) (aU (aP rfl (aM rfl h2.inst rfl) ?_)) ?_
 ·show Res.bind (inV (.int l.r) (.ref T.h) m1) _ = _
  rw [aX kd rfl so, el]; rfl
 refine bA (bI Z tw rfl rfl rfl (aF (aC rfl (aF (bV (aE (dY (aM rfl h2.inst rfl) rfl (bX kd rfl so el)) ⟨D.p, N.C, _, dh, N.ki + 2, rfl, hH.inst, hd, rfl, hm 1 (by decide), aC rfl (dQ (bT3 Z.H n l.w hH (by rw [sc.1]; exact O.c1) (by rw [sc.1]; exact O.c2) bl) fun m3 q3 l3 k3 g3 o3 H3 M3 y3 => ?_)⟩))))))
 have H4 := h2.tells (t := t.take k) (To.beside hB M) hD hs (aQ3 s l.w) k3 g3 o3 H3 M3 y3
 have n5 : (s.hear l.w).2.length <= 15 := by
  have := (dL s l.w).2.2.2.2
  exact Nat.le_trans this (Nat.add_le_add_right (cQ (show s.cnt <= 12 by rw [sc.1]; exact O.c2)) 3)
 refine aG ?_
 have := bN5 Z (n + 4) H4 (aQ3 s l.w) O2 (Nat.lt_of_le_of_lt (Nat.add_le_add_left (Nat.le_trans (Nat.mul_le_mul_left 13 n5) (by decide)) b) hb)
 rw [hl] at this
 exact this
end
end Mini
namespace Mini
open PySem
structure Wo.Ok (c : Int) (w : Wo) : Prop where
 k : w.k = eD \/ w.k = dS
 n0 : 0 <= w.n
 n1 : w.n <= 9999
 r : bP8 (.str w.r) = true
 h0 : 0 <= w.h
 h1 : w.h < c
 c : w.k = eD -> (w.n - w.h) % c = 0
section
variable {S : Sig} {N : HN} {m m' : MH} {T : Td} {t : Tn} {p b i : Nat} {B : List (Nat × MObj)} {s : Hs} {D : Hd}
theorem bS1 (Z : TF S N) (n : Nat) {h r : Int} {w : Wo} (H : Tw m N p t B) (O : t.Ok b) (h0 : 0 <= h) (h1 : h < t.cnt) (hl : ∀ s ∈ t.hs, s.own ≠ h) (r0 : 0 <= r) (r1 : r < t.cnt) (hr : r ≠ h) (hw : w.Ok t.cnt) (hf : w.h = h \/ w ∈ t.said) (hb : b + 300 < lid) : Wp (run S (n + 4) (N.ki + 18) [.ref p, .int h, .int r, w.v]) m (fun u m' => u = .int t.given /\ Tw m' N p ((t.say w).send ⟨h, r, w⟩) B) nox := by
 rcases H with ⟨T, rfl, h1', hB⟩
 rcases Z.post with ⟨y_, hpd, y_, y_, hm1, y_⟩
 rcases Z.H.gM with ⟨y_, gM⟩
 rcases Z.gN with ⟨y_, gN⟩
 rcases Z.H.gL with ⟨y_, gL⟩
 rcases Z.H.gS with ⟨y_, gS⟩
 rcases h1'.hd with ⟨ed, kd⟩
 rcases h1'.sa with ⟨es, ks⟩
 have nd := Td.ne h1'.nd
 have ew : run S (n + 3) _ [.int t.cnt, w.v] m = .ok (.bool true) m := bL3 Z.word Z.H.N_ Z.H.W Z.H.R Z.caller gM gN gL gS n O.c1 O.c2 hw.k hw.n0 hw.n1 hw.r hw.h0 hw.h1 hw.c
 refine bH Z.lie rfl (bN (t := false) (eF (bB (x := false) (eE (aU (bD rfl (bS Z.H.W (n + 2) h)))) (bB (x := false) (bQ2 rfl (aM rfl h1'.inst rfl) h0 h1) (bB (x := false) (aU (aP rfl (aM rfl h1'.inst rfl) ?_)) dZ)))) ?_)
 ·show inV (.int h) (.ref T.h) m = _
  rw [aX kd rfl (aW _ _ _ _)]
  show Res.ok ((bM (.int h) (cD5 t T)).isSome) m = _
  rw [bF3 hl]
 refine bN (t := false) (eF (bB (x := false) (eE (aU (bD rfl (bS Z.H.W (n + 2) r)))) (bB (x := false) (bQ2 rfl (aM rfl h1'.inst rfl) r0 r1) (bB (x := false) (aU (aP rfl rfl ?_)) dZ)))) ?_
 ·show Res.ok (r == h) m = _
  rw [beq_eq_false_iff_ne.mpr hr]
 refine bN (t := false) (eE (aU (aC5 (vs := [.int t.cnt, w.v]) ?_ ew))) ?_
 ·show Res.bind (ev S _ (.attr (.var 0) 8) _ m) _ = _
  rw [aM (v := .int t.cnt) rfl h1'.inst rfl]; rfl
 have e4 : evT S (run S (n + 3)) (.all true [(.val (.cmp (.idx (.var 3) (.cnst (Lt.int 3))) [.NotEq] [(.var 1)])), (.val (.cmp (.var 3) [.NotIn] [(.attr (.var 0) 28)]))]) [some (.ref T.p), some (.int h), some (.int r), some w.v] m = .ok false m := by
  have e1 : evT S (run S (n + 3)) (.val (.cmp (.idx (.var 3) (.cnst (Lt.int 3))) [.NotEq] [(.var 1)])) [some (.ref T.p), some (.int h), some (.int r), some w.v] m = .ok (!(w.h == h)) m := aU (aP rfl rfl rfl)
  have e2 : evT S (run S (n + 3)) (.val (.cmp (.var 3) [.NotIn] [(.attr (.var 0) 28)])) [some (.ref T.p), some (.int h), some (.int r), some w.v] m = .ok (!decide (w ∈ t.said)) m := by
   refine aU (aP rfl (aM rfl h1'.inst rfl) ?_)
   show Res.bind (inV w.v (.ref T.s) m) _ = _
   rw [aX ks (k := w.ky) rfl (dA _ _), aP7]; rfl
  rw [eF (cG8 e1 (cG8 e2 dZ))]
  rcases hf with hf | hf
  ·rw [hf, beq_self_eq_true]; rfl
  ·rw [decide_eq_true hf, Bool.not_true, Bool.false_and, Bool.and_false]
 refine bN e4 ?_
 refine dJ (aC rfl (aE (aM rfl h1'.inst rfl) (aC rfl (dF ks (k := w.ky) rfl (dA _ _) (by unfold kD; rw [List.length_map]; exact Nat.lt_of_le_of_lt O.lk.sl (Nat.lt_of_le_of_lt (Nat.le_add_right _ 300) hb)) ?_))))
 show Wp _ (m.set T.s (.dict (put w.ky (.bool true) (kD t.said)) (es + 1))) _ _
 rw [aS7]
 have M1 : Mod [T.o, T.l, T.s] m (m.set T.s (.dict (kD (aL0 w t.said)) (es + 1))) := Mod.set (.tail _ (.tail _ (.head _)))
 have k1 : To (m.set T.s (.dict (kD (aL0 w t.said)) (es + 1))) N T (t.say w) := h1'.chg M1 (aN (fun c => nd.2.1 c.symm) h1'.po) (h1'.le.imp fun e' k' => aN (fun c => nd.2.2 c.symm) k') ⟨_, aY ks⟩
 generalize m.set T.s (.dict (kD (aL0 w t.said)) (es + 1)) = m1 at M1 k1 ⊢
 refine bA (bV (aE (aM rfl k1.inst rfl) ⟨T.o, N.C + 1, _, _, N.ki + 10, rfl, k1.po, hpd, rfl, hm1, ?_⟩))
 refine aC rfl ?_
 exact aV (bP6 Z (n + 2) ⟨h, r, w⟩ k1 (O.lk.say w) (Nat.lt_of_le_of_lt (Nat.add_le_add_left (by decide) b) hb)) fun u m2 z => ⟨z.1, T, rfl, z.2.1, To.beside hB (M1.trans z.2.2)⟩
noncomputable def bI0 (x : Int × Lr) : V := .tup [.int x.1, x.2.v]
theorem cA6 (Z : TF S N) (n : Nat) (h : To m N T t) (O : t.Ok b) (hb : b < lid) : Wp (run S (n + 1) (N.ki + 12) [.ref T.o]) m (fun u m' => ∃ q, u = .ref q /\ m'[q]? = some (.list (t.lets.map bI0)) /\ m.length <= q /\ Le m m') nox := by
 rcases h.le with ⟨e, kd⟩
 have hs : biV .sorted [.ref T.l] m = alloc (.list (t.lets.map fun x => V.int x.1)) m := by
  unfold biV; dsimp only; rw [kd]; dsimp only
  unfold aU5
  rw [bA1]; dsimp only
  rw [if_pos (.inr O.as), aS4 O.as, List.map_map]; rfl
 refine bH Z.pwait rfl (bA (aL7 t.lets (fun x => V.int x.1) bI0 (fun m' => m' = m ++ [.list (t.lets.map fun x => V.int x.1)]) (aF (aO9 (aF (aE (aM rfl h.po rfl) (aG (aE hs (aG (d9 bO ⟨rfl, rfl, ?_, ?_, ?_, ?_⟩))))))))))
 ·intro m' em; rw [em]; exact cI bO
 ·intro x hx m' em
  have l := Le.app m [.list (t.lets.map fun x => V.int x.1)]
  have ed : aQ0 (.ref T.l) (.int x.1) m' = .ok x.2.v m' := by
   rw [em]
   refine bX (l.has kd) rfl (aW _ _ _ _) ?_
   unfold aU5; rw [eS, bF5 O.as (show (x.1, x.2) ∈ t.lets from hx)]; rfl
  have po := l.has h.po
  rw [<- em] at po
  exact aC rfl (aE (aZ3 (aO rfl (aO (dY (aM rfl po rfl) rfl ed) rfl))) ⟨rfl, em⟩)
 ·exact Nat.le_trans O.lk.ll (Nat.le_of_lt hb)
 ·intro q m1 m2 em l2 k2 hq
  rw [em] at l2 hq
  exact ⟨q, rfl, k2, by rw [List.length_append] at hq; exact Nat.le_trans (Nat.le_add_right _ _) hq, (Le.app _ _).trans l2⟩
theorem bY7 (Z : TF S N) (n : Nat) (H : Tw m N p t B) (O : t.Ok b) (hb : b < lid) : Wp (run S (n + 2) (N.ki + 19) [.ref p]) m (fun u m' => ∃ q, u = .ref q /\ Tw m' N p t ((q, .list (t.lets.map bI0)) :: B) /\ Le m m' /\ m.length <= q) nox := by
 rcases id H with ⟨T, rfl, h1, hB⟩
 rcases Z.post with ⟨y_, hpd, y_, y_, y_, y_, hm1⟩
 refine bH Z.twait rfl (bA (bV (aE (aM rfl h1.inst rfl) ⟨T.o, N.C + 1, _, _, N.ki + 12, rfl, h1.po, hpd, rfl, hm1, aC rfl (aV (cA6 Z n h1 O hb) fun u m1 z => ?_)⟩)))
 rcases z with ⟨q, e, k, g, l⟩
 exact ⟨q, e, H.new l k g, l, g⟩
theorem aS3 (Z : TF S N) (n : Nat) (H : Tw m N p t B) : Wp (run S (n + 1) (N.ki + 20) [.ref p]) m (fun u m' => ∃ q, u = .ref q /\ Tw m' N p t ((q, .list (t.said.map Wo.v)) :: B) /\ Le m m' /\ m.length <= q) nox := by
 rcases id H with ⟨T, rfl, h1, hB⟩
 rcases h1.sa with ⟨es, ks⟩
 have el : biV .list [.ref T.s] m = alloc (.list (t.said.map Wo.v)) m := by unfold biV; dsimp only; rw [ks]; dsimp only; rw [bS7]
 refine bH Z.spoken rfl (bA (aO9 (aF (aE (aM rfl h1.inst rfl) (aG (aF8 el (aQ fun q m1 l k g => ⟨q, rfl, H.new l k g, l, g⟩)))))))
theorem aL1 (Z : TF S N) (n : Nat) (H : Tw m N p t B) (O : t.Ok b) (hs : t.hs[i]? = some s) (hl : s.rows.length < 64) (nd : (s.rows.map (·.1)).Nodup) : Wp (run S (n + 3) (N.ki + 21) [.ref p, .int s.own]) m (fun u m' => ∃ q e, u = .ref q /\ Tw m' N p t ((q, .dict (aM2 s.rows) e) :: B) /\ Le m m' /\ m.length <= q) nox := by
 rcases id H with ⟨T, rfl, h1, hB⟩
 rcases aB8 Z n h1 O.on hs with ⟨D, hD, hH, eh⟩
 rcases Z.H.cls with ⟨dh, hd, hx, hi, hm⟩
 refine bH Z.tledger rfl (bA (bV (bI Z H rfl rfl rfl (aC rfl (aE eh ⟨D.p, N.C, _, dh, N.ki + 6, rfl, hH.inst, hd, rfl, hm 5 (by decide), aC rfl (cP1 (bS3 Z.H (n + 1) hH hl) fun m1 q e k g l => ⟨q, e, rfl, ?_, l, g⟩)⟩)))))
 rw [cY6 nd] at k
 exact H.new l k g
theorem aY8 (Z : TF S N) (n : Nat) {k : Int} (H : Tw m N p t B) (O : t.Ok b) (hs : t.hs[i]? = some s) (hw : s.wrote k = true) : Wp (run S (n + 3) (N.ki + 22) [.ref p, .int s.own, .int k]) m (fun u m' => ∃ q, u = .ref q /\ Tw m' N p t ((q, .list ((aR2 s.rows k).map Wo.v)) :: B) /\ Le m m' /\ m.length <= q) nox := by
 rcases id H with ⟨T, rfl, h1, hB⟩
 rcases aB8 Z n h1 O.on hs with ⟨D, hD, hH, eh⟩
 rcases Z.H.cls with ⟨dh, hd, hx, hi, hm⟩
 exact bH Z.tbacking rfl (bA (bV (bI Z H rfl rfl rfl (aC rfl (aE eh ⟨D.p, N.C, _, dh, N.ki + 7, rfl, hH.inst, hd, rfl, hm 6 (by decide), aC rfl (aE (bK6 Z.H n hH hw) ⟨_, rfl, H.new (.app _ _) bO (Nat.le_refl _), .app _ _, Nat.le_refl _⟩)⟩)))))
theorem bI1 (Z : TF S N) (n : Nat) (H : Tw m N p t B) (O : t.Ok b) (hs : t.hs[i]? = some s) : Wp (run S (n + 3) (N.ki + 23) [.ref p, .int s.own]) m (fun u m' => ∃ q, u = .ref q /\ Tw m' N p t ((q, .list (aY2 s.named)) :: B) /\ Le m m' /\ m.length <= q) nox := by
 rcases id H with ⟨T, rfl, h1, hB⟩
 rcases aB8 Z n h1 O.on hs with ⟨D, hD, hH, eh⟩
 rcases Z.H.cls with ⟨dh, hd, hx, hi, hm⟩
 exact bH Z.tcaught rfl (bA (bV (bI Z H rfl rfl rfl (aC rfl (aE eh ⟨D.p, N.C, _, dh, N.ki + 8, rfl, hH.inst, hd, rfl, hm 7 (by decide), aC rfl (aE (bU9 Z.H (n + 1) hH) ⟨_, rfl, H.new (.app _ _) bO (Nat.le_refl _), .app _ _, Nat.le_refl _⟩)⟩)))))
end
end Mini
namespace Mini
open PySem
noncomputable def aQ2 (L : List Int) (a : List Nat) : List Int := (a.map fun (j : Nat) => (j : Int)).filter fun j => !(L.any fun y => y == j)
noncomputable def aC2 (c : Int) (L : List Int) : List Int := aQ2 L (List.range c.toNat)
noncomputable def Tn.new (c : Int) (L : List Int) : Tn := ⟨c, (aC2 c L).map (Hs.new c), 0, [], []⟩
theorem cH9 (L : List Int) (j : Int) : (bM (.int j) (iD L)).isSome = L.any fun y => y == j := by rw [cD4, dU]; rfl
theorem cZ9 {L : List Int} {j : Int} (h : j ∉ L) : put (.int j) (.bool true) (iD L) = iD (L ++ [j]) := by
 rw [cD4, aB3]
 ·unfold iD tD; rw [List.map_append]; rfl
 ·rw [List.any_eq_false]
  intro x hx e
  exact h (eq_of_beq e ▸ hx)
theorem aB9 (L : List Int) (a : List Nat) (j : Nat) : aQ2 L (a ++ [j]) = if (L.any fun y => y == (j : Int)) = true then aQ2 L a else aQ2 L a ++ [(j : Int)] := by
 unfold aQ2
 rw [List.map_append, List.filter_append]
 show _ ++ List.filter _ [(j : Int)] = _
 rw [List.filter_cons, List.filter_nil]
 cases L.any fun y => y == (j : Int)
 ·rfl
 ·exact List.append_nil _
theorem aP8 {L : List Int} {c : Int} (nd : L.Nodup) (hL : ∀ x ∈ L, 0 <= x /\ x < c) : L.length <= c.toNat := by
 have h1 : (L.map Int.toNat).Nodup := List.pairwise_map.mpr (List.Pairwise.imp_of_mem (fun {x y} hx hy hne e => hne (by rw [<- Int.toNat_of_nonneg (hL x hx).1, <- Int.toNat_of_nonneg (hL y hy).1, e])) nd)
 have h2 : L.map Int.toNat ⊆ List.range c.toNat := fun y hy => by
  rcases List.mem_map.mp hy with ⟨x, hx, rfl⟩
  have := hL x hx
  exact List.mem_range.mpr (by omega)
 have := h1.length_le_of_subset h2
 rw [List.length_map, List.length_range] at this
 exact this
section
variable {S : Sig} {N : HN} {m m' : MH} {p q : Nat} {B : List (Nat × MObj)}
theorem cA8 (Z : TF S N) (n : Nat) (h : m[q]? = some (.inst (N.C + 1) [])) : Wp (run S (n + 1) (N.ki + 9) [.ref q]) m (fun u m' => u = .none /\ m'[q]? = some (.inst (N.C + 1) [(20, .int 0), (21, .ref m.length)]) /\ m'[m.length]? = some (.dict [] 0) /\ Mod [q] m m') nox := by
 refine bH Z.pinit rfl (aB2 (aC rfl (aC rfl ⟨q, N.C + 1, [], rfl, h, ?_⟩)))
 have h1 := aY (o' := .inst (N.C + 1) [(20, .int 0)]) h
 have hl : (m.set q (.inst (N.C + 1) [(20, .int 0)])).length = m.length := List.length_set
 show Wp _ (m.set q (.inst (N.C + 1) [(20, .int 0)])) _ _
 have M0 : Mod [q] m (m.set q (.inst (N.C + 1) [(20, .int 0)])) := Mod.set (.head _)
 generalize m.set q (.inst (N.C + 1) [(20, .int 0)]) = m1 at h1 hl M0 ⊢
 exact cX rfl rfl h1 hl fun m2 i2 n2 f2 L2 M2 => b9 ⟨rfl, i2, n2, M0.trans M2⟩
inductive TL1 (q p d : Nat) (c : Int) (L : List Int) (m : MH) (zs : List Int) (r : Lo) (m' : MH) : Prop
 | mk (a : List Int) (e : Nat) (x : Option V) (el : L = a ++ zs) (er : r = [some (.ref p), some (.int c), some (.ref q), some (.ref d), x]) (kd : m'[d]? = some (.dict (iD a) e)) (l : Le m m')
inductive TL2 (N : HN) (q p d h : Nat) (c : Int) (L : List Int) (m : MH) (zs : List Nat) (r : Lo) (m' : MH) : Prop
 | mk (a : List Nat) (ds : List Hd) (e : Nat) (x : Option V) (el : List.range c.toNat = a ++ zs) (er : r = [some (.ref p), some (.int c), some (.ref q), some (.ref d), x])
   (kh : m'[h]? = some (.dict (tD (·.1) (fun x : Int × Nat => V.ref x.2) ((aQ2 L a).zip (ds.map (·.p)))) e)) (M : Mod [h] m m')
   (hs : ∀ (i : Nat) (D : Hd), ds[i]? = some D -> ∃ o, (aQ2 L a)[i]? = some o /\ Ho m' N.C D (Hs.new c o)) (len : ds.length = (aQ2 L a).length) (fr : ∀ D ∈ ds, ∀ x ∈ D.all, m.length <= x)
   (dd : ∀ (i j : Nat) (D D' : Hd), ds[i]? = some D -> ds[j]? = some D' -> i ≠ j -> ∀ x ∈ D.all, x ∉ D'.all)
theorem cD6 {L : List Int} {a : List Nat} {x : Int} (h : x ∈ aQ2 L a) : ∃ j ∈ a, x = (j : Int) := by
 have := (List.mem_filter.mp h).1
 rcases List.mem_map.mp this with ⟨j, h1, h2⟩
 exact ⟨j, h1, h2.symm⟩
theorem nd5 {a b c d e : Nat} (h1 : a < b) (h2 : b < c) (h3 : c < d) (h4 : d < e) : [a, b, c, d, e].Nodup := by
 have h12 := Nat.lt_trans h1 h2
 have h13 := Nat.lt_trans h12 h3
 have h23 := Nat.lt_trans h2 h3
 simp only [List.nodup_cons, List.mem_cons, List.not_mem_nil, or_false, not_or, not_false_eq_true, List.nodup_nil, and_true]
 exact ⟨⟨Nat.ne_of_lt h1, Nat.ne_of_lt h12, Nat.ne_of_lt h13, Nat.ne_of_lt (Nat.lt_trans h13 h4)⟩, ⟨Nat.ne_of_lt h2, Nat.ne_of_lt h23, Nat.ne_of_lt (Nat.lt_trans h23 h4)⟩, ⟨Nat.ne_of_lt h3, Nat.ne_of_lt (Nat.lt_trans h3 h4)⟩, Nat.ne_of_lt h4⟩
set_option tactic.hygienic true in
theorem bY9 (Z : TF S N) (n : Nat) {c : Int} {L : List Int} {q p d h : Nat} {m3 : MH} {e : Nat} {Q : Fl × Lo -> MH -> Prop} (c1 : 1 <= c) (c2 : c <= 12) (i3 : m3[p]? = some (.inst (N.C + 2) [(8, .int c), (26, .ref h)])) (ph : p < h) (hlt : h < m3.length) (kd3 : m3[d]? = some (.dict (iD L) e)) (dh : d ≠ h) {j : Nat} {js : List Nat} {r : Lo} {m4 : MH} (I : TL2 N q p d h c L m3 (j :: js) r m4) :
  Wp (aJ6 (.one 4) (V.int (0 + (j : Int))) r) m4 (fun r' m' => Wp (exs S (run S (n + 3)) [(.ite (.val (.cmp (.var 4) [.NotIn] [(.var 3)])) [(.asg (.idx (.attr (.var 0) 26) (.var 4)) (.new N.C [(.var 1), (.var 4)]))] [])] r') m' (bC4 Q (TL2 N q p d h c L m3) js) nox) nox := by
 rcases I with ⟨a, ds, e4, x4, el, er, kh, M, hs, len, fr, dd⟩
 subst er
 have dh : d ∉ [h] := fun c => dh (List.mem_singleton.mp c)
 have kd4 := M.has kd3 dh
 have i4 := M.has i3 fun c => absurd (List.mem_singleton.mp c) (Nat.ne_of_lt ph)
 have ejs : List.range c.toNat = (a ++ [j]) ++ js := by rw [el, List.append_assoc]; rfl
 refine aC rfl (bN (t := !(L.any fun y => y == (0 + (j : Int)))) (aU (aP rfl rfl ?_)) ?_)
 ·show Res.bind (inV (.int (0 + (j : Int))) (.ref d) m4) _ = _
  rw [aX kd4 rfl (eK _ _), cH9]; rfl
 rw [Int.zero_add]
 cases hz : L.any fun y => y == (j : Int) with
 | true =>
  refine b9 ⟨a ++ [j], ds, e4, _, ejs, rfl, ?_, M, ?_, ?_, fr, dd⟩
  all_goals rw [aB9, if_pos hz]
  ·exact kh
  ·exact hs
  ·exact len
 | false =>
  have hj : j < c.toNat := List.mem_range.mp (by rw [el]; exact List.mem_append_right _ (.head _))
  have hj' : (j : Int) < c := by omega
  rcases Z.H.cls with ⟨dc, hd, hx, hi, hm⟩
  refine dJ (bQ8 (aC rfl ⟨dc, N.ki, hd, hx, hi, ?_⟩))
  refine aV (cQ2 Z.H n (p := m4.length) c1 c2 (Int.natCast_nonneg j) hj' bO) fun u m5 z => ?_
  rcases z with ⟨hu, D, hDp, hH, M5, hD⟩
  refine ⟨hu, ?_⟩
  have L5 : Le m4 m5 := by
   refine ⟨Nat.le_trans (by rw [List.length_append]; exact Nat.le_add_right _ _) M5.1, fun y hy => ?_⟩
   rw [M5.2 y (by rw [List.length_append]; exact Nat.lt_of_lt_of_le hy (Nat.le_add_right _ _)) fun c => absurd (List.mem_singleton.mp c) (Nat.ne_of_lt hy), List.getElem?_append_left hy]
  have Df : ∀ y ∈ D.all, m4.length <= y := fun y hy => by
   rcases hD y hy with rfl | hy
   ·exact Nat.le_refl _
   ·rw [List.length_append] at hy; exact Nat.le_trans (Nat.le_add_right _ _) hy
  have kh5 := L5.has kh
  have le34 := M.1
  refine aE (aM rfl (L5.has i4) rfl) (aC rfl (dF kh5 (k := .int (j : Int)) rfl (aW _ _ _ _) ?_ ?_))
  ·unfold tD
   rw [List.length_map, List.length_zip]
   refine Nat.lt_of_le_of_lt (Nat.min_le_left _ _) ?_
   refine Nat.lt_of_le_of_lt (List.length_filter_le _ _) ?_
   rw [List.length_map]
   have := congrArg List.length el
   rw [List.length_range, List.length_append] at this
   exact Nat.lt_of_le_of_lt (Nat.le_trans (Nat.le_add_right _ _) (this ▸ cQ c2)) (by decide)
  have na : ((aQ2 L a).zip (ds.map (·.p))).any (fun x => x.1 == (j : Int)) = false := by
   rw [List.any_eq_false]
   intro y hy e
   have : y.1 ∈ aQ2 L a := (List.of_mem_zip (a := y.1) (b := y.2) hy).1
   rcases cD6 this with ⟨i, h1, h2⟩
   have : j ∈ a := by
    have : (i : Int) = (j : Int) := h2.symm.trans (eq_of_beq e)
    rw [<- Int.ofNat_inj.mp this]; exact h1
   have nr : (List.range c.toNat).Nodup := List.nodup_range
   rw [el] at nr
   exact (List.nodup_append.mp nr).2.2 j this j (.head _) rfl
  have ep : put (.int (j : Int)) (.ref m4.length) (tD (·.1) (fun x : Int × Nat => V.ref x.2) ((aQ2 L a).zip (ds.map (·.p)))) = tD (·.1) (fun x : Int × Nat => V.ref x.2) ((aQ2 L (a ++ [j])).zip ((ds ++ [D]).map (·.p))) := by
   rw [aB3 _ _ _ _ _ na, aB9, if_neg (by rw [hz]; exact Bool.false_ne_true), List.map_append, List.zip_append (by rw [List.length_map]; exact len.symm)]
   unfold tD
   rw [List.map_append]
   show _ = _ ++ [(Ky.int (j : Int), V.ref D.p)]
   rw [hDp]
  rw [ep]
  have hmod : Mod [h] m5 (m5.set h (.dict (tD (·.1) (fun x : Int × Nat => V.ref x.2) ((aQ2 L (a ++ [j])).zip ((ds ++ [D]).map (·.p)))) (e4 + 1))) := Mod.set (.head _)
  have ge : ∀ (i : Nat) (D' : Hd), (ds ++ [D])[i]? = some D' -> (i < ds.length /\ ds[i]? = some D') \/ (i = ds.length /\ D' = D) := fun i D' e => by
   rcases Nat.lt_or_ge i ds.length with z | z
   ·rw [List.getElem?_append_left z] at e; exact .inl ⟨z, e⟩
   ·rw [List.getElem?_append_right z] at e
    have : i - ds.length = 0 := by
     cases h : i - ds.length with
     | zero => rfl
     | succ k => rw [h] at e; cases e
    rw [this] at e
    exact .inr ⟨Nat.le_antisymm (Nat.le_of_sub_eq_zero this) z, (Option.some.inj e).symm⟩
  have frD : ∀ y ∈ D.all, m3.length <= y := fun y hy => Nat.le_trans le34 (Df y hy)
  have oldlt : ∀ (i : Nat) (D' : Hd), ds[i]? = some D' -> ∀ y ∈ D'.all, y < m4.length := fun i D' e y hy => by
   rcases hs i D' e with ⟨o, y_, h2⟩
   exact h2.lt y hy
  refine b9 ⟨a ++ [j], ds ++ [D], e4 + 1, _, ejs, rfl, aY kh5, M.trans (L5.mod.trans hmod), fun i D' e => ?_, ?_, fun D' hD' => ?_, fun i k D1 D2 e1 e2 hne y hy => ?_⟩
  ·rcases ge i D' e with ⟨z, e⟩ | ⟨rfl, rfl⟩
   ·rcases hs i D' e with ⟨o, h1, h2⟩
    exact ⟨o, by rw [aB9, if_neg (by rw [hz]; exact Bool.false_ne_true), List.getElem?_append_left (by rw [<- len]; exact z)]; exact h1, (h2.le L5).mod hmod fun y hy c => by
     have := fr D' (List.mem_of_getElem? e) y hy
     rw [List.mem_singleton.mp c] at this
     exact Nat.not_lt.mpr this hlt⟩
   ·refine ⟨(j : Int), by rw [aB9, if_neg (by rw [hz]; exact Bool.false_ne_true), len, List.getElem?_append_right (Nat.le_refl _), Nat.sub_self]; rfl, hH.mod hmod fun y hy c => ?_⟩
    have := frD y hy
    rw [List.mem_singleton.mp c] at this
    exact Nat.not_lt.mpr this hlt
  ·rw [aB9, if_neg (by rw [hz]; exact Bool.false_ne_true), List.length_append, List.length_append, len]; rfl
  ·rcases List.mem_append.mp hD' with h | h
   ·exact fr D' h
   ·rw [List.mem_singleton.mp h]; exact frD
  ·rcases ge i D1 e1 with ⟨z1, e1⟩ | ⟨z1, rfl⟩
   ·rcases ge k D2 e2 with ⟨z2, e2⟩ | ⟨z2, rfl⟩
    ·exact dd i k D1 D2 e1 e2 hne y hy
    ·rename_i e0
     exact fun c => Nat.not_lt.mpr (Df y c) (oldlt i D1 e0 y hy)
   ·rcases ge k D2 e2 with ⟨z2, e2⟩ | ⟨z2, rfl⟩
    ·exact fun c => Nat.not_lt.mpr (Df y hy) (oldlt k D2 e2 y c)
    ·exact absurd (z1.trans z2.symm) hne
theorem cL5 (Z : TF S N) (n : Nat) {c : Int} {L : List Int} {q p d h : Nat} {m3 : MH} (i3 : m3[p]? = some (.inst (N.C + 2) [(8, .int c), (26, .ref h)])) (ph : p < h) (hlt : h < m3.length) (hB : ∀ x ∈ B, x.1 ≠ p /\ x.1 < h /\ m3[x.1]? = some x.2) {r : Lo} {m4 : MH} (I : TL2 N q p d h c L m3 [] r m4) :
  Wp (exs S (run S (n + 3)) [(.asg (.attr (.var 0) 27) (.new (N.C + 1) [])), (.asg (.attr (.var 0) 28) (.dict [] []))] r) m4 (bW8 fun u m' => u = .none /\ Tw m' N p (Tn.new c L) B) nox := by
 rcases I with ⟨a, ds, e4, x4, el, er, kh, M, hs, len, fr, dd⟩
 subst er
 rw [List.append_nil] at el
 have i4 := M.has i3 fun c => absurd (List.mem_singleton.mp c) (Nat.ne_of_lt ph)
 have B4 : ∀ x ∈ B, m4[x.1]? = some x.2 := fun x hx => M.has ((hB x hx).2.2) fun c => absurd (List.mem_singleton.mp c) (Nat.ne_of_lt (hB x hx).2.1)
 rcases Z.post with ⟨dp, hpd, hpx, hpi, y_⟩
 refine aB2 (bQ8 (aG ⟨dp, N.ki + 9, hpd, hpx, hpi, aV (cA8 Z (n + 2) (q := m4.length) bO) fun u m5 z => ?_⟩))
 rcases z with ⟨hu, k5, k5', M5⟩
 refine ⟨hu, ?_⟩
 have L5 : Le m4 m5 := by
  refine ⟨Nat.le_trans (by rw [List.length_append]; exact Nat.le_add_right _ _) M5.1, fun y hy => ?_⟩
  rw [M5.2 y (by rw [List.length_append]; exact Nat.lt_of_lt_of_le hy (Nat.le_add_right _ _)) fun c => absurd (List.mem_singleton.mp c) (Nat.ne_of_lt hy), List.getElem?_append_left hy]
 rw [List.length_append] at k5 k5'
 have k5 : m5[m4.length]? = some (.inst (N.C + 1) [(20, .int 0), (21, .ref (m4.length + 1))]) := k5
 have k5' : m5[m4.length + 1]? = some (.dict [] 0) := k5'
 refine aC rfl ⟨p, N.C + 2, _, rfl, L5.has i4, ?_⟩
 show Wp _ (m5.set p (.inst (N.C + 2) [(8, .int c), (26, .ref h), (27, .ref m4.length)])) _ _
 have i6 := aY (o' := .inst (N.C + 2) [(8, .int c), (26, .ref h), (27, .ref m4.length)]) (L5.has i4)
 have M6 : Mod [p] m5 (m5.set p (.inst (N.C + 2) [(8, .int c), (26, .ref h), (27, .ref m4.length)])) := Mod.set (.head _)
 generalize m5.set p (.inst (N.C + 2) [(8, .int c), (26, .ref h), (27, .ref m4.length)]) = m6 at i6 M6 ⊢
 refine cX rfl rfl i6 rfl fun m7 i7 n7 f7 L7 M7 => ?_
 have le34 := M.1
 have h34 : h < m4.length := Nat.lt_of_lt_of_le hlt le34
 have l6 : m4.length + 1 < m6.length := Nat.lt_of_lt_of_le (aT k5') M6.1
 have up : ∀ (y : Nat) (o : MObj), y ≠ p -> m5[y]? = some o -> m7[y]? = some o := fun y o hy k => f7 y o hy (M6.has k fun c => hy (List.mem_singleton.mp c))
 have m57 : Mod [p] m5 m7 := M6.trans M7
 have pD : ∀ D ∈ ds, ∀ y ∈ D.all, y ∉ [p] := fun D hD y hy c => by
  have := fr D hD y hy
  rw [List.mem_singleton.mp c] at this
  exact Nat.not_lt.mpr this (Nat.lt_trans ph hlt)
 have Dlt : ∀ D ∈ ds, ∀ y ∈ D.all, y < m4.length := fun D hD y hy => by
  rcases List.getElem?_of_mem hD with ⟨i, e⟩
  rcases hs i D e with ⟨o, y_, h2⟩
  exact h2.lt y hy
 have ea : aQ2 L a = aC2 c L := by unfold aC2; rw [el]
 have eo : ((aC2 c L).map (Hs.new c)).map (·.own) = aC2 c L := by rw [List.map_map]; exact List.map_id _
 refine b9 ⟨rfl, ⟨p, h, m4.length, m4.length + 1, m6.length, ds⟩, rfl, ⟨i7, ⟨e4, ?_⟩, up _ _ (Nat.ne_of_lt (Nat.lt_trans ph h34)).symm k5, ⟨0, up _ _ (Nat.ne_of_lt (Nat.lt_trans (Nat.lt_trans ph h34) (Nat.lt_succ_self _))).symm k5'⟩, ⟨0, n7⟩, fun i D e => ?_, ?_, ?_, fun D hD y hy c => ?_, dd⟩, fun x hx => ⟨fun c => ?_, up _ _ (hB x hx).1 (L5.has (B4 x hx))⟩⟩
 ·show m7[h]? = some (.dict (tD _ _ ((((aC2 c L).map (Hs.new c)).map (·.own)).zip (ds.map (·.p)))) e4)
  rw [eo, <- ea]
  exact up _ _ (Nat.ne_of_lt ph).symm (L5.has kh)
 ·rcases hs i D e with ⟨o, h1, h2⟩
  refine ⟨Hs.new c o, ?_, (h2.le L5).mod m57 (pD D (List.mem_of_getElem? e))⟩
  show ((aC2 c L).map (Hs.new c))[i]? = _
  rw [List.getElem?_map, <- ea, h1]; rfl
 ·show ds.length = ((aC2 c L).map (Hs.new c)).length
  rw [List.length_map, <- ea]; exact len
 ·exact nd5 ph h34 (Nat.lt_succ_self _) l6
 ·have c : y ∈ [p, h, m4.length, m4.length + 1, m6.length] := c
  have y1 := fr D hD y hy
  have y2 := Dlt D hD y hy
  simp only [List.mem_cons, List.not_mem_nil, or_false] at c
  rcases c with rfl | rfl | rfl | rfl | rfl
  ·exact Nat.not_lt.mpr y1 (Nat.lt_trans ph hlt)
  ·exact Nat.not_lt.mpr y1 hlt
  ·exact Nat.lt_irrefl _ y2
  ·exact Nat.not_lt.mpr (Nat.le_succ _) y2
  ·exact Nat.lt_irrefl _ (Nat.lt_trans y2 (Nat.lt_trans (Nat.lt_succ_self _) l6))
 ·rcases Td.mem.mp c with c | ⟨D, hD, c⟩
  ·have c : x.1 ∈ [p, h, m4.length, m4.length + 1, m6.length] := c
   have xl := (hB x hx).2.1
   simp only [List.mem_cons, List.not_mem_nil, or_false] at c
   rcases c with c | c | c | c | c
   ·exact (hB x hx).1 c
   all_goals rw [c] at xl
   ·exact Nat.lt_irrefl _ xl
   ·exact Nat.lt_irrefl _ (Nat.lt_trans xl h34)
   ·exact Nat.lt_irrefl _ (Nat.lt_trans xl (Nat.lt_trans h34 (Nat.lt_succ_self _)))
   ·exact Nat.lt_irrefl _ (Nat.lt_trans xl (Nat.lt_trans h34 (Nat.lt_trans (Nat.lt_succ_self _) l6)))
  ·exact Nat.not_lt.mpr (fr D hD _ c) (Nat.lt_trans (hB x hx).2.1 hlt)
theorem bZ0 (Z : TF S N) (n : Nat) {c : Int} {L : List Int} (hp : m[p]? = some (.inst (N.C + 2) [])) (hB : ∀ x ∈ B, x.1 ≠ p /\ m[x.1]? = some x.2) (hq : m[q]? = some (.list (L.map V.int))) (c1 : 1 <= c) (c2 : c <= 12) (hL : ∀ x ∈ L, 0 <= x /\ x < c) (nd : L.Nodup) : Wp (run S (n + 4) (N.ki + 13) [.ref p, .int c, .ref q]) m (fun u m' => u = .none /\ Tw m' N p (Tn.new c L) B) nox := by
 rcases Z.H.gM with ⟨y_, gM⟩
 have en : run S (n + 3) N.kN [.int c] m = .ok .none m := by
  exact aB5 Z.H.N_ Z.H.W gM (n + 1) c1 c2
 have ei : aM4 S (.ref q) .list m = .ok true m := by unfold aM4; dsimp only; rw [hq]; rfl
 have plt := aT hp
 refine bH Z.tinit rfl (fD (aE (bD rfl en) (bN (t := false) (eE (aU (q_isi rfl ei))) (a9 (aE (a := .ref m.length) (m' := m ++ [.dict [] 0]) rfl ?_)))))
 have l0 : Le m (m ++ [.dict [] 0]) := .app _ _
 have k0 : (m ++ [.dict [] 0])[m.length]? = some (.dict [] 0) := bO
 generalize m ++ [MObj.dict [] 0] = m0 at l0 k0 ⊢
 refine aD9 L V.int (TL1 q p m.length c L m) (aF (aC rfl (aG (d9 (l0.has hq) ⟨rfl, ⟨[], 0, none, rfl, rfl, k0, l0⟩, ?_, ?_, ?_⟩))))
 ·rintro zs r m' ⟨a, e, x, el, er, kd, l⟩
  exact cI (l.has hq)
 ·rintro z zs r m' ⟨a, e, x, el, er, kd, l⟩
  subst er
  have hz := hL z (by rw [el]; exact List.mem_append_right _ (.head _))
  have za : z ∉ a := fun c => by rw [el] at nd; exact (List.nodup_append.mp nd).2.2 z c z (.head _) rfl
  have al : a.length < lid := by
   have h1 : a.length <= L.length := by rw [el, List.length_append]; exact Nat.le_add_right _ _
   have h2 := aP8 nd hL
   exact Nat.lt_of_le_of_lt (Nat.le_trans h1 (Nat.le_trans h2 (cQ c2))) (by decide)
  refine aC rfl (bN (t := false) (eF (bB (x := false) (eE (aU (bD rfl (bS Z.H.W (n + 2) z)))) (bB (x := false) (bQ2 rfl rfl hz.1 hz.2) (bB (x := false) (aU (aP rfl rfl ?_)) dZ)))) ?_)
  ·show inV (.int z) (.ref m.length) m' = _
   rw [aX kd rfl (eK _ _), cH9]
   rw [show (a.any fun y => y == z) = false from List.any_eq_false.mpr fun x hx e => za (eq_of_beq e ▸ hx)]
  ·refine dJ (aC rfl (aC rfl (aC rfl (dF kd (k := .int z) rfl (eK _ _) (by unfold iD; rw [List.length_map]; exact al) ?_))))
   show Wp _ (m'.set m.length (.dict (put (.int z) (.bool true) (iD a)) (e + 1))) _ _
   rw [cZ9 za]
   exact b9 ⟨a ++ [z], e + 1, some (.int z), by rw [el, List.append_assoc]; rfl, rfl, aY kd, l.set (Nat.le_refl _) _⟩
 ·rintro r m1 ⟨a, e, x, el, er, kd, l⟩
  subst er
  rw [List.append_nil] at el
  subst el
  have hp1 := l.has hp
  refine aB2 (aC rfl (aC rfl ⟨p, N.C + 2, [], rfl, hp1, ?_⟩))
  show Wp _ (m1.set p (.inst (N.C + 2) [(8, .int c)])) _ _
  have hp2 := aY (o' := .inst (N.C + 2) [(8, .int c)]) hp1
  have M2 : Mod [p] m1 (m1.set p (.inst (N.C + 2) [(8, .int c)])) := Mod.set (.head _)
  generalize m1.set p (.inst (N.C + 2) [(8, .int c)]) = m2 at hp2 M2 ⊢
  refine cX rfl rfl hp2 rfl fun m3 i3 n3 f3 L3 M3 => ?_
  have i3 : m3[p]? = some (.inst (N.C + 2) [(8, .int c), (26, .ref m2.length)]) := i3
  have ph : p < m2.length := Nat.lt_of_lt_of_le (aT hp1) M2.1
  have dlt : m.length < m1.length := aT kd
  have dm : m.length ≠ p := (Nat.ne_of_lt plt).symm
  have kd3 : m3[m.length]? = some (.dict (iD L) e) := f3 _ _ dm (M2.has kd fun c => dm (List.mem_singleton.mp c))
  have B3 : ∀ x ∈ B, m3[x.1]? = some x.2 := fun x hx => f3 _ _ (hB x hx).1 (M2.has (l.has (hB x hx).2) fun c => (hB x hx).1 (List.mem_singleton.mp c))
  have Blt : ∀ x ∈ B, x.1 < m2.length := fun x hx => Nat.lt_of_lt_of_le (aT (l.has (hB x hx).2)) M2.1
  refine aD9 (List.range c.toNat) (fun (j : Nat) => V.int (0 + (j : Int))) (TL2 N q p m.length m2.length c L m3) (aF (aC rfl (aG (aE (aO0 (Nat.lt_of_lt_of_le (aC1 (c := 13) (Int.le_trans (by decide) c1) (Int.lt_of_le_of_lt c2 (by decide : (12 : Int) < 13)) (by decide)) (by decide))) ⟨rfl, ⟨[], [], 0, x, rfl, rfl, n3, Mod.refl _ _, fun y_ y_ h => absurd h (by simp), rfl, fun y_ h => absurd h List.not_mem_nil, fun y_ y_ y_ y_ h => absurd h (by simp)⟩, fun y_ y_ y_ y_ => rfl, ?_, ?_⟩))))
  ·exact fun j js r m4 I => bY9 Z n c1 c2 i3 ph (aT n3) kd3 (Nat.ne_of_lt (Nat.lt_of_lt_of_le dlt M2.1)) I
  ·exact fun r m4 I => cL5 Z n i3 ph (aT n3) (fun x hx => ⟨(hB x hx).1, Blt x hx, B3 x hx⟩) I
end
end Mini
namespace Mini
open PySem
theorem unlike_iff {a b : Wo} : bZ a b = true ↔ a.h = b.h /\ a.k = b.k /\ a.n = b.n /\ a.r ≠ b.r := by
 unfold bZ
 rw [Bool.and_eq_true, Bool.and_eq_true, Bool.and_eq_true, beq_iff_eq, beq_iff_eq, beq_iff_eq, bne_iff_ne]
 exact ⟨fun h => ⟨h.1.1.1, h.1.1.2, h.1.2, h.2⟩, fun h => ⟨⟨⟨h.1, h.2.1⟩, h.2.2.1⟩, h.2.2.2⟩⟩
theorem aA8 : eD ≠ dS := by decide
structure Hs.Fine (s : Hs) (P : Wo -> Prop) : Prop where
 kn : ∀ w ∈ s.known, P w
 ow : ∀ w, P w -> w.h = s.own -> w ∈ s.known
 my : ∀ w ∈ s.known, w.h = s.own -> (w.k = dS /\ w.n ∈ s.marked) \/ (w.k = eD /\ w.n < s.onw)
 un : ∀ a ∈ s.known, ∀ b ∈ s.known, a.h = s.own -> ¬ bZ a b = true
 ro : (s.rows.map (·.1)).Nodup
 rk : ∀ x ∈ s.rows, ∀ w ∈ x.2.2, w ∈ s.known /\ w = mrk x.1 x.2.1 w.h
 rd : ∀ x ∈ s.rows, (x.2.2.map (·.h)).Nodup
 re : ∀ x ∈ s.rows, bR s.cnt <= (x.2.2.length : Int)
 na : (s.named.map (·.1)).Nodup
 nk : ∀ x ∈ s.named, x.2.1 ∈ s.known /\ x.2.2 ∈ s.known /\ bZ x.2.1 x.2.2 = true /\ x.1 = x.2.2.h
theorem Hs.Fine.imp {s : Hs} {P P' : Wo -> Prop} (h : s.Fine P) (k : ∀ w, P w -> P' w) (l : ∀ w, P' w -> w.h = s.own -> w ∈ s.known) : s.Fine P' :=
 ⟨fun w q => k w (h.kn w q), l, h.my, h.un, h.ro, h.rk, h.rd, h.re, h.na, h.nk⟩
set_option tactic.hygienic true in
theorem mem_addW {w x : Wo} {l : List Wo} : x ∈ aL0 w l ↔ x = w \/ x ∈ l := by
 unfold aL0
 split
 ·rename_i h
  exact ⟨.inr, fun q => q.elim (fun e => e ▸ h) id⟩
 ·rw [List.mem_append, List.mem_singleton]; exact Or.comm
section
variable {s : Hs} {P : Wo -> Prop} {w : Wo}
theorem Hs.Fine.marking (h : s.Fine P) : (s.marking w).1.Fine (fun x => P x \/ x ∈ (s.marking w).2) := by
 unfold Hs.marking
 by_cases z : w.k ≠ eD \/ w.n ∈ s.marked
 ·rw [if_pos z]
  exact h.imp (fun x q => .inl q) fun x q e => by
   rcases q with q | q
   ·exact h.ow x q e
   ·cases q
 ·rw [if_neg z]
  have zn : w.n ∉ s.marked := fun c => z (.inr c)
  have nu : ∀ b ∈ s.known, ¬ (b.h = s.own /\ b.k = dS /\ b.n = w.n) := fun b hb c => by
   rcases h.my b hb c.1 with q | q
   ·exact zn (c.2.2 ▸ q.2)
   ·exact aA8 (q.1.symm.trans c.2.1)
  refine ⟨fun x q => ?_, fun x q e => ?_, fun x q e => ?_, fun a qa b qb e => ?_, h.ro, fun x q v hv => ⟨mem_addW.mpr (.inr (h.rk x q v hv).1), (h.rk x q v hv).2⟩, h.rd, h.re, h.na, fun x q => ?_⟩
  ·rcases mem_addW.mp q with rfl | q
   ·exact .inr (.head _)
   ·exact .inl (h.kn x q)
  ·rcases q with q | q
   ·exact mem_addW.mpr (.inr (h.ow x q e))
   ·exact mem_addW.mpr (.inl (List.mem_singleton.mp q))
  ·rcases mem_addW.mp q with rfl | q
   ·exact .inl ⟨rfl, List.mem_append_right _ (.head _)⟩
   ·exact (h.my x q e).imp (fun y => ⟨y.1, List.mem_append_left _ y.2⟩) id
  ·intro u
   have u' := unlike_iff.mp u
   rcases mem_addW.mp qa with rfl | qa
   ·rcases mem_addW.mp qb with rfl | qb
    ·exact u'.2.2.2 rfl
    ·exact nu b qb ⟨u'.1.symm, u'.2.1.symm, u'.2.2.1.symm⟩
   ·rcases mem_addW.mp qb with rfl | qb
    ·exact nu a qa ⟨u'.1, u'.2.1, u'.2.2.1⟩
    ·exact h.un a qa b qb e u
  ·have := h.nk x q
   exact ⟨mem_addW.mpr (.inr this.1), mem_addW.mpr (.inr this.2.1), this.2.2⟩
theorem aT9 {n : Int} {r : Str} {v : Wo} (h : v ∈ s.marks n r) : v ∈ s.known /\ v = mrk n r v.h := by
 unfold Hs.marks at h
 have h := List.mem_filter.mp h
 rcases List.mem_map.mp h.1 with ⟨j, y_, e⟩
 refine ⟨of_decide_eq_true h.2, ?_⟩
 rw [<- e]; rfl
theorem cC1 {n : Int} {r : Str} : ((s.marks n r).map (·.h)).Nodup := by
 unfold Hs.marks
 refine List.Pairwise.sublist (List.Sublist.map _ List.filter_sublist) ?_
 rw [List.map_map]
 refine List.pairwise_map.mpr ?_
 refine List.Pairwise.imp (R := fun a b => a ≠ b) ?_ List.nodup_range
 intro a b q e
 exact q (Int.ofNat_inj.mp e)
theorem Hs.Fine.writing (h : s.Fine P) {n : Int} {r : Str} : (s.writing n r).1.Fine P /\ ∀ v ∈ (s.writing n r).2, v ∈ s.known := by
 unfold Hs.writing
 by_cases z : ((s.marks n r).length : Int) < bR s.cnt \/ s.wrote n = true
 ·rw [if_pos z]; exact ⟨h, fun v q => nomatch q⟩
 ·rw [if_neg z]
  have zw : n ∉ s.rows.map (·.1) := fun c => z (.inr (by
   rcases List.mem_map.mp c with ⟨x, hx, e⟩
   exact List.any_eq_true.mpr ⟨x, hx, beq_iff_eq.mpr e⟩))
  have ze : bR s.cnt <= ((s.marks n r).length : Int) := Int.not_lt.mp fun c => z (.inl c)
  refine ⟨⟨h.kn, h.ow, h.my, h.un, ?_, fun x q => ?_, fun x q => ?_, fun x q => ?_, h.na, h.nk⟩, fun v q => (aT9 q).1⟩
  ·rw [List.map_append]
   exact List.nodup_append.mpr ⟨h.ro, List.pairwise_singleton _ _, fun a qa b qb e => zw (by rw [List.mem_singleton.mp qb] at e; rw [e] at qa; exact qa)⟩
  all_goals rcases List.mem_append.mp q with q | q
  ·exact h.rk x q
  ·rw [List.mem_singleton.mp q]; exact fun v hv => aT9 hv
  ·exact h.rd x q
  ·rw [List.mem_singleton.mp q]; exact cC1
  ·exact h.re x q
  ·rw [List.mem_singleton.mp q]; exact ze
theorem Hs.Fine.naming (h : s.Fine P) {l : List Wo} (hw : w ∈ s.known) (hl : ∀ a ∈ l, a ∈ s.known /\ bZ a w = true) : (s.naming w l).1.Fine P /\ ∀ v ∈ (s.naming w l).2, v ∈ s.known := by
 cases l with
 | nil => exact ⟨h, fun v q => nomatch q⟩
 | cons a l =>
  unfold Hs.naming
  dsimp only
  by_cases z : (s.named.any fun x => x.1 == w.h) = true
  ·rw [if_pos z]; exact ⟨h, fun v q => nomatch q⟩
  ·rw [if_neg z]
   have zw : w.h ∉ s.named.map (·.1) := fun c => z (by
    rcases List.mem_map.mp c with ⟨x, hx, e⟩
    exact List.any_eq_true.mpr ⟨x, hx, beq_iff_eq.mpr e⟩)
   have ha := hl a (.head _)
   refine ⟨⟨h.kn, h.ow, h.my, h.un, h.ro, h.rk, h.rd, h.re, ?_, fun x q => ?_⟩, bF ha.1 (bF hw bT7)⟩
   ·rw [List.map_append]
    exact List.nodup_append.mpr ⟨h.na, List.pairwise_singleton _ _, fun a qa b qb e => zw (by rw [List.mem_singleton.mp qb] at e; rw [e] at qa; exact qa)⟩
   ·rcases List.mem_append.mp q with q | q
    ·exact h.nk x q
    ·rw [List.mem_singleton.mp q]; exact ⟨ha.1, hw, ha.2, rfl⟩
theorem aP3 (s : Hs) (w : Wo) : (∀ x ∈ s.known, x ∈ (s.marking w).1.known) /\ (∀ x ∈ (s.marking w).2, x ∈ (s.marking w).1.known /\ x = mrk w.n w.r s.own) := by
 unfold Hs.marking
 split
 ·exact ⟨fun x q => q, fun x q => nomatch q⟩
 ·exact ⟨fun x q => mem_addW.mpr (.inr q), fun x q => by rw [List.mem_singleton.mp q]; exact ⟨mem_addW.mpr (.inl rfl), rfl⟩⟩
theorem aN4 (s : Hs) (n : Int) (r : Str) : (s.writing n r).1.known = s.known := by
 unfold Hs.writing
 split <;> rfl
theorem aT7 (s : Hs) (w : Wo) (l : List Wo) : (s.naming w l).1.known = s.known := by
 cases l with
 | nil => rfl
 | cons a l => unfold Hs.naming; dsimp only; split <;> rfl
theorem Hs.Fine.heard (hw : P w) (nk : w ∉ s.known) (h : ({ s with known := s.known ++ [w] } : Hs).Fine P) : (s.hear w).1.Fine (fun x => P x \/ x ∈ (s.hear w).2) /\ ∀ x ∈ (s.hear w).2, P x \/ x = mrk w.n w.r s.own := by
 unfold Hs.hear
 rw [if_neg nk]
 dsimp only
 have h1 := h.marking (w := w)
 have k1 := aP3 { s with known := s.known ++ [w] } w
 have h2 := h1.writing (n := w.n) (r := w.r)
 have w1 : w ∈ (({ s with known := s.known ++ [w] } : Hs).marking w).1.known := k1.1 w (List.mem_append_right _ (.head _))
 have wk := aN4 (({ s with known := s.known ++ [w] } : Hs).marking w).1 w.n w.r
 have h3 := h2.1.naming (w := w) (l := s.known.filter fun a => bZ a w) (by rw [wk]; exact w1) fun a q => by
  have q := List.mem_filter.mp q
  exact ⟨by rw [wk]; exact k1.1 a (List.mem_append_left _ q.1), q.2⟩
 have nk' := aT7 ((({ s with known := s.known ++ [w] } : Hs).marking w).1.writing w.n w.r).1 w (s.known.filter fun a => bZ a w)
 have o1 := (cJ { s with known := s.known ++ [w] } w).2.2.2.1
 have told : ∀ x ∈ (({ s with known := s.known ++ [w] } : Hs).marking w).2 ++ ((({ s with known := s.known ++ [w] } : Hs).marking w).1.writing w.n w.r).2 ++ (((({ s with known := s.known ++ [w] } : Hs).marking w).1.writing w.n w.r).1.naming w (s.known.filter fun a => bZ a w)).2, x ∈ (({ s with known := s.known ++ [w] } : Hs).marking w).1.known := fun x q => by
  rcases List.mem_append.mp q with q | q
  ·rcases List.mem_append.mp q with q | q
   ·exact (k1.2 x q).1
   ·exact h2.2 x q
  ·rw [<- wk]; exact h3.2 x q
 refine ⟨h3.1.imp (fun x q => ?_) fun x q e => ?_, fun x q => ?_⟩
 ·rcases q with q | q
  ·exact .inl q
  ·exact .inr (List.mem_append_left _ (List.mem_append_left _ q))
 ·rw [nk', wk]
  rcases q with q | q
  ·refine h1.ow x (.inl q) ?_
   rw [e, (aD0 _ w _).2.1, (dX _ w.n w.r).2.2.1]
  ·exact told x q
 ·have := h1.kn x (told x q)
  rcases this with q | q
  ·exact .inl q
  ·exact .inr (k1.2 x q).2
theorem Hs.Fine.hear (h : s.Fine P) (hw : P w) : (s.hear w).1.Fine (fun x => P x \/ x ∈ (s.hear w).2) /\ ∀ x ∈ (s.hear w).2, P x \/ x = mrk w.n w.r s.own := by
 by_cases z : w ∈ s.known
 ·unfold Hs.hear
  rw [if_pos z]
  exact ⟨h.imp (fun x q => .inl q) fun x q e => q.elim (fun q => h.ow x q e) fun q => absurd q List.not_mem_nil, fun x q => nomatch q⟩
 ·have ho : w.h ≠ s.own := fun c => z (h.ow w hw c)
  refine Hs.Fine.heard hw z ⟨fun x q => ?_, fun x q e => List.mem_append_left _ (h.ow x q e), fun x q e => ?_, fun a qa b qb e u => ?_, h.ro, fun x q v hv => ⟨List.mem_append_left _ (h.rk x q v hv).1, (h.rk x q v hv).2⟩, h.rd, h.re, h.na, fun x q => ?_⟩
  ·rcases List.mem_append.mp q with q | q
   ·exact h.kn x q
   ·rw [List.mem_singleton.mp q]; exact hw
  ·rcases List.mem_append.mp q with q | q
   ·exact h.my x q e
   ·rw [List.mem_singleton.mp q] at e; exact absurd e ho
  ·have u' := unlike_iff.mp u
   rcases List.mem_append.mp qa with qa | qa
   ·rcases List.mem_append.mp qb with qb | qb
    ·exact h.un a qa b qb e u
    ·rw [List.mem_singleton.mp qb] at u'; exact ho (u'.1.symm.trans e)
   ·rw [List.mem_singleton.mp qa] at e; exact ho e
  ·have := h.nk x q
   exact ⟨List.mem_append_left _ this.1, List.mem_append_left _ this.2.1, this.2.2⟩
theorem Hs.Fine.call (h : s.Fine P) (hc : 0 < s.cnt) (r : Str) : (s.call r).1.Fine (fun x => P x \/ x ∈ (s.call r).2) /\ ∀ x ∈ (s.call r).2, P x \/ x = ⟨eD, s.onw, r, s.own⟩ \/ x = mrk s.onw r s.own := by
 have nk : (⟨eD, s.onw, r, s.own⟩ : Wo) ∉ s.known := fun c => by
  rcases h.my _ c rfl with q | q
  ·exact aA8 q.1
  ·exact Int.lt_irrefl _ q.2
 have nu : ∀ b ∈ s.known, ¬ (b.h = s.own /\ b.k = eD /\ b.n = s.onw) := fun b hb c => by
  rcases h.my b hb c.1 with q | q
  ·exact aA8 (c.2.1.symm.trans q.1)
  ·exact Int.ne_of_lt q.2 c.2.2
 have h1 : ({ ({ s with onw := s.onw + s.cnt } : Hs) with known := s.known ++ [⟨eD, s.onw, r, s.own⟩] } : Hs).Fine (fun x => P x \/ x = ⟨eD, s.onw, r, s.own⟩) := by
  refine ⟨fun x q => ?_, fun x q e => ?_, fun x q e => ?_, fun a qa b qb e u => ?_, h.ro, fun x q v hv => ⟨List.mem_append_left _ (h.rk x q v hv).1, (h.rk x q v hv).2⟩, h.rd, h.re, h.na, fun x q => ?_⟩
  ·rcases List.mem_append.mp q with q | q
   ·exact .inl (h.kn x q)
   ·exact .inr (List.mem_singleton.mp q)
  ·rcases q with q | q
   ·exact List.mem_append_left _ (h.ow x q e)
   ·rw [q]; exact List.mem_append_right _ (.head _)
  ·rcases List.mem_append.mp q with q | q
   ·exact (h.my x q e).imp id fun y => ⟨y.1, Int.lt_trans y.2 (Int.lt_add_of_pos_right _ hc)⟩
   ·rw [List.mem_singleton.mp q]; exact .inr ⟨rfl, Int.lt_add_of_pos_right _ hc⟩
  ·have u' := unlike_iff.mp u
   rcases List.mem_append.mp qa with qa | qa
   ·rcases List.mem_append.mp qb with qb | qb
    ·exact h.un a qa b qb e u
    ·rw [List.mem_singleton.mp qb] at u'; exact nu a qa ⟨u'.1, u'.2.1, u'.2.2.1⟩
   ·rw [List.mem_singleton.mp qa] at u'
    rcases List.mem_append.mp qb with qb | qb
    ·exact nu b qb ⟨u'.1.symm, u'.2.1.symm, u'.2.2.1.symm⟩
    ·rw [List.mem_singleton.mp qb] at u'; exact u'.2.2.2 rfl
  ·have := h.nk x q
   exact ⟨List.mem_append_left _ this.1, List.mem_append_left _ this.2.1, this.2.2⟩
 have h2 := Hs.Fine.heard (s := { s with onw := s.onw + s.cnt }) (w := ⟨eD, s.onw, r, s.own⟩) (.inr rfl) nk h1
 refine ⟨h2.1.imp (fun x q => ?_) fun x q e => ?_, fun x q => ?_⟩
 ·rcases q with (q | q) | q
  ·exact .inl q
  ·rw [q]; exact .inr (.head _)
  ·exact .inr (.tail _ q)
 ·refine h2.1.ow x ?_ e
  rcases q with q | q
  ·exact .inl (.inl q)
  ·rcases List.mem_cons.mp q with q | q
   ·exact .inl (.inr q)
   ·exact .inr q
 ·rcases List.mem_cons.mp q with q | q
  ·exact .inr (.inl q)
  ·rcases h2.2 x q with (q | q) | q
   ·exact .inl q
   ·exact .inr (.inl q)
   ·exact .inr (.inr q)
end
end Mini
namespace Mini
open PySem
theorem bE5 {x : Wo} : ∀ {ws l : List Wo}, x ∈ ws.foldl (fun l w => aL0 w l) l ↔ x ∈ l \/ x ∈ ws
 | [], l => ⟨.inl, fun q => q.elim id fun q => nomatch q⟩
 | w :: ws, l => by
  rw [List.foldl_cons, bE5, mem_addW, List.mem_cons]
  exact ⟨fun q => by rcases q with (q | q) | q; exact .inr (.inl q); exact .inl q; exact .inr (.inr q), fun q => by rcases q with q | q | q; exact .inl (.inr q); exact .inl (.inl q); exact .inr q⟩
structure Tn.Fine (t : Tn) (Ns : List Int) : Prop where
 hs : ∀ s ∈ t.hs, s.Fine (· ∈ t.said)
 le : ∀ x ∈ t.lets, x.2.w ∈ t.said
 wo : ∀ w ∈ t.said, w.Ok t.cnt
 ns : ∀ w ∈ t.said, w.n ∈ Ns
 rg : ∀ s ∈ t.hs, 0 <= s.own /\ s.own < t.cnt /\ s.cnt = t.cnt
 on : ∀ s ∈ t.hs, (s.onw - s.own) % t.cnt = 0 /\ 0 <= s.onw /\ s.onw <= 12 * ((Ns.length : Int) + 1)
theorem cL4 {h : Int} {w : Wo} {t : Tn} {j : Nat} {x : Int × Lr} (q : x ∈ (t.to h w j).lets) : x ∈ t.lets \/ x.2.w = w := by
 unfold Tn.to at q
 split at q
 ·exact .inl q
 ·rcases List.mem_append.mp q with q | q
  ·exact .inl q
  ·rw [List.mem_singleton.mp q]; exact .inr rfl
theorem bD0 {h : Int} {w : Wo} : ∀ {l : List Nat} {t : Tn} {x : Int × Lr}, x ∈ (l.foldl (Tn.to h w) t).lets -> x ∈ t.lets \/ x.2.w = w
 | [], _, _, q => .inl q
 | j :: l, t, x, q => (bD0 (l := l) q).elim cL4 .inr
theorem aS0 {h : Int} : ∀ {ws : List Wo} {t : Tn} {x : Int × Lr}, x ∈ (t.tell h ws).lets -> x ∈ t.lets \/ x.2.w ∈ ws
 | [], _, _, q => .inl q
 | w :: ws, t, x, q => by
  rcases aS0 (ws := ws) q with q | q
  ·rcases bD0 q with q | q
   ·exact .inl q
   ·exact .inr (q ▸ .head _)
  ·exact .inr (.tail _ q)
section
variable {t : Tn} {Ns : List Int} {b i : Nat} {s : Hs}
theorem bO0 (h : Int) (ws : List Wo) (t : Tn) {x : Wo} : x ∈ (t.tell h ws).said ↔ x ∈ t.said \/ x ∈ ws := by rw [(b8 h ws t).2.2]; exact bE5
theorem Tn.Fine.turn {Ns' : List Int} (F : t.Fine Ns) (od : (t.hs.map (·.own)).Nodup) (hs : t.hs[i]? = some s) {x : Hs × List Wo} (ho : x.1.own = s.own) (hc : x.1.cnt = s.cnt) (h1 : x.1.Fine (fun w => w ∈ t.said \/ w ∈ x.2)) (h2 : ∀ w ∈ x.2, w ∈ t.said \/ (w.h = s.own /\ w.Ok t.cnt /\ w.n ∈ Ns')) (hn : ∀ y ∈ Ns, y ∈ Ns') (hl : Ns.length <= Ns'.length) (hw : (x.1.onw - x.1.own) % t.cnt = 0 /\ 0 <= x.1.onw /\ x.1.onw <= 12 * ((Ns'.length : Int) + 1)) : (t.turn i x).Fine Ns' := by
 have cn : (t.turn i x).cnt = t.cnt := (b8 _ _ _).1
 have eh : (t.turn i x).hs = t.hs.set i x.1 := (b8 _ _ _).2.1
 have sd : ∀ w, w ∈ (t.turn i x).said ↔ w ∈ t.said \/ w ∈ x.2 := fun w => bO0 _ _ _
 have hsm := List.mem_of_getElem? hs
 have lt := (List.getElem?_eq_some_iff.mp hs).1
 have get : ∀ y ∈ t.hs.set i x.1, y = x.1 \/ (y ∈ t.hs /\ y.own ≠ s.own) := fun y hy => by
  rcases List.getElem?_of_mem hy with ⟨j, e⟩
  by_cases q : i = j
  ·subst q
   rw [List.getElem?_set_self lt] at e
   exact .inl (Option.some.inj e).symm
  ·rw [List.getElem?_set_ne q] at e
   refine .inr ⟨List.mem_of_getElem? e, fun c => ?_⟩
   have P := List.pairwise_iff_getElem.mp od
   rcases List.getElem?_eq_some_iff.mp e with ⟨l1, e1⟩
   rcases List.getElem?_eq_some_iff.mp hs with ⟨l2, e2⟩
   rcases Nat.lt_or_gt_of_ne q with z | z
   ·exact P i j (by simpa using l2) (by simpa using l1) z (by simp [e1, e2, c])
   ·exact P j i (by simpa using l1) (by simpa using l2) z (by simp [e1, e2, c])
 refine ⟨fun y hy => ?_, fun z hz => ?_, fun w q => ?_, fun w q => ?_, fun y hy => ?_, fun y hy => ?_⟩
 ·rw [eh] at hy
  rcases get y hy with rfl | ⟨hy, ne⟩
  ·exact h1.imp (fun w q => (sd w).mpr q) fun w q e => h1.ow w ((sd w).mp q) e
  ·have hy1 := F.hs y hy
   refine hy1.imp (fun w q => (sd w).mpr (.inl q)) fun w q e => ?_
   rcases (sd w).mp q with q | q
   ·exact hy1.ow w q e
   ·rcases h2 w q with q | q
    ·exact hy1.ow w q e
    ·exact absurd (e.symm.trans q.1) ne
 ·rw [sd]
  rcases aS0 hz with q | q
  ·exact .inl (F.le z q)
  ·exact .inr q
 ·rw [cn]
  rcases (sd w).mp q with q | q
  ·exact F.wo w q
  ·rcases h2 w q with q | q
   ·exact F.wo w q
   ·exact q.2.1
 ·rcases (sd w).mp q with q | q
  ·exact hn _ (F.ns w q)
  ·rcases h2 w q with q | q
   ·exact hn _ (F.ns w q)
   ·exact q.2.2
 ·rw [cn]
  rw [eh] at hy
  rcases get y hy with rfl | ⟨hy, ne⟩
  ·rw [ho, hc]; exact F.rg s hsm
  ·exact F.rg y hy
 ·rw [cn]
  rw [eh] at hy
  rcases get y hy with rfl | ⟨hy, ne⟩
  ·exact hw
  ·have := F.on y hy
   exact ⟨this.1, this.2.1, Int.le_trans this.2.2 (Int.mul_le_mul_of_nonneg_left (Int.add_le_add_right (Int.ofNat_le.mpr hl) 1) (by decide))⟩
theorem cH4 {c : Int} {w : Wo} {o : Int} (h : w.Ok c) (o0 : 0 <= o) (o1 : o < c) : (mrk w.n w.r o).Ok c := ⟨.inr rfl, h.n0, h.n1, h.r, o0, o1, fun e => absurd e.symm aA8⟩
theorem Tn.Fine.hear (F : t.Fine Ns) (od : (t.hs.map (·.own)).Nodup) (hs : t.hs[i]? = some s) {w : Wo} (hw : w ∈ t.said) : (t.turn i (s.hear w)).Fine Ns := by
 have hsm := List.mem_of_getElem? hs
 have h := (F.hs s hsm).hear hw
 have rg := F.rg s hsm
 have hc := dL s w
 refine F.turn od hs hc.2.1 hc.1 h.1 (fun x q => ?_) (fun y q => q) (Nat.le_refl _) ?_
 ·rcases h.2 x q with q | q
  ·exact .inl q
  ·rw [q]; exact .inr ⟨rfl, cH4 (F.wo w hw) rg.1 rg.2.1, F.ns w hw⟩
 ·rw [hc.2.1, hc.2.2.1]; exact F.on s hsm
theorem Tn.Fine.call (F : t.Fine Ns) (od : (t.hs.map (·.own)).Nodup) (hs : t.hs[i]? = some s) {r : Str} (hr : bP8 (.str r) = true) (hn : Ns.length <= 100) (c12 : t.cnt <= 12) : (t.turn i (s.call r)).Fine (s.onw :: Ns) := by
 have hsm := List.mem_of_getElem? hs
 have rg := F.rg s hsm
 have on := F.on s hsm
 have h := (F.hs s hsm).call (by rw [rg.2.2]; exact Int.lt_of_le_of_lt rg.1 rg.2.1) r
 have hc := dL { s with onw := s.onw + s.cnt } ⟨eD, s.onw, r, s.own⟩
 have c1 : (s.call r).1.own = s.own := hc.2.1
 have c2 : (s.call r).1.onw = s.onw + s.cnt := hc.2.2.1
 have sk : (⟨eD, s.onw, r, s.own⟩ : Wo).Ok t.cnt := ⟨.inl rfl, on.2.1, Int.le_trans on.2.2 (by have : (Ns.length : Int) <= 100 := Int.ofNat_le.mpr hn; omega), hr, rg.1, rg.2.1, fun y_ => on.1⟩
 refine F.turn od hs c1 hc.1 h.1 (fun x q => ?_) (fun y q => .tail _ q) (Nat.le_succ _) ?_
 ·rcases h.2 x q with q | q | q
  ·exact .inl q
  ·rw [q]; exact .inr ⟨rfl, sk, .head _⟩
  ·rw [q]; exact .inr ⟨rfl, cH4 sk rg.1 rg.2.1, .head _⟩
 ·rw [c1, c2, rg.2.2, List.length_cons]
  refine ⟨?_, ?_, ?_⟩
  ·rw [show s.onw + t.cnt - s.own = s.onw - s.own + t.cnt by omega, Int.add_emod_right]; exact on.1
  ·have := on.2.1; have := rg.1; have := rg.2.1; omega
  ·have := on.2.2; push_cast; omega
theorem Tn.Fine.take (F : t.Fine Ns) (k : Int) : (t.take k).Fine Ns := ⟨F.hs, fun x q => F.le x (List.mem_filter.mp q).1, F.wo, F.ns, F.rg, F.on⟩
theorem Tn.Fine.more (F : t.Fine Ns) (n : Int) : t.Fine (n :: Ns) := by
 refine ⟨F.hs, F.le, F.wo, fun w q => .tail _ (F.ns w q), F.rg, fun s hs => ?_⟩
 have := F.on s hs
 refine ⟨this.1, this.2.1, Int.le_trans this.2.2 (Int.mul_le_mul_of_nonneg_left (Int.add_le_add_right (Int.ofNat_le.mpr ?_) 1) (by decide))⟩
 rw [List.length_cons]; exact Nat.le_succ _
theorem Tn.Fine.lie (F : t.Fine Ns) {h r : Int} {w : Wo} (hl : ∀ s ∈ t.hs, s.own ≠ h) (hw : w.Ok t.cnt) (hf : w.h = h \/ w ∈ t.said) (hn : w.n ∈ Ns) : ((t.say w).send ⟨h, r, w⟩).Fine Ns := by
 refine ⟨fun s hs => (F.hs s hs).imp (fun x q => mem_addW.mpr (.inr q)) fun x q e => ?_, fun x q => ?_, fun x q => ?_, fun x q => ?_, F.rg, F.on⟩
 ·rcases mem_addW.mp q with rfl | q
  ·rcases hf with hf | hf
   ·exact absurd (e.symm.trans hf) (hl s hs)
   ·exact (F.hs s hs).ow x hf e
  ·exact (F.hs s hs).ow x q e
 ·rcases List.mem_append.mp q with q | q
  ·exact mem_addW.mpr (.inr (F.le x q))
  ·rw [List.mem_singleton.mp q]; exact mem_addW.mpr (.inl rfl)
 ·rcases mem_addW.mp q with rfl | q
  ·exact hw
  ·exact F.wo x q
 ·rcases mem_addW.mp q with rfl | q
  ·exact hn
  ·exact F.ns x q
theorem Tn.Fine.rows (F : t.Fine Ns) (hs : s ∈ t.hs) (c1 : 1 <= t.cnt) : s.rows.length <= Ns.length := by
 have f := F.hs s hs
 have h : s.rows.map (·.1) ⊆ Ns := fun y hy => by
  rcases List.mem_map.mp hy with ⟨x, hx, rfl⟩
  have e := f.re x hx
  have ne : x.2.2 ≠ [] := fun c => by
   rw [c] at e
   have e : bR s.cnt <= 0 := e
   unfold bR at e
   rw [(F.rg s hs).2.2] at e
   omega
  rcases List.exists_mem_of_ne_nil _ ne with ⟨w, hw⟩
  have := f.rk x hx w hw
  have hn := F.ns w (f.kn w this.1)
  rw [this.2] at hn
  exact hn
 have := f.ro.length_le_of_subset h
 rw [List.length_map] at this
 exact this
end
end Mini
namespace Mini
open PySem
noncomputable def Tn.As (t : Tn) : Prop := (t.lets.map (·.1)).Pairwise (· < ·) /\ ∀ x ∈ t.lets, x.1 < t.given
theorem Tn.As.send {t : Tn} (h : t.As) (l : Lr) : (t.send l).As := by
 refine ⟨?_, fun x hx => ?_⟩
 ·show ((t.lets ++ [(t.given, l)]).map (·.1)).Pairwise _
  rw [List.map_append]
  refine List.pairwise_append.mpr ⟨h.1, List.pairwise_singleton _ _, fun a ha b hb => ?_⟩
  rcases List.mem_map.mp ha with ⟨x, hx, rfl⟩
  rw [List.mem_singleton.mp hb]
  exact h.2 x hx
 ·rcases List.mem_append.mp hx with hx | hx
  ·exact Int.lt_trans (h.2 x hx) (Int.lt_succ _)
  ·rw [List.mem_singleton.mp hx]; exact Int.lt_succ _
theorem Tn.As.tos {h : Int} {w : Wo} : ∀ {l : List Nat} {t : Tn}, t.As -> (l.foldl (Tn.to h w) t).As
 | [], _, a => a
 | j :: l, t, a => Tn.As.tos (l := l) (by
  unfold Tn.to
  split
  ·exact a
  ·exact a.send _)
theorem Tn.As.tell {h : Int} : ∀ {ws : List Wo} {t : Tn}, t.As -> (t.tell h ws).As
 | [], _, a => a
 | w :: ws, t, a => Tn.As.tell (ws := ws) (Tn.As.tos (t := t.say w) a)
theorem bN6 {h : Int} {w : Wo} {x : Int × Lr} : ∀ {l : List Nat} {t : Tn}, x ∈ t.lets -> x ∈ (l.foldl (Tn.to h w) t).lets
 | [], _, a => a
 | j :: l, t, a => bN6 (l := l) (by
  unfold Tn.to
  split
  ·exact a
  ·exact List.mem_append_left _ a)
theorem bD1 {h : Int} {x : Int × Lr} : ∀ {ws : List Wo} {t : Tn}, x ∈ t.lets -> x ∈ (t.tell h ws).lets
 | [], _, a => a
 | w :: ws, t, a => bD1 (ws := ws) (bN6 (t := t.say w) a)
structure Tn.Ext (t t' : Tn) : Prop where
 cnt : t'.cnt = t.cnt
 own : t'.hs.map (·.own) = t.hs.map (·.own)
 rows : ∀ (i : Nat) (s : Hs), t.hs[i]? = some s -> ∃ s', t'.hs[i]? = some s' /\ ∃ l, s'.rows = s.rows ++ l
theorem Tn.Ext.refl (t : Tn) : t.Ext t := ⟨rfl, rfl, fun i s h => ⟨s, h, [], (List.append_nil _).symm⟩⟩
theorem Tn.Ext.trans {a b c : Tn} (h : a.Ext b) (k : b.Ext c) : a.Ext c := by
 refine ⟨k.cnt.trans h.cnt, k.own.trans h.own, fun i s e => ?_⟩
 rcases h.rows i s e with ⟨s1, e1, l1, r1⟩
 rcases k.rows i s1 e1 with ⟨s2, e2, l2, r2⟩
 exact ⟨s2, e2, l1 ++ l2, by rw [r2, r1, List.append_assoc]⟩
theorem aV2 (s : Hs) (w : Wo) : ∃ l, (s.hear w).1.rows = s.rows ++ l := by
 unfold Hs.hear
 split
 ·exact ⟨[], (List.append_nil _).symm⟩
 ·dsimp only
  have h1 := (cJ { s with known := s.known ++ [w] } w).2.1
  have h2 : ∀ (s : Hs) (n : Int) (r : Str), ∃ l, (s.writing n r).1.rows = s.rows ++ l := fun s n r => by
   unfold Hs.writing
   split
   ·exact ⟨[], (List.append_nil _).symm⟩
   ·exact ⟨_, rfl⟩
  have h3 : ∀ (s : Hs) (w : Wo) (l : List Wo), (s.naming w l).1.rows = s.rows := fun s w l => by
   cases l with
   | nil => rfl
   | cons a l => unfold Hs.naming; dsimp only; split <;> rfl
  rcases h2 (({ s with known := s.known ++ [w] } : Hs).marking w).1 w.n w.r with ⟨l, e⟩
  exact ⟨l, by rw [h3, e, h1]⟩
structure Tn.In (t : Tn) (L : List Int) (Ns : List Int) (b : Nat) : Prop where
 fine : t.Fine Ns
 ok : t.Ok b
 hon : t.hs.map (·.own) = aC2 t.cnt L
theorem Tn.In.more {t : Tn} {L Ns : List Int} {b : Nat} (h : t.In L Ns b) (n : Int) : t.In L (n :: Ns) b := ⟨h.fine.more n, h.ok, h.hon⟩
theorem Tn.Ok.mono {t : Tn} {b c : Nat} (h : t.Ok b) (k : b <= c) : t.Ok c := ⟨h.lk.mono k, h.c1, h.c2, h.on, fun s q => ⟨(h.hc s q).1, Nat.le_trans (h.hc s q).2 k⟩, h.as⟩
theorem Tn.In.mono {t : Tn} {L Ns : List Int} {b c : Nat} (h : t.In L Ns b) (k : b <= c) : t.In L Ns c := ⟨h.fine, h.ok.mono k, h.hon⟩
section
variable {t : Tn} {L Ns : List Int} {b i : Nat} {s : Hs}
theorem Tn.Ok.turn (O : t.Ok b) (hs : t.hs[i]? = some s) {x : Hs × List Wo} (ho : x.1.own = s.own) (hc : x.1.cnt = s.cnt) (hz : x.1.sz <= s.sz + 5) (hl : x.2.length <= 16) : (t.turn i x).Ok (b + 300) := by
 have hsm := List.mem_of_getElem? hs
 have sc := O.hc s hsm
 have O1 : Tn.Lk { t with hs := t.hs.set i x.1 } b := ⟨O.lk.lt, O.lk.ll, O.lk.sl⟩
 have cn : (t.turn i x).cnt = t.cnt := (b8 _ _ _).1
 have eh : (t.turn i x).hs = t.hs.set i x.1 := (b8 _ _ _).2.1
 refine ⟨(Tn.Lk.tell x.1.own x.2 O1 O.c2).mono (Nat.add_le_add_left (Nat.le_trans (Nat.mul_le_mul_left 13 hl) (by decide)) b), by rw [cn]; exact O.c1, by rw [cn]; exact O.c2, ?_, fun y hy => ?_, (Tn.As.tell (t := { t with hs := t.hs.set i x.1 }) ⟨O.as, O.lk.lt⟩).1⟩
 ·rw [eh, List.map_set, ho, aA7 (by rw [List.getElem?_map, hs]; rfl)]; exact O.on
 ·rw [cn]
  rw [eh] at hy
  rcases List.mem_or_eq_of_mem_set hy with hy | rfl
  ·exact ⟨(O.hc y hy).1, Nat.le_trans (O.hc y hy).2 (Nat.le_add_right _ _)⟩
  ·exact ⟨hc.trans sc.1, Nat.le_trans hz (Nat.add_le_add sc.2 (by decide))⟩
theorem Tn.Ext.turn (hs : t.hs[i]? = some s) {x : Hs × List Wo} (ho : x.1.own = s.own) (hr : ∃ l, x.1.rows = s.rows ++ l) : t.Ext (t.turn i x) := by
 have eh : (t.turn i x).hs = t.hs.set i x.1 := (b8 _ _ _).2.1
 refine ⟨(b8 _ _ _).1, by rw [eh, List.map_set, ho, aA7 (by rw [List.getElem?_map, hs]; rfl)], fun j y e => ?_⟩
 rw [eh]
 by_cases q : i = j
 ·subst q
  rw [hs] at e
  cases e
  exact ⟨x.1, List.getElem?_set_self (List.getElem?_eq_some_iff.mp hs).1, hr⟩
 ·exact ⟨y, by rw [List.getElem?_set_ne q]; exact e, [], (List.append_nil _).symm⟩
theorem Tn.In.turn {Ns' : List Int} (I : t.In L Ns b) (hs : t.hs[i]? = some s) {x : Hs × List Wo} (ho : x.1.own = s.own) (hc : x.1.cnt = s.cnt) (hz : x.1.sz <= s.sz + 5) (hl : x.2.length <= 16) (F : (t.turn i x).Fine Ns') : (t.turn i x).In L Ns' (b + 300) := by
 refine ⟨F, I.ok.turn hs ho hc hz hl, ?_⟩
 have eh : (t.turn i x).hs = t.hs.set i x.1 := (b8 _ _ _).2.1
 have cn : (t.turn i x).cnt = t.cnt := (b8 _ _ _).1
 rw [eh, List.map_set, ho, aA7 (by rw [List.getElem?_map, hs]; rfl), cn]
 exact I.hon
theorem Tn.In.call (I : t.In L Ns b) (hs : t.hs[i]? = some s) {r : Str} (hr : bP8 (.str r) = true) (hn : Ns.length <= 100) : (t.turn i (s.call r)).In L (s.onw :: Ns) (b + 300) /\ t.Ext (t.turn i (s.call r)) := by
 have hc := dL { s with onw := s.onw + s.cnt } ⟨eD, s.onw, r, s.own⟩
 have sc := I.ok.hc s (List.mem_of_getElem? hs)
 refine ⟨I.turn hs hc.2.1 hc.1 hc.2.2.2.1 ?_ (I.fine.call I.ok.on hs hr hn I.ok.c2), .turn hs hc.2.1 (aV2 { s with onw := s.onw + s.cnt } _)⟩
 show (_ :: (Hs.hear _ _).2).length <= 16
 rw [List.length_cons]
 exact Nat.succ_le_succ (Nat.le_trans hc.2.2.2.2 (Nat.add_le_add_right (cQ (show s.cnt <= 12 by rw [sc.1]; exact I.ok.c2)) 3))
theorem Tn.In.hear (I : t.In L Ns b) (hs : t.hs[i]? = some s) {w : Wo} (hw : w ∈ t.said) : (t.turn i (s.hear w)).In L Ns (b + 300) /\ t.Ext (t.turn i (s.hear w)) := by
 have hc := dL s w
 have sc := I.ok.hc s (List.mem_of_getElem? hs)
 exact ⟨I.turn hs hc.2.1 hc.1 hc.2.2.2.1 (Nat.le_trans hc.2.2.2.2 (Nat.le_trans (Nat.add_le_add_right (cQ (show s.cnt <= 12 by rw [sc.1]; exact I.ok.c2)) 3) (by decide))) (I.fine.hear I.ok.on hs hw), .turn hs hc.2.1 (aV2 s w)⟩
theorem Tn.In.take (I : t.In L Ns b) (k : Int) : (t.take k).In L Ns b := ⟨I.fine.take k, ⟨⟨fun x hx => I.ok.lk.lt x (List.mem_filter.mp hx).1, Nat.le_trans (List.length_filter_le _ _) I.ok.lk.ll, I.ok.lk.sl⟩, I.ok.c1, I.ok.c2, I.ok.on, I.ok.hc, List.Pairwise.sublist (List.Sublist.map _ List.filter_sublist) I.ok.as⟩, I.hon⟩
theorem Tn.In.lie (I : t.In L Ns b) {h r : Int} {w : Wo} (hl : ∀ s ∈ t.hs, s.own ≠ h) (hw : w.Ok t.cnt) (hf : w.h = h \/ w ∈ t.said) (hn : w.n ∈ Ns) : ((t.say w).send ⟨h, r, w⟩).In L Ns (b + 300) /\ t.Ext ((t.say w).send ⟨h, r, w⟩) := by
 refine ⟨⟨I.fine.lie hl hw hf hn, ⟨((I.ok.lk.say w).send _).mono (Nat.add_le_add_left (by decide : 2 <= 300) b), I.ok.c1, I.ok.c2, I.ok.on, fun s q => ⟨(I.ok.hc s q).1, Nat.le_trans (I.ok.hc s q).2 (Nat.le_add_right _ _)⟩, (Tn.As.send (t := t.say w) ⟨I.ok.as, I.ok.lk.lt⟩ _).1⟩, I.hon⟩, ⟨rfl, rfl, fun i s e => ⟨s, e, [], (List.append_nil _).symm⟩⟩⟩
theorem bW2 {x : Int} {L : List Int} : (L.any fun y => y == x) = decide (x ∈ L) := by
 rw [Bool.eq_iff_iff, decide_eq_true_iff, List.any_eq_true]
 exact ⟨fun ⟨y, h, e⟩ => eq_of_beq e ▸ h, fun h => ⟨x, h, beq_self_eq_true x⟩⟩
theorem hon_iff {c : Int} {x : Int} : x ∈ aC2 c L ↔ 0 <= x /\ x < c /\ x ∉ L := by
 unfold aC2 aQ2
 rw [List.mem_filter, List.mem_map, bW2, Bool.not_eq_true', decide_eq_false_iff_not]
 constructor
 ·rintro ⟨⟨j, hj, rfl⟩, h⟩
  have := List.mem_range.mp hj
  exact ⟨Int.natCast_nonneg _, by omega, h⟩
 ·rintro ⟨h0, h1, h2⟩
  exact ⟨⟨x.toNat, List.mem_range.mpr (by omega), Int.toNat_of_nonneg h0⟩, h2⟩
theorem Tn.In.liar (I : t.In L Ns b) {h : Int} (hl : h ∈ L) : ∀ s ∈ t.hs, s.own ≠ h := fun s q e => by
 have : s.own ∈ t.hs.map (·.own) := List.mem_map.mpr ⟨s, q, rfl⟩
 rw [I.hon, e] at this
 exact (hon_iff.mp this).2.2 hl
theorem Tn.In.honest (I : t.In L Ns b) {h : Int} (hh : h ∈ aC2 t.cnt L) : ∃ (i : Nat) (s : Hs), t.hs[i]? = some s /\ s.own = h := by
 rw [<- I.hon] at hh
 rcases List.mem_map.mp hh with ⟨s, q, e⟩
 rcases List.getElem?_of_mem q with ⟨i, hi⟩
 exact ⟨i, s, hi, e⟩
end
section
variable {S : Sig} {N : HN} {m : MH} {t : Tn} {L Ns : List Int} {p b : Nat} {B : List (Nat × MObj)}
theorem aN1 (Z : TF S N) (n : Nat) {k : Int} {l : Lr} (H : Tw m N p t B) (I : t.In L Ns b) (hk : (k, l) ∈ t.lets) (hb : b + 300 < lid) : Wp (run S (n + 7) (N.ki + 17) [.ref p, .int k]) m (fun y_ m' => ∃ t', Tw m' N p t' B /\ t'.In L Ns (b + 300) /\ t.Ext t' /\ ∀ x ∈ t.lets, x.1 ≠ k -> x ∈ t'.lets) nox := by
 have keep : ∀ x ∈ t.lets, x.1 ≠ k -> x ∈ (t.take k).lets := fun x hx hne => List.mem_filter.mpr ⟨hx, by rw [Bool.not_eq_true', beq_eq_false_iff_ne]; exact hne⟩
 have I1 := I.take k
 have e1 : t.Ext (t.take k) := ⟨rfl, rfl, fun i s e => ⟨s, e, [], (List.append_nil _).symm⟩⟩
 by_cases z : ∃ s ∈ t.hs, s.own = l.r
 ·rcases z with ⟨s, hs, e⟩
  rcases List.getElem?_of_mem hs with ⟨i, hi⟩
  refine aV (bZ4 Z n H I.ok hk hi e hb) fun u m' z_ => ?_
  rcases z_ with ⟨q, y_, h⟩
  have I2 := I1.hear (s := s) hi (show l.w ∈ (t.take k).said from I.fine.le _ hk)
  exact ⟨_, h.tail, I2.1, e1.trans I2.2, fun x hx hne => bD1 (keep x hx hne)⟩
 ·refine aV (bZ3 Z (n + 4) H I.ok hk fun s hs e => z ⟨s, hs, e⟩) fun u m' z_ => ?_
  rcases z_ with ⟨q, y_, h⟩
  exact ⟨_, h.tail, I1.mono (Nat.le_add_right _ _), e1, keep⟩
end
end Mini
namespace Mini
open PySem
section
variable {S : Sig} {F : Fns} {r : Lo} {m : MH} {E : Nat -> MH -> Prop}
theorem bW9 {c : Lo -> Mn Bool} {body : Lo -> Mn (Fl × Lo)} {Q : Fl × Lo -> MH -> Prop} (I : Nat -> Lo -> MH -> Prop)
  (h : ∀ k r m, I k r m -> Wp (c r) m (fun b m' => bif b then (∃ k', k = k' + 1 /\ Wp (body r) m' (bC4 Q I k') nox) else Q (.next, r) m') nox) :
  ∀ (k n : Nat) (r : Lo) (m : MH), k < n -> I k r m -> Wp (aF9 c body n r) m Q E := by
 intro k
 induction k with
 | zero =>
  intro n r m hn hi
  cases n with
  | zero => exact absurd hn (Nat.not_lt_zero _)
  | succ n =>
   rcases aA1 (h 0 r m hi) with ⟨b, m1, e, q⟩
   have e1 : (fun m => (c r m).nox) m = .ok b m1 := by show (c r m).nox = _; rw [e]; rfl
   refine aI (aE e1 ?_)
   cases b with
   | true => rcases q with ⟨k', e, y_⟩; cases e
   | false => exact q
 | succ k ih =>
  intro n r m hn hi
  cases n with
  | zero => exact absurd hn (Nat.not_lt_zero _)
  | succ n =>
   rcases aA1 (h (k + 1) r m hi) with ⟨b, m1, e, q⟩
   have e1 : (fun m => (c r m).nox) m = .ok b m1 := by show (c r m).nox = _; rw [e]; rfl
   refine aI (aE e1 ?_)
   cases b with
   | false => exact q
   | true =>
    rcases q with ⟨k', ek, q⟩
    cases ek
    rcases aA1 q with ⟨p, m2, e2, q2⟩
    have e3 : (fun m => (body r m).nox) m1 = .ok p m2 := by show (body r m1).nox = _; rw [e2]; rfl
    refine aI (aE e3 ?_)
    rcases p with ⟨f, r1⟩
    cases f with
    | ret v => exact q2
    | next => exact ih n r1 m2 (Nat.lt_of_succ_lt_succ hn) q2
    | cont => exact ih n r1 m2 (Nat.lt_of_succ_lt_succ hn) q2
theorem s_wh {c : CB} {body ss : List CS} {Q : Fl × Lo -> MH -> Prop} (I : Nat -> Lo -> MH -> Prop) (k : Nat) (hk : k < 1000000) (h0 : I k r m)
  (h : ∀ k r m, I k r m -> Wp (evT S F c r) m (fun b m' => bif b then (∃ k', k = k' + 1 /\ Wp (exs S F body r) m' (bC4 Q I k') nox) else Wp (exs S F ss r) m' Q E) nox) : Wp (exs S F (.wh c body :: ss) r) m Q E := by
 refine aB1 ?_
 have key := bW9 (E := E) (c := fun r' => evT S F c r') (body := fun r' => exs S F body r') (Q := fun p m' => match p.1 with | .next => Wp (exs S F ss p.2) m' Q E | f => Q (f, p.2) m') I (fun k r m hi => wp_mono (h k r m hi) (fun b m' q => ?_) fun y_ y_ q => q) k cQ8 r m hk h0
 ·exact key
 ·cases b with
  | false => exact q
  | true =>
   rcases q with ⟨k', ek, q⟩
   refine ⟨k', ek, wp_mono q (fun p m'' q => ?_) fun y_ y_ q => q⟩
   rcases p with ⟨f, r1⟩
   cases f <;> exact q
theorem cB1 {elt : CE} {k : IK} {t : CT} {nl : Nat} {src : List CE} {Q : V -> MH -> Prop} {α : Type} (zs : List α) (vv : α -> V) (I : List α -> List V -> MH -> Prop) (h : Wp (evs S F src r) m (fun vs m' => Wp (fC k vs) m' (fun p m' => p.1 = zs.map vv /\ I zs [] m' /\ (∀ zs l m, I zs l m -> p.2.stays m = true) /\
      (∀ z zs l m, I (z :: zs) l m -> Wp (aJ6 t (vv z) (r ++ List.replicate nl Option.none)) m (fun r' m' => Wp (ev S F elt r') m' (fun y m' => I zs (l ++ [y]) m') nox) nox) /\ (∀ l m, I [] l m -> l.length <= lid /\ ∀ p m', Le m m' -> m'[p]? = some (.list l) -> m.length <= p -> Q (.ref p) m')) E) E) : Wp (ev S F (.comp elt t nl k src []) r) m Q E := by
  refine cN4 (wp_mono h (fun vs m' h => wp_mono h (fun p m' h => ?_) fun y_ y_ q => q) fun y_ y_ q => q)
  rcases h with ⟨e0, h0, hg, hs, hn⟩
  refine ⟨fun xs l m => ∃ z, xs = z.map vv /\ I z l m, ⟨zs, e0, h0⟩, fun y_ y_ y_ ⟨_, _, q⟩ => hg _ _ _ q, ?_, ?_⟩
  · rintro x xs l m ⟨z, e, q⟩
    cases z with
    | nil => cases e
    | cons c z =>
      cases e
      exact wp_mono (hs c z l m q) (fun r' m' q => aC (a := true) (m' := m') rfl (fS (wp_mono q (fun y m' q => ⟨z, rfl, q⟩) fun y_ y_ q => q))) fun y_ y_ q => q
  · rintro l m ⟨z, e, q⟩
    cases z with
    | nil => exact hn l m q
    | cons c z => cases e
theorem dB0 {p q : Nat} {xs : List V} (hx : ∀ x ∈ xs, ∃ d, rd 11 m x = some d) (hp : m[p]? = some (.list xs)) (hq : m[q]? = some (.list [])) : eqV (.ref p) (.ref q) m = .ok xs.isEmpty m := by
 have key : ∀ {xs : List V}, (∀ x ∈ xs, ∃ d, rd 11 m x = some d) -> ∃ ds, aA0 (rd 11 m) xs = some ds /\ ds.isEmpty = xs.isEmpty := by
  intro xs
  induction xs with
  | nil => intro _; exact ⟨[], rfl, rfl⟩
  | cons x xs ih =>
   intro h
   rcases h x (.head _) with ⟨d, h1⟩
   rcases ih fun y hy => h y (.tail _ hy) with ⟨ds, h2, y_⟩
   exact ⟨d :: ds, bW3 h1 h2, rfl⟩
 rcases key hx with ⟨ds, h1, h2⟩
 unfold eqV
 rw [bP9 hp, bP9 hq, h1]
 show Res.ok (PyData.eqv (.list ds) (.list [])) m = _
 rw [cR6, h2]
theorem cH3 {p q : Nat} {xs : List V} (hx : ∀ x ∈ xs, ∃ d, rd 11 m x = some d) (hp : m[p]? = some (.list xs)) (hq : m[q]? = some (.list [])) : aJ1 .NotEq (.ref p) (.ref q) m = .ok (!xs.isEmpty) m := by
 show (eqV (.ref p) (.ref q) m).bind _ = _
 rw [dB0 hx hp hq]; rfl
theorem bQ5 {a : CE} {p : Nat} {xs : List V} {Q : Bool -> MH -> Prop} (ha : ev S F a r m = .ok (.ref p) m) (hp : m[p]? = some (.list xs)) (hx : ∀ x ∈ xs, ∀ m, ∃ d, rd 11 m x = some d) (q : ∀ m', Le m m' -> Q (!xs.isEmpty) m') : Wp (evT S F (.val (.cmp a [.NotEq] [.list []])) r) m Q E := by
 refine aE1 (aH6 (aE ha (bJ (aG (aQ fun q' m' l k g => ?_)))))
 exact aE (cH3 (fun x hx' => hx x hx' m') (l.has hp) k) (aC rfl (q m' l))
theorem rdI (x : V) {is : List Int} (h : x ∈ is.map V.int) (m : MH) : ∃ d, rd 11 m x = some d := by
 rcases List.mem_map.mp h with ⟨i, y_, rfl⟩
 exact ⟨_, rfl⟩
theorem rdW (x : V) {ws : List Wo} (h : x ∈ ws.map Wo.v) (m : MH) : ∃ d, rd 11 m x = some d := by
 rcases List.mem_map.mp h with ⟨w, y_, rfl⟩
 exact ⟨w.d, rfl⟩
theorem rdT (x : V) {ls : List (Int × Lr)} (h : x ∈ ls.map bI0) (m : MH) : ∃ d, rd 11 m x = some d := by
 rcases List.mem_map.mp h with ⟨w, y_, rfl⟩
 exact ⟨_, rfl⟩
theorem cJ1 {is : List Int} {x : Int} (h : 0 < is.length) : ∃ y, at_ (is.map V.int) (x % (is.length : Int)) = some (.int y) /\ y ∈ is := by
 have h' : (0 : Int) < (is.length : Int) := Int.natCast_pos.mpr h
 rcases aX9 (xs := is.map V.int) (x := x) h' (by rw [List.length_map]) with ⟨v, h1, h2⟩
 rcases List.mem_map.mp h2 with ⟨y, hy, rfl⟩
 exact ⟨y, h1, hy⟩
theorem cQ6 {p : Nat} {k : Int} {xs : List V} {v : V} (h : m[p]? = some (.list xs)) (hv : at_ xs k = some v) (hk : k.natAbs < 2 ^ 60) : aQ0 (.ref p) (.int k) m = .ok v m := by
 unfold aQ0; dsimp only; rw [h]; dsimp only; rw [if_pos hk, hv]; rfl
theorem aH4 {a : CE} {p : Nat} {xs : List V} (ha : ev S F a r m = .ok (.ref p) m) (h : m[p]? = some (.list xs)) : ev S F (.bi .len [a]) r m = .ok (.int xs.length) m := by
 show Res.bind (Res.bind (ev S F a r m) _) _ = _
 rw [ha]
 show biV .len [.ref p] m = _
 unfold biV; dsimp only; rw [h]
theorem dB6 {i j : Int} (h : 0 < j) (h2 : j.natAbs < 1073741824) : bL0 .FloorDiv (.int i) (.int j) m = .ok (.int (i / j)) m := if_pos ⟨h, h2⟩
theorem bQ3 {a e : CE} {p : Nat} {is : List Int} {x : Int} (ha : ev S F a r m = .ok (.ref p) m) (hp : m[p]? = some (.list (is.map V.int))) (he : ev S F e r m = .ok (.int x) m) (h : 0 < is.length) (hl : is.length <= 1000000) : ∃ y, ev S F (.idx a (.bin .Mod e (.bi .len [a]))) r m = .ok (.int y) m /\ y ∈ is := by
 rcases cJ1 (x := x) h with ⟨y, h1, h2⟩
 have h' : (0 : Int) < (is.length : Int) := Int.natCast_pos.mpr h
 refine ⟨y, dY ha (bE he ((aH4 ha hp).trans (by rw [List.length_map])) (eR h')) (cQ6 hp h1 (md60 h' (Int.ofNat_le.mpr hl))), h2⟩
end
noncomputable def aR4 : List CS := [
 (.asg (.one (.one 3)) (.listrange [(.var 1)])),
 (.asg (.one (.one 4)) (.list [])),
 (.wh (.val (.cmp (.bi .len [(.var 4)]) [.Lt] [(.bi .min2 [(.var 2), (.var 1)])])) [
  (.exp (.smeth (.var 4) .append [(.smeth (.var 3) .pop [(.bin .Mod (.var 0) (.bi .len [(.var 3)]))])])),
  (.asg (.one (.one 0)) (.bin .Add (.bin .FloorDiv (.var 0) (.cnst (Lt.int 3))) (.cnst (Lt.int 1))))]),
 (.ret (.var 4))]
section
variable {S : Sig} {m : MH}
theorem cU9 {E : Nat -> MH -> Prop} {p : Nat} {xs : List V} {k : Int} {v : V} {Q : V -> MH -> Prop} (h : m[p]? = some (.list xs)) (h0 : 0 <= k) (hv : xs[k.toNat]? = some v) (hk : k.natAbs < 2 ^ 60) (q : Q v (m.set p (.list (xs.eraseIdx k.toNat)))) : Wp (dH 0 (.ref p) .pop [.int k]) m Q E := by
 refine aE (m' := m.set p (.list (xs.eraseIdx k.toNat))) ?_ q
 show (match m[p]? with | some (.list xs) => bS0 p xs .pop [.int k] m | _ => .bad) = _
 rw [h]
 show (if 0 <= k then (match xs[k.toNat]? with | some v => if k.natAbs < 2 ^ 60 then Res.ok v (m.set p (.list (xs.eraseIdx k.toNat))) else .bad | Option.none => .bad) else .bad) = _
 rw [if_pos h0, hv]
 show (if k.natAbs < 2 ^ 60 then _ else _) = _
 rw [if_pos hk]
theorem lm_lt {g c mn : Int} : g < (if c < mn then c else mn) ↔ g < min mn c := by split <;> omega
theorem lm_k {g mn c : Int} {k : Nat} (h : g + k = max 0 (min mn c)) (g0 : 0 <= g) : (g < min mn c ↔ k ≠ 0) := by omega
theorem lm_a {a g c mn : Int} (h : a + g = c) (z : g < min mn c) : 0 < a := by omega
theorem lm_n {g mn c : Int} (h : g + (0 : Nat) = max 0 (min mn c)) : g = max 0 (min mn c) := by omega
theorem lm_s {g x : Int} {k : Nat} (h : g + ((k + 1 : Nat) : Int) = x) : (g + 1) + (k : Int) = x := by omega
theorem lm_l {a g c : Int} (h : a + g = c) (g0 : 0 <= g) (h2 : c <= 12) : a <= 1000000 := by omega
theorem lm_g {a g c : Int} (h : a + g = c) (g0 : 0 <= a) (h2 : c <= 12) : g <= 12 := by omega
theorem lm_e {a g : Nat} (h : 0 < a) : ((a - 1 : Nat) : Int) + ((g + 1 : Nat) : Int) = (a : Int) + g := by omega
inductive LL (c : Int) (mn : Int) (p q : Nat) (m : MH) (k : Nat) (r : Lo) (m' : MH) : Prop
 | mk (cell : Int) (A G : List Int) (er : r = [some (.int cell), some (.int c), some (.int mn), some (.ref p), some (.ref q)]) (ka : m'[p]? = some (.list (A.map V.int))) (kg : m'[q]? = some (.list (G.map V.int))) (l : Le m m') (nd : (A ++ G).Nodup) (rg : ∀ x ∈ A ++ G, 0 <= x /\ x < c) (le : (A.length : Int) + G.length = c) (hk : (G.length : Int) + k = max 0 (min mn c))
theorem aW3 : ∀ {is : List Int} {k : Nat}, (is.map V.int).eraseIdx k = (is.eraseIdx k).map V.int
 | [], _ => rfl
 | _ :: _, 0 => rfl
 | i :: is, k + 1 => congrArg (V.int i :: ·) (aW3 (is := is) (k := k))
theorem aM7 : ∀ {l : List Int} {k : Nat} (h : k < l.length), (l[k] :: l.eraseIdx k).Perm l
 | _ :: _, 0, _ => List.Perm.refl _
 | a :: l, k + 1, h => (List.Perm.swap a _ _).trans ((aM7 (l := l) (k := k) (Nat.lt_of_succ_lt_succ h)).cons a)
theorem bR9 {kf : Nat} (h : b0 S kf 3 5 aR4) (n : Nat) (cell c mn : Int) (c1 : 1 <= c) (c2 : c <= 12) : Wp (run S (n + 1) kf [.int cell, .int c, .int mn]) m (fun u m' => ∃ (q : Nat) (L : List Int), u = .ref q /\ m'[q]? = some (.list (L.map V.int)) /\ Le m m' /\ m.length <= q /\ L.Nodup /\ (∀ x ∈ L, 0 <= x /\ x < c) /\ (L.length : Int) = max 0 (min mn c)) nox := by
 refine bH h rfl (a9 (aT1 (aF (aC rfl (aG ⟨_, cX4 (n := c) (by omega), by rw [List.length_map, bD8]; exact bL (k := 12) (by omega) (by decide), fun p m1 l1 k1 g1 => ?_⟩)))))
 refine a9 (bJ (aG (aQ fun q m2 l2 k2 g2 => ?_)))
 have pq : p ≠ q := fun e => Nat.not_lt.mpr g2 (e ▸ aT k1)
 refine s_wh (LL c mn p q m) (max 0 (min mn c)).toNat (by omega) ⟨cell, cM5 0 c, [], rfl, l2.has k1, k2, l1.trans l2, ?_, ?_, ?_, ?_⟩ ?_
 ·rw [List.append_nil]
  unfold cM5
  refine List.pairwise_map.mpr (List.Pairwise.imp (R := fun a b => a ≠ b) ?_ List.nodup_range)
  intro a b z e
  exact z (by omega)
 ·rw [List.append_nil]
  intro x hx
  rcases List.mem_map.mp hx with ⟨j, hj, rfl⟩
  have := List.mem_range.mp hj
  omega
 ·rw [bD8, List.length_nil]; omega
 ·rw [List.length_nil]; omega
 ·rintro k r m' ⟨cell, A, G, er, ka, kg, l, nd, rg, le, hk⟩
  subst er
  have e1 : evT S (run S n) (.val (.cmp (.bi .len [(.var 4)]) [.Lt] [(.bi .min2 [(.var 2), (.var 1)])])) [some (.int cell), some (.int c), some (.int mn), some (.ref p), some (.ref q)] m' = .ok (decide ((G.length : Int) < (if c < mn then c else mn))) m' := by
   refine aU (aP ((aH4 (xs := G.map V.int) rfl kg).trans (by rw [List.length_map])) (y := .int (if c < mn then c else mn)) rfl rfl)
  refine aE e1 ?_
  have gl0 : (0 : Int) <= (G.length : Int) := Int.natCast_nonneg _
  have al0 : (0 : Int) <= (A.length : Int) := Int.natCast_nonneg _
  by_cases z : (G.length : Int) < (if c < mn then c else mn)
  ·rw [decide_eq_true z]
   have z := lm_lt.mp z
   cases k with
   | zero => exact absurd rfl ((lm_k hk gl0).mp z)
   | succ k =>
    refine fS ⟨k, rfl, ?_⟩
    have al : (0 : Int) < (A.length : Int) := lm_a le z
    have al' : (cell % (A.length : Int)).toNat < A.length := mdN al (Int.le_refl _)
    have em : ev S (run S n) (.bin .Mod (.var 0) (.bi .len [(.var 3)])) [some (.int cell), some (.int c), some (.int mn), some (.ref p), some (.ref q)] m' = .ok (.int (cell % (A.length : Int))) m' :=
     bE rfl ((aH4 (xs := A.map V.int) rfl ka).trans (by rw [List.length_map])) (eR al)
    have ae : (A.map V.int)[(cell % (A.length : Int)).toNat]? = some (.int A[(cell % (A.length : Int)).toNat]) := by rw [List.getElem?_map, List.getElem?_eq_getElem al']; rfl
    refine fD (cV (aC rfl ⟨0, cA1 kg, rfl, aF (cV (aC rfl ⟨0, cA1 ka, rfl, aF (aE em (aG (cU9 ka (md0 al) ae (md60 al (lm_l le gl0 c2)) ?_)))⟩))⟩))
    refine aG (aN6 (aN pq kg) (by rw [List.length_map]; exact Nat.lt_of_le_of_lt (Int.ofNat_le.mp (lm_g le al0 c2)) (by decide)) ?_)
    rw [aW3]
    refine a9 (aC rfl (b9 ?_))
    refine ⟨cell / 3 + 1, A.eraseIdx (cell % (A.length : Int)).toNat, G ++ [A[(cell % (A.length : Int)).toNat]], rfl, aN (fun e => pq e.symm) (aY ka), ?_, ?_, ?_, ?_, ?_, ?_⟩
    ·rw [List.map_append]; exact aY (aN pq kg)
    ·exact (l.set (Nat.le_trans (Nat.le_refl _) g1) _).set (Nat.le_trans l1.1 g2) _
    ·have pm : (A.eraseIdx (cell % (A.length : Int)).toNat ++ (G ++ [A[(cell % (A.length : Int)).toNat]])).Perm (A ++ G) := by
      refine List.Perm.trans ?_ ((aM7 al').append_right G)
      rw [<- List.append_assoc]
      exact List.perm_append_comm
     exact pm.nodup_iff.mpr nd
    ·intro x hx
     rcases List.mem_append.mp hx with hx | hx
     ·exact rg x (List.mem_append_left _ (List.mem_of_mem_eraseIdx hx))
     ·rcases List.mem_append.mp hx with hx | hx
      ·exact rg x (List.mem_append_right _ hx)
      ·rw [List.mem_singleton.mp hx]; exact rg _ (List.mem_append_left _ (List.getElem_mem al'))
    ·rw [List.length_eraseIdx_of_lt al', List.length_append, List.length_singleton, <- le]; exact lm_e (Nat.pos_of_ne_zero fun q => by rw [q] at al'; exact Nat.not_lt_zero _ al')
    ·rw [List.length_append]; exact lm_s hk
  ·rw [decide_eq_false z]
   refine aK9 (bA (aC rfl ⟨q, G, rfl, kg, l, Nat.le_trans l1.1 g2, (List.nodup_append.mp nd).2.1, fun x hx => rg x (List.mem_append_right _ hx), ?_⟩))
   have z := fun q => z (lm_lt.mpr q)
   have k0 : k = 0 := Classical.byContradiction fun q => z ((lm_k hk gl0).mpr q)
   rw [k0] at hk
   exact lm_n hk
end
end Mini
namespace Mini
open PySem
noncomputable def aR5 : List CS := [
 (.ret (.idx (.list [(.cnst (Lt.int 4)), (.cnst (Lt.int 4)), (.cnst (Lt.int 5)), (.cnst (Lt.int 7)), (.bin .Add (.cnst (Lt.int 1)) (.bin .Mod (.bin .FloorDiv (.var 0) (.cnst (Lt.int 5))) (.cnst (Lt.int 7))))]) (.bin .Mod (.var 0) (.cnst (Lt.int 5)))))]
noncomputable def aJ4 : List CS := [
 (.for_ .range (.one 1) [(.cnst (Lt.int 1)), (.bin .Add (.var 0) (.cnst (Lt.int 1)))] [
  (.ite (.all true [(.val (.cmp (.bin .Mult (.cnst (Lt.int 3)) (.bin .Sub (.bin .Mult (.cnst (Lt.int 2)) (.var 1)) (.var 0))) [.Gt] [(.cnst (Lt.int 0))])), (.val (.cmp (.bin .Sub (.bin .Mult (.cnst (Lt.int 2)) (.var 1)) (.var 0)) [.Gt] [(.bin .FloorDiv (.bin .Sub (.var 0) (.cnst (Lt.int 1))) (.cnst (Lt.int 3)))]))]) [
   (.ret (.var 1))] [])]),
 (.ret (.var 0))]
theorem mdl {x n : Int} (h : 0 < n) (h2 : n <= (lid : Int)) : (x % n).natAbs < 2 ^ 60 := Nat.lt_of_lt_of_le (aC1 (c := lid) (md0 h) (md1 h) h2) (by decide)
section
variable {S : Sig} {m : MH}
theorem bS4 {kf : Nat} (h : b0 S kf 1 1 aR5) (n : Nat) (x : Int) : Wp (run S (n + 1) kf [.int x]) m (fun u m' => ∃ c : Int, u = .int c /\ 1 <= c /\ c <= 7 /\ Le m m') nox := by
 refine bH h rfl (bA (aT2 (bJ (aC (a := [.int 4, .int 4, .int 5, .int 7, .int (1 + x / 5 % 7)]) rfl (aQ fun q m1 l k g => ?_)))))
 refine aC (a := .int (x % 5)) rfl ?_
 rcases cJ1 (is := [4, 4, 5, 7, 1 + x / 5 % 7]) (x := x) (Nat.succ_pos _) with ⟨v, h1, h2⟩
 refine aE (cQ6 k h1 (md60 (n := 5) (by decide) (by decide))) ⟨v, rfl, ?_⟩
 simp only [List.mem_cons, List.not_mem_nil, or_false] at h2
 have a : 0 <= x / 5 % 7 := md0 (by decide)
 have b : x / 5 % 7 < 7 := md1 (by decide)
 refine ⟨?_, ?_, l⟩ <;> omega
theorem bJ2 {kf : Nat} (h : b0 S kf 1 2 aJ4) (n : Nat) (c : Int) (c1 : 1 <= c) (c2 : c <= 7) (m : MH) : run S (n + 1) kf [.int c] m = .ok (.int (bR c)) m := by
 rw [bD5 h rfl]
 have hc : c = 1 \/ c = 2 \/ c = 3 \/ c = 4 \/ c = 5 \/ c = 6 \/ c = 7 := by omega
 rcases hc with rfl | rfl | rfl | rfl | rfl | rfl | rfl <;> rfl
end
noncomputable def b_llie : List CS := [
 (.asg (.one (.one 5)) (.idx (.var 2) (.bin .Mod (.var 3) (.bi .len [(.var 2)])))),
 (.asg (.one (.one 6)) (.bin .Mod (.bin .Add (.bin .Add (.var 5) (.cnst (Lt.int 1))) (.bin .Mod (.bin .FloorDiv (.var 3) (.cnst (Lt.int 12))) (.bi .max2 [(.cnst (Lt.int 1)), (.bin .Sub (.var 1) (.cnst (Lt.int 1)))]))) (.var 1))),
 (.asg (.one (.one 7)) (.bin .Mod (.bin .FloorDiv (.var 3) (.cnst (Lt.int 132))) (.cnst (Lt.int 6)))),
 (.asg (.one (.one 8)) (.tup [(.cnst (Lt.str (Str.ofString "mark"))), (.var 7), (.idx (.var 4) (.bin .Mod (.bin .FloorDiv (.var 3) (.cnst (Lt.int 800))) (.cnst (Lt.int 2)))), (.var 5)])),
 (.ite (.val (.cmp (.bin .Mod (.bin .FloorDiv (.var 3) (.cnst (Lt.int 1600))) (.cnst (Lt.int 3))) [.Eq] [(.cnst (Lt.int 1))])) [
  (.asg (.one (.one 8)) (.tup [(.cnst (Lt.str (Str.ofString "say"))), (.bin .Add (.var 5) (.bin .Mult (.var 1) (.bin .Mod (.var 7) (.cnst (Lt.int 2))))), (.idx (.var 4) (.bin .Mod (.bin .FloorDiv (.var 3) (.cnst (Lt.int 800))) (.cnst (Lt.int 2)))), (.var 5)]))] []),
 (.asg (.one (.one 9)) (.meth (.var 0) 25 [])),
 (.ite (.all true [(.val (.cmp (.bin .Mod (.bin .FloorDiv (.var 3) (.cnst (Lt.int 1600))) (.cnst (Lt.int 3))) [.Eq] [(.cnst (Lt.int 2))])), (.val (.cmp (.var 9) [.NotEq] [(.list [])]))]) [
  (.asg (.one (.one 8)) (.idx (.var 9) (.bin .Mod (.bin .FloorDiv (.var 3) (.cnst (Lt.int 4800))) (.bi .len [(.var 9)]))))] []),
 (.ite (.val (.cmp (.var 6) [.NotEq] [(.var 5)])) [
  (.exp (.meth (.var 0) 24 [(.var 5), (.var 6), (.var 8)]))] [])]
structure Bs (B : List (Nat × MObj)) (L : List Int) (R : List Str) (q2 q4 : Nat) : Prop where
 li : (q2, .list (L.map V.int)) ∈ B
 ro : (q4, .list (R.map V.str)) ∈ B
 len : R.length = 2
 row : ∀ r ∈ R, bP8 (.str r) = true
 ll : L.length <= 12
noncomputable def Left (m' : MH) (N : HN) (p : Nat) (t : Tn) (L : List Int) (Ns : List Int) (b : Nat) (B : List (Nat × MObj)) : Prop := ∃ t' Ns', Tw m' N p t' B /\ t'.In L Ns' b /\ t.Ext t' /\ Ns'.length <= Ns.length + 1
section
variable {S : Sig} {N : HN} {m : MH} {t : Tn} {L Ns : List Int} {p b q2 q4 : Nat} {B : List (Nat × MObj)} {R : List Str}
theorem bD7 {F : Fns} {r : Lo} {a e : CE} {x : Int} (hp : m[q4]? = some (.list (R.map V.str))) (hl : R.length = 2) (ha : ev S F a r m = .ok (.ref q4) m) (he : ev S F e r m = .ok (.int x) m) : ∃ s ∈ R, ev S F (.idx a (.bin .Mod e (.cnst (Lt.int 2)))) r m = .ok (.str s) m := by
 rcases aX9 (xs := R.map V.str) (x := x) (n := 2) (by decide) (by rw [List.length_map, hl]; rfl) with ⟨v, h1, h2⟩
 rcases List.mem_map.mp h2 with ⟨s, hs, rfl⟩
 exact ⟨s, hs, dY ha (bE he rfl (eR (by decide))) (cQ6 hp h1 (md60 (by decide) (by decide)))⟩
theorem bR5 {c n h : Int} {r : Str} (n0 : 0 <= n) (n1 : n <= 9999) (hr : bP8 (.str r) = true) (h0 : 0 <= h) (h1 : h < c) : (⟨dS, n, r, h⟩ : Wo).Ok c := ⟨.inr rfl, n0, n1, hr, h0, h1, fun e => absurd e.symm aA8⟩
theorem cG5 {c k h : Int} {r : Str} (k0 : 0 <= k) (k1 : k < 2) (hr : bP8 (.str r) = true) (h0 : 0 <= h) (h1 : h < c) (c2 : c <= 12) : (⟨eD, h + c * k, r, h⟩ : Wo).Ok c := by
 have hk : k = 0 \/ k = 1 := by omega
 refine ⟨.inl rfl, ?_, ?_, hr, h0, h1, fun y_ => ?_⟩
 ·show 0 <= h + c * k
  rcases hk with rfl | rfl <;> omega
 ·show h + c * k <= 9999
  rcases hk with rfl | rfl <;> omega
 ·show (h + c * k - h) % c = 0
  rw [Int.add_comm h, Int.add_sub_cancel, Int.mul_emod_right]
theorem cO8 (Z : TF S N) {kf : Nat} (h : b0 S kf 5 10 b_llie) (n : Nat) {cell : Int} (H : Tw m N p t B) (I : t.In L Ns b) (K : Bs B L R q2 q4) (hL : ∀ x ∈ L, 0 <= x /\ x < t.cnt) (ne : 0 < L.length) (hc : 0 <= cell) (hb : b + 300 < lid) : Wp (run S (n + 5) kf [.ref p, .int t.cnt, .ref q2, .int cell, .ref q4]) m (fun u m' => Left m' N p t L Ns (b + 300) B) nox := by
 have k2 := H.has K.li
 have k4 := H.has K.ro
 have c1 := I.ok.c1
 have c2 := I.ok.c2
 rcases bQ3 (S := S) (F := run S (n + 4)) (r := [some (.ref p), some (.int t.cnt), some (.ref q2), some (.int cell), some (.ref q4), none, none, none, none, none]) (a := .var 2) (e := .var 3) (x := cell) rfl k2 rfl ne (Nat.le_trans K.ll (by decide)) with ⟨y, e5, hy⟩
 have hy' := hL y hy
 refine bH h rfl (a9 (aE e5 ?_))
 have mx : 0 < (if t.cnt - 1 > 1 then t.cnt - 1 else 1) := by split <;> omega
 refine a9 (aE (a := .int ((y + 1 + cell / 12 % (if t.cnt - 1 > 1 then t.cnt - 1 else 1)) % t.cnt)) (m' := m) (bE (bE rfl (bE rfl (y := .int (if t.cnt - 1 > 1 then t.cnt - 1 else 1)) rfl (eR mx)) rfl) rfl (eR (Int.lt_of_lt_of_le (by decide) c1))) ?_)
 generalize hrec : (y + 1 + cell / 12 % (if t.cnt - 1 > 1 then t.cnt - 1 else 1)) % t.cnt = rec
 have r0 : 0 <= rec := by rw [<- hrec]; exact md0 (Int.lt_of_lt_of_le (by decide) c1)
 have r1 : rec < t.cnt := by rw [<- hrec]; exact md1 (Int.lt_of_lt_of_le (by decide) c1)
 clear hrec mx
 refine a9 (aC (a := .int (cell / 132 % 6)) rfl ?_)
 have n0 : 0 <= cell / 132 % 6 := md0 (by decide)
 have n1 : cell / 132 % 6 < 6 := md1 (by decide)
 generalize cell / 132 % 6 = num at n0 n1 ⊢
 rcases bD7 (S := S) (F := run S (n + 4)) (r := [some (.ref p), some (.int t.cnt), some (.ref q2), some (.int cell), some (.ref q4), some (.int y), some (.int rec), some (.int num), none, none]) (a := .var 4) (e := .bin .FloorDiv (.var 3) (.cnst (Lt.int 800))) (x := cell / 800) k4 K.len rfl rfl with ⟨s, hs, es⟩
 have hr := K.row s hs
 refine a9 (aE (aZ3 (aO rfl (aO rfl (aO es (aO rfl rfl))))) ?_)
 have rest : ∀ w : Wo, w.Ok t.cnt -> w.h = y -> Wp (exs S (run S (n + 4)) (b_llie.drop 5) [some (.ref p), some (.int t.cnt), some (.ref q2), some (.int cell), some (.ref q4), some (.int y), some (.int rec), some (.int num), some w.v, none]) m (bW8 fun v m' => Left m' N p t L Ns (b + 300) B) nox := by
  intro w hw hwh
  refine a9 (bI Z H rfl rfl rfl (aC rfl (aV (aS3 Z (n + 3) H) fun u m1 z_ => ?_)))
  rcases z_ with ⟨q, eu, H1, l1, g1⟩
  subst eu
  have kq := H1.has (.head _)
  have fin : ∀ (v : Wo) (m2 : MH) (Hm : Le m1 m2), v.Ok t.cnt -> (v.h = y \/ v ∈ t.said) -> Wp (exs S (run S (n + 4)) (b_llie.drop 7) [some (.ref p), some (.int t.cnt), some (.ref q2), some (.int cell), some (.ref q4), some (.int y), some (.int rec), some (.int num), some v.v, some (.ref q)]) m2 (bW8 fun v m' => Left m' N p t L Ns (b + 300) B) nox := by
   intro v m2 Hm hv hf
   have H2 := H1.up Hm
   refine bN (t := !(rec == y)) (aU (aP rfl rfl rfl)) ?_
   cases hz : rec == y with
   | true => exact b9 ⟨t, Ns, H2.tail, I.mono (Nat.le_add_right _ _), .refl _, Nat.le_succ _⟩
   | false =>
    have hz : rec ≠ y := beq_eq_false_iff_ne.mp hz
    have I1 := (I.more v.n).lie (r := rec) (I.liar hy) hv hf (.head _)
    exact fD (bI Z H2 rfl rfl rfl (aC rfl (aV (bS1 Z n H2 I.ok hy'.1 hy'.2 (I.liar hy) r0 r1 hz hv hf hb) fun u m3 z => b9 ⟨_, v.n :: Ns, z.2.tail, I1.1, I1.2, Nat.le_refl _⟩)))
  refine aE2 (aS8 (cT (aC (a := (cell / 1600 % 3 == 2)) rfl ?_)))
  cases hz : cell / 1600 % 3 == 2 with
  | false => exact aK9 (fin w m1 (.refl _) hw (.inl hwh))
  | true =>
   refine fS (cT (bQ5 rfl kq (fun x hx m => rdW x hx m) fun m2 l2 => ?_))
   cases hw2 : t.said with
   | nil => exact aK9 (fin w m2 l2 hw (.inl hwh))
   | cons a as =>
    refine fS (aC rfl ?_)
    have kq2 := l2.has kq
    have sl : (0 : Int) < ((t.said.map Wo.v).length : Int) := by rw [List.length_map, hw2]; exact Int.natCast_pos.mpr (Nat.succ_pos _)
    rcases aX9 (xs := t.said.map Wo.v) (x := cell / 4800) sl rfl with ⟨x, h1, h2⟩
    rcases List.mem_map.mp h2 with ⟨v, hv, rfl⟩
    refine a9 (aE (dY rfl (bE rfl (aH4 rfl kq2) (eR sl)) (cQ6 kq2 h1 (mdl sl ?_))) (fin v m2 l2 (I.fine.wo v hv) (.inr hv)))
    rw [List.length_map]
    exact Int.ofNat_le.mpr (Nat.le_trans I.ok.lk.sl (Nat.le_of_lt (Nat.lt_of_le_of_lt (Nat.le_add_right _ _) hb)))
 refine bN (t := (cell / 1600 % 3 == 1)) (aU (aP rfl rfl rfl)) ?_
 cases hz : cell / 1600 % 3 == 1 with
 | false => exact rest ⟨dS, num, s, y⟩ (bR5 n0 (by omega) hr hy'.1 hy'.2) rfl
 | true =>
  have em : ev S (run S (n + 4)) (.bin .Add (.var 5) (.bin .Mult (.var 1) (.bin .Mod (.var 7) (.cnst (Lt.int 2))))) [some (.ref p), some (.int t.cnt), some (.ref q2), some (.int cell), some (.ref q4), some (.int y), some (.int rec), some (.int num), some (.tup [.str dS, .int num, .str s, .int y]), none] m = .ok (.int (y + t.cnt * (num % 2))) m := bE rfl (bE rfl rfl (aM0 (.inl (by omega)))) rfl
  rcases bD7 (S := S) (F := run S (n + 4)) (r := [some (.ref p), some (.int t.cnt), some (.ref q2), some (.int cell), some (.ref q4), some (.int y), some (.int rec), some (.int num), some (.tup [.str dS, .int num, .str s, .int y]), none]) (a := .var 4) (e := .bin .FloorDiv (.var 3) (.cnst (Lt.int 800))) (x := cell / 800) k4 K.len rfl rfl with ⟨s', hs', es'⟩
  refine a9 (aE (aZ3 (aO rfl (aO em (aO es' (aO rfl rfl))))) ?_)
  exact rest ⟨eD, y + t.cnt * (num % 2), s', y⟩ (cG5 (md0 (by decide)) (md1 (by decide)) (K.row s' hs') hy'.1 hy'.2 c2) rfl
end
end Mini
namespace Mini
open PySem
noncomputable def aR3 : List CS := [
 (.asg (.one (.one 5)) (.idx (.var 2) (.bin .Mod (.var 3) (.bi .len [(.var 2)])))),
 (.asg (.one (.one 6)) (.bin .Add (.var 5) (.bin .Mult (.var 1) (.bin .Mod (.bin .FloorDiv (.var 3) (.cnst (Lt.int 7))) (.cnst (Lt.int 2)))))),
 (.asg (.one (.one 7)) (.list [])),
 (.for_ .enum (.many [8, 9]) [(.comp (.var 12) (.one 12) 1 .range [(.var 1)] [(.val (.cmp (.var 12) [.NotIn] [(.var 2)]))])] [
  (.asg (.one (.one 10)) (.idx (.var 4) (.bin .Mod (.bin .FloorDiv (.var 3) (.idx (.list [(.cnst (Lt.int 1)), (.cnst (Lt.int 2)), (.cnst (Lt.int 4)), (.cnst (Lt.int 8)), (.cnst (Lt.int 16)), (.cnst (Lt.int 32)), (.cnst (Lt.int 64)), (.cnst (Lt.int 128)), (.cnst (Lt.int 256)), (.cnst (Lt.int 512)), (.cnst (Lt.int 1024)), (.cnst (Lt.int 2048))]) (.var 8))) (.cnst (Lt.int 2))))),
  (.exp (.smeth (.var 7) .append [(.meth (.var 0) 24 [(.var 5), (.var 9), (.tup [(.cnst (Lt.str (Str.ofString "say"))), (.var 6), (.var 10), (.var 5)])])])),
  (.asg (.one (.one 7)) (.bin .Add (.var 7) (.comp (.meth (.var 0) 24 [(.var 12), (.var 9), (.tup [(.cnst (Lt.str (Str.ofString "mark"))), (.var 6), (.var 10), (.var 12)])]) (.one 12) 1 .expr [(.var 2)] [])))]),
 (.ite (.val (.cmp (.bin .Mod (.bin .FloorDiv (.var 3) (.cnst (Lt.int 14))) (.cnst (Lt.int 3))) [.Gt] [(.cnst (Lt.int 0))])) [
  (.for_ .expr (.one 11) [(.slice (.var 7) (.cnst Lt.none) (.cnst Lt.none) (.bin .Sub (.cnst (Lt.int 1)) (.bin .Mult (.cnst (Lt.int 2)) (.bin .Mod (.bin .FloorDiv (.var 3) (.cnst (Lt.int 42))) (.cnst (Lt.int 2))))))] [
   (.exp (.meth (.var 0) 18 [(.var 11)]))])] [])]
noncomputable def pows : List Int := [1, 2, 4, 8, 16, 32, 64, 128, 256, 512, 1024, 2048]
noncomputable def bB8 : Nat -> List Int -> List (Nat × Int)
 | _, [] => []
 | k, x :: xs => (k, x) :: bB8 (k + 1) xs
noncomputable def enV (x : Nat × Int) : V := .tup [.int x.1, .int x.2]
theorem bU2 : ∀ (k : Nat) (l : List Int), aW8 k (l.map V.int) = (bB8 k l).map enV
 | _, [] => rfl
 | k, x :: l => congrArg (V.tup [.int k, .int x] :: ·) (bU2 (k + 1) l)
theorem bF6 : ∀ {k : Nat} {l : List Int} {x : Nat × Int}, x ∈ bB8 k l -> x.2 ∈ l /\ x.1 < k + l.length
 | _, [], _, h => nomatch h
 | k, y :: l, x, h => by
  rcases List.mem_cons.mp h with rfl | h
  ·exact ⟨.head _, Nat.lt_add_of_pos_right (Nat.succ_pos _)⟩
  ·have := bF6 (l := l) h
   exact ⟨.tail _ this.1, by rw [List.length_cons, Nat.add_comm l.length, <- Nat.add_assoc]; exact this.2⟩
theorem aR0 : ∀ (k : Nat) (l : List Int), (bB8 k l).length = l.length
 | _, [] => rfl
 | k, _ :: l => congrArg Nat.succ (aR0 (k + 1) l)
theorem aQ1 (c : Int) (L : List Int) : (aC2 c L).length <= c.toNat := by
 unfold aC2 aQ2
 exact Nat.le_trans (List.length_filter_le _ _) (by rw [List.length_map, List.length_range]; exact Nat.le_refl _)
section
variable {S : Sig} {N : HN} {m : MH} {t : Tn} {L Ns : List Int} {p b q2 q4 : Nat} {B : List (Nat × MObj)} {R : List Str}
theorem cG9 {F : Fns} {r : Lo} {E : Nat -> MH -> Prop} {Q : V -> MH -> Prop} {x : Nat} {c : Int} (hx : x = r.length) (h1 : ev S F (.var 1) r m = .ok (.int c) m) (h2 : ∀ v, ev S F (.var 2) (r ++ [v]) m = .ok (.ref q2) m) (k2 : m[q2]? = some (.list (L.map V.int))) (c1 : 1 <= c) (c2 : c <= 12)
  (q : ∀ q' m', Le m m' -> m'[q']? = some (.list ((aC2 c L).map V.int)) -> m.length <= q' -> Q (.ref q') m') : Wp (ev S F (.comp (.var x) (.one x) 1 .range [(.var 1)] [(.val (.cmp (.var x) [.NotIn] [(.var 2)]))]) r) m Q E := by
 subst hx
 refine aH5 (List.range c.toNat) (fun (j : Nat) => V.int (0 + (j : Int))) (fun (j : Nat) => V.int (0 + (j : Int))) (fun j => !(L.any fun y => y == (j : Int))) (fun m' => m' = m) (aF (aE h1 (aG (aE (aO0 (Nat.lt_of_lt_of_le (aC1 (c := 13) (Int.le_trans (by decide) c1) (Int.lt_of_le_of_lt c2 (by decide : (12 : Int) < 13)) (by decide)) (by decide))) ⟨rfl, rfl, fun y_ y_ => rfl, ?_, ?_, ?_⟩))))
 ·intro j hj m' em
  rw [em]
  have es : (r ++ List.replicate 1 none).set r.length (some (V.int (0 + (j : Int)))) = r ++ [some (V.int (0 + (j : Int)))] := by
   show (r ++ [none]).set r.length _ = _
   rw [List.set_append_right _ _ (Nat.le_refl _), Nat.sub_self]; rfl
  have ev0 : ev S F (.var r.length) (r ++ [some (V.int (0 + (j : Int)))]) m = .ok (.int (0 + (j : Int))) m := by
   show (match (r ++ [some (V.int (0 + (j : Int)))])[r.length]? with | some (some v) => ret v | _ => bad) m = _
   rw [List.getElem?_append_right (Nat.le_refl _), Nat.sub_self]; rfl
  refine aE (a := r ++ [some (V.int (0 + (j : Int)))]) (m' := m) (by show Res.ok _ m = _; rw [es]) (aP9 (aE (a := !(L.any fun y => y == (j : Int))) (m' := m) (aU (aP ev0 (h2 _) ?_)) ⟨rfl, ?_⟩))
  ·show Res.bind (inV (.int (0 + (j : Int))) (.ref q2) m) _ = _
   rw [bT1 k2, Int.zero_add]; rfl
  ·cases L.any fun y => y == (j : Int) with
   | true => rfl
   | false => exact fS (aE ev0 ⟨rfl, rfl⟩)
 ·rw [List.length_range]; exact bL (cQ c2) (by decide)
 ·intro q' m1 m2 em l k g
  rw [em] at l g
  refine q q' m2 l ?_ g
  rw [k]
  congr 2
  unfold aC2 aQ2
  rw [List.filter_map, List.map_map]
  refine List.map_congr_left fun j y_ => ?_
  show V.int (0 + (j : Int)) = V.int j
  rw [Int.zero_add]
noncomputable def Wt (t : Tn) (l : List Int) : Prop := l.Nodup /\ ∀ k ∈ l, ∃ x, (k, x) ∈ t.lets
theorem Wt.send {l : List Int} (h : Wt t l) (lt : ∀ x ∈ t.lets, x.1 < t.given) (w : Wo) (y : Lr) : Wt ((t.say w).send y) (l ++ [t.given]) := by
 refine ⟨List.nodup_append.mpr ⟨h.1, List.pairwise_singleton _ _, fun a ha b hb e => ?_⟩, fun k hk => ?_⟩
 ·rcases h.2 a ha with ⟨x, hx⟩
  have := lt _ hx
  rw [e, List.mem_singleton.mp hb] at this
  exact Int.lt_irrefl _ this
 ·rcases List.mem_append.mp hk with hk | hk
  ·rcases h.2 k hk with ⟨x, hx⟩
   exact ⟨x, List.mem_append_left _ hx⟩
  ·rw [List.mem_singleton.mp hk]; exact ⟨y, List.mem_append_right _ (.head _)⟩
inductive SM (N : HN) (p : Nat) (B : List (Nat × MObj)) (L Ns : List Int) (t0 : Tn) (b : Nat) (T : List Int) (zs : List Int) (l : List V) (m' : MH) : Prop
 | mk (a G : List Int) (t : Tn) (e : L = a ++ zs) (el : l = G.map V.int) (H : Tw m' N p t B) (I : t.In L Ns (b + 300 * a.length)) (X : t0.Ext t) (w : Wt t (T ++ G)) (gl : G.length = a.length)
inductive SH (N : HN) (p q2 q4 qh : Nat) (B : List (Nat × MObj)) (L Ns : List Int) (t0 : Tn) (b : Nat) (cell y num : Int) (zs : List (Nat × Int)) (r : Lo) (m' : MH) : Prop
 | mk (a : List (Nat × Int)) (T : List Int) (t : Tn) (q7 : Nat) (x8 x9 x10 : Option V) (e : bB8 0 (aC2 t0.cnt L) = a ++ zs) (er : r = [some (.ref p), some (.int t0.cnt), some (.ref q2), some (.int cell), some (.ref q4), some (.int y), some (.int num), some (.ref q7), x8, x9, x10, none])
   (H : Tw m' N p t ((q7, .list (T.map V.int)) :: (qh, .list ((aC2 t0.cnt L).map V.int)) :: B)) (ne : ∀ x ∈ (qh, MObj.list ((aC2 t0.cnt L).map V.int)) :: B, x.1 ≠ q7) (I : t.In L Ns (b + 4000 * a.length)) (X : t0.Ext t) (w : Wt t T) (tl : T.length <= 13 * a.length)
theorem cX6 {i : Nat} (h : i < 12) : ∃ v ∈ pows, at_ (pows.map V.int) (i : Int) = some (.int v) := by
 refine ⟨pows[i], List.getElem_mem h, ?_⟩
 unfold at_
 rw [if_pos (Int.natCast_nonneg i), Int.toNat_natCast, List.getElem?_map, List.getElem?_eq_getElem (show i < pows.length from h)]; rfl
theorem cN2 : ∀ v ∈ pows, 0 < v /\ v.natAbs < 1073741824 := by decide
theorem bI4 (Z : TF S N) (n : Nat) {cell y num : Int} {qh : Nat} {zs : List (Nat × Int)} {z : Nat × Int} {r : Lo} {m' : MH} (K : Bs B L R q2 q4) (hL : ∀ x ∈ L, 0 <= x /\ x < t.cnt) (hy : y ∈ L) (c1 : 1 <= t.cnt) (c2 : t.cnt <= 12) (hn : num ∈ Ns) (h0 : 0 <= num) (h1 : num <= 9999) (hsay : (num - y) % t.cnt = 0) (hb : b + 100000 < lid) (J : SH N p q2 q4 qh B L Ns t b cell y num (z :: zs) r m') :
  Wp (aJ6 (.many [8, 9]) (enV z) r) m' (fun r' m' => Wp (exs S (run S (n + 4)) [
  (.asg (.one (.one 10)) (.idx (.var 4) (.bin .Mod (.bin .FloorDiv (.var 3) (.idx (.list [(.cnst (Lt.int 1)), (.cnst (Lt.int 2)), (.cnst (Lt.int 4)), (.cnst (Lt.int 8)), (.cnst (Lt.int 16)), (.cnst (Lt.int 32)), (.cnst (Lt.int 64)), (.cnst (Lt.int 128)), (.cnst (Lt.int 256)), (.cnst (Lt.int 512)), (.cnst (Lt.int 1024)), (.cnst (Lt.int 2048))]) (.var 8))) (.cnst (Lt.int 2))))),
  (.exp (.smeth (.var 7) .append [(.meth (.var 0) 24 [(.var 5), (.var 9), (.tup [(.cnst (Lt.str (Str.ofString "say"))), (.var 6), (.var 10), (.var 5)])])])),
  (.asg (.one (.one 7)) (.bin .Add (.var 7) (.comp (.meth (.var 0) 24 [(.var 12), (.var 9), (.tup [(.cnst (Lt.str (Str.ofString "mark"))), (.var 6), (.var 10), (.var 12)])]) (.one 12) 1 .expr [(.var 2)] [])))] r') m' (fun p_1 m' => match p_1.1 with | .ret v => False | _ => SH N p q2 q4 qh B L Ns t b cell y num zs p_1.2 m') nox) nox := by
 rcases J with ⟨a, T, t1, q7, x8, x9, x10, e, er, H, ne, I, X, w, tl⟩
 subst er
 have hz := bF6 (k := 0) (l := aC2 t.cnt L) (x := z) (by rw [e]; exact List.mem_append_right _ (.head _))
 have hz2 := hon_iff.mp hz.1
 have zl : z.1 < 12 := Nat.lt_of_lt_of_le hz.2 (by rw [Nat.zero_add]; exact Nat.le_trans (aQ1 _ _) (cQ c2))
 have al : a.length < 12 := by
  have := congrArg List.length e
  rw [aR0, List.length_append, List.length_cons] at this
  have h2 := aQ1 t.cnt L
  have h3 := cQ c2
  have h3 : t.cnt.toNat <= 12 := h3
  omega
 have ec : t1.cnt = t.cnt := X.cnt
 have hy' := hL y hy
 refine aC rfl ?_
 rcases cX6 zl with ⟨v, hv, ev⟩
 have vp := cN2 v hv
 have k4 := H.has (.tail _ (.tail _ K.ro))
 refine a9 (aT2 (aC rfl (aL8 (aL8 (aC rfl (aT2 (bJ (aC (a := pows.map V.int) rfl (aQ fun qp m1 l1 kp gp => ?_)))))))))
 refine aC rfl (aE (cQ6 kp ev (Nat.lt_of_lt_of_le (show (z.1 : Int).natAbs < 12 from by rw [Int.natAbs_natCast]; exact zl) (by decide))) (aE (dB6 vp.1 vp.2) (aC rfl (aE (eR (by decide)) ?_))))
 rcases aX9 (xs := R.map V.str) (x := cell / v) (n := 2) (by decide) (by rw [List.length_map, K.len]; rfl) with ⟨u, h1', h2'⟩
 rcases List.mem_map.mp h2' with ⟨s, hs, rfl⟩
 have hr := K.row s hs
 refine aE (cQ6 (l1.has k4) h1' (md60 (by decide) (by decide))) ?_
 have H1 := H.up l1
 have hbb : ∀ k, k <= 16 -> b + 4000 * a.length + 300 * k + 300 < lid := fun k hk => Nat.lt_of_le_of_lt (by omega) hb
 have sk : (⟨eD, num, s, y⟩ : Wo).Ok t1.cnt := by rw [ec]; exact ⟨.inl rfl, h0, h1, hr, hy'.1, hy'.2, fun y_ => hsay⟩
 have zy : z.2 ≠ y := fun c => hz2.2.2 (c ▸ hy)
 have k7 := H1.has (.head _)
 refine fD (cV (aC rfl ⟨0, cA1 k7, rfl, aF (bI Z H1 rfl rfl rfl ?_)⟩))
 refine aC rfl ?_
 refine aV (bS1 Z n (h := y) (r := z.2) (w := ⟨eD, num, s, y⟩) H1 I.ok hy'.1 (by rw [ec]; exact hy'.2) (I.liar hy) hz2.1 (by rw [ec]; exact hz2.2.1) zy sk (.inl rfl) (Nat.lt_of_le_of_lt (Nat.le_add_right _ (300 * 0)) (hbb 0 (by decide)))) fun u m2 z2 => ?_
 rcases z2 with ⟨rfl, H2⟩
 have I2 := I.lie (h := y) (r := z.2) (w := ⟨eD, num, s, y⟩) (I.liar hy) sk (.inl rfl) hn
 have w2 := w.send I.ok.lk.lt ⟨eD, num, s, y⟩ ⟨y, z.2, ⟨eD, num, s, y⟩⟩
 have X2 := X.trans I2.2
 refine aG (aN6 (H2.has (.head _)) (by rw [List.length_map]; unfold lid; omega) ?_)
 have H3 := H2.set (.list (T.map V.int ++ [.int t1.given])) ne
 rw [show T.map V.int ++ [V.int t1.given] = (T ++ [t1.given]).map V.int by rw [List.map_append]; rfl] at H3 ⊢
 generalize (m2.set q7 (.list ((T ++ [t1.given]).map V.int))) = m3 at H3 ⊢
 generalize (t1.say ⟨eD, num, s, y⟩).send ⟨y, z.2, ⟨eD, num, s, y⟩⟩ = t2 at H2 H3 I2 w2 X2
 generalize hT : T ++ [t1.given] = T2 at H3 w2 ⊢
 have T2l : T2.length = T.length + 1 := by rw [<- hT, List.length_append]; rfl
 have I2 := I2.1
 have k2 := H3.has (.tail _ (.tail _ K.li))
 refine a9 (aL8 (aC rfl (cB1 L V.int (SM N p ((q7, .list (T2.map V.int)) :: (qh, .list ((aC2 t.cnt L).map V.int)) :: B) L Ns t (b + 4000 * a.length + 300) T2) (aF (aC rfl (aG (d9 k2 ⟨rfl, ⟨[], [], t2, rfl, rfl, H3, I2, X2, by rw [List.append_nil]; exact w2, rfl⟩, ?_, ?_, ?_⟩)))))))
 ·rintro zs l m' ⟨a, G, t3, e, el, H, I, X, w, gl⟩
  exact cI (H.has (.tail _ (.tail _ K.li)))
 ·rintro o os l m4 ⟨a', G, t3, e', el, H, I, X, w, gl⟩
  have ho : o ∈ L := by rw [e']; exact List.mem_append_right _ (.head _)
  have ho' := hL o ho
  have ec3 : t3.cnt = t.cnt := X.cnt
  have al' : a'.length < 12 := by
   have := congrArg List.length e'
   rw [List.length_append, List.length_cons] at this
   have := K.ll
   omega
  have mk : (⟨dS, num, s, o⟩ : Wo).Ok t3.cnt := by rw [ec3]; exact bR5 h0 h1 hr ho'.1 ho'.2
  have zo : z.2 ≠ o := fun c => hz2.2.2 (c ▸ ho)
  refine aC rfl (bI Z H rfl rfl rfl ?_)
  refine aC rfl ?_
  refine aV (bS1 Z n (h := o) (r := z.2) (w := ⟨dS, num, s, o⟩) H I.ok ho'.1 (by rw [ec3]; exact ho'.2) (I.liar ho) hz2.1 (by rw [ec3]; exact hz2.2.1) zo mk (.inl rfl) (Nat.lt_of_le_of_lt (by omega) (hbb 14 (by decide)))) fun u m5 z5 => ?_
  rcases z5 with ⟨rfl, H5⟩
  have I5 := I.lie (h := o) (r := z.2) (w := ⟨dS, num, s, o⟩) (I.liar ho) mk (.inl rfl) hn
  have w5 := w.send I.ok.lk.lt ⟨dS, num, s, o⟩ ⟨o, z.2, ⟨dS, num, s, o⟩⟩
  refine ⟨a' ++ [o], G ++ [t3.given], _, by rw [e', List.append_assoc]; rfl, by rw [el, List.map_append]; rfl, H5, ?_, X.trans I5.2, by rw [<- List.append_assoc]; exact w5, by rw [List.length_append, List.length_append, gl]; rfl⟩
  refine I5.1.mono ?_
  rw [List.length_append, List.length_singleton]; omega
 ·rintro l m4 ⟨a', G, t3, e', el, H, I, X, w, gl⟩
  rw [List.append_nil] at e'
  subst e'
  have Gl : G.length <= 12 := by rw [gl]; exact K.ll
  refine ⟨by rw [el, List.length_map]; exact bL Gl (by decide), fun q8 m5 l5 k5 g5 => ?_⟩
  have H5 := H.new l5 k5 g5
  rw [el] at k5
  refine bC7 (H5.has (.tail _ (.head _))) k5 (by rw [List.length_map, List.length_map]; unfold lid; omega) fun q9 m6 l6 k6 g6 => ?_
  rw [<- List.map_append] at k6
  have H6 := H5.new l6 k6 g6
  refine b9 ⟨a ++ [z], T2 ++ G, t3, q9, _, _, _, by rw [e, List.append_assoc]; rfl, rfl, H6.sub fun x hx => ?_, fun x hx c => ?_, I.mono ?_, X, w, ?_⟩
  ·rcases List.mem_cons.mp hx with rfl | hx
   ·exact .head _
   ·exact .tail _ (.tail _ (.tail _ hx))
  ·have := aT (H5.has (.tail _ (.tail _ hx)) : _)
   rw [c] at this
   exact Nat.not_lt.mpr g6 this
  ·rw [List.length_append, List.length_singleton]
   have := K.ll
   omega
  ·rw [List.length_append, List.length_append, List.length_singleton]; omega
end
end Mini
namespace Mini
open PySem
theorem aH0 {S : Sig} {F : Fns} {k : IK} {t : CT} {src : List CE} {body ss : List CS} {r : Lo} {m : MH} {Q : Fl × Lo -> MH -> Prop} {E : Nat -> MH -> Prop} {α : Type} (zs : List α) (vv : α -> V) (h : Wp (evs S F src r) m (fun vs m' => Wp (fC k vs) m' (fun p m' => ∃ I : List α -> Lo -> MH -> Prop, p.1 = zs.map vv /\ I zs r m' /\ (∀ zs r m, I zs r m -> p.2.stays m = true) /\
      (∀ z zs r m, I (z :: zs) r m -> Wp (aJ6 t (vv z) r) m (fun r' m' => Wp (exs S F body r') m' (bC4 Q I zs) E) E) /\ (∀ r m, I [] r m -> Wp (exs S F ss r) m Q E)) E) E) : Wp (exs S F (.for_ k t src body :: ss) r) m Q E := by
  refine cX1 (wp_mono h (fun vs m' h => wp_mono h (fun p m' h => ?_) fun y_ y_ q => q) fun y_ y_ q => q)
  rcases h with ⟨I, e0, h0, hg, hs, hn⟩
  refine ⟨fun xs r m => ∃ z, xs = z.map vv /\ I z r m, ⟨zs, e0, h0⟩, fun y_ y_ y_ ⟨_, _, q⟩ => hg _ _ _ q, ?_, ?_⟩
  · rintro x xs r m ⟨z, e, q⟩
    cases z with
    | nil => cases e
    | cons c z =>
      cases e
      refine wp_mono (hs c z r m q) (fun r' m' q => wp_mono q (fun p m' q => ?_) fun y_ y_ q => q) fun y_ y_ q => q
      rcases p with ⟨f, r1⟩
      cases f with
      | ret v => exact q
      | next => exact ⟨z, rfl, q⟩
      | cont => exact ⟨z, rfl, q⟩
  · rintro r m ⟨z, e, q⟩
    cases z with
    | nil => exact hn r m q
    | cons c z => cases e
section
variable {S : Sig} {N : HN} {m : MH} {t : Tn} {L Ns : List Int} {p b q2 q4 : Nat} {B : List (Nat × MObj)} {R : List Str}
inductive SB (N : HN) (p q : Nat) (r0 : Option V -> Lo) (B : List (Nat × MObj)) (L Ns : List Int) (t0 : Tn) (b k : Nat) (zs : List Int) (r : Lo) (m' : MH) : Prop
 | mk (t : Tn) (x : Option V) (er : r = r0 x) (H : Tw m' N p t B) (I : t.In L Ns (b + 300 * (k - zs.length))) (X : t0.Ext t) (w : Wt t zs) (zl : zs.length <= k)
theorem Wt.rev {l : List Int} (h : Wt t l) : Wt t l.reverse := ⟨(List.reverse_perm l).nodup_iff.mpr h.1, fun k hk => h.2 k (List.mem_reverse.mp hk)⟩
theorem Wt.next {t' : Tn} {k : Int} {l : List Int} (h : Wt t (k :: l)) (q : ∀ x ∈ t.lets, x.1 ≠ k -> x ∈ t'.lets) : Wt t' l := by
 have nd := List.nodup_cons.mp h.1
 refine ⟨nd.2, fun j hj => ?_⟩
 rcases h.2 j (.tail _ hj) with ⟨x, hx⟩
 exact ⟨x, q _ hx fun c => nd.1 (c ▸ hj)⟩
theorem cE7 {q : Nat} {l : List Int} (h : m[q]? = some (.list (l.map V.int))) : fC .enum [.ref q] m = .ok ((bB8 0 l).map enV, .list q (l.map V.int)) m := by
 show cR8 (.ref q) m = _
 unfold cR8; dsimp only; rw [h]; dsimp only; rw [bU2]
theorem cA0 (Z : TF S N) {kf : Nat} (h : b0 S kf 5 12 aR3) (n : Nat) {cell : Int} (H : Tw m N p t B) (I : t.In L Ns b) (K : Bs B L R q2 q4) (hL : ∀ x ∈ L, 0 <= x /\ x < t.cnt) (ne : 0 < L.length) (hc : 0 <= cell) (hb : b + 100000 < lid) : Wp (run S (n + 8) kf [.ref p, .int t.cnt, .ref q2, .int cell, .ref q4]) m (fun u m' => Left m' N p t L Ns (b + 100000) B) nox := by
 have k2 := H.has K.li
 have c1 := I.ok.c1
 have c2 := I.ok.c2
 rcases bQ3 (S := S) (F := run S (n + 7)) (r := [some (.ref p), some (.int t.cnt), some (.ref q2), some (.int cell), some (.ref q4), none, none, none, none, none, none, none]) (a := .var 2) (e := .var 3) (x := cell) rfl k2 rfl ne (Nat.le_trans K.ll (by decide)) with ⟨y, e5, hy⟩
 have hy' := hL y hy
 refine bH h rfl (a9 (aE e5 (a9 (aE (a := .int (y + t.cnt * (cell / 7 % 2))) (m' := m) (bE rfl (bE rfl rfl (aM0 (.inl (by omega)))) rfl) ?_))))
 have sk := cG5 (r := row 0 0) (k := cell / 7 % 2) (md0 (by decide)) (md1 (by decide)) (aH1 0 0) hy'.1 hy'.2 c2
 have n0 : 0 <= y + t.cnt * (cell / 7 % 2) := sk.n0
 have n1 : y + t.cnt * (cell / 7 % 2) <= 9999 := sk.n1
 have n2 : (y + t.cnt * (cell / 7 % 2) - y) % t.cnt = 0 := sk.c rfl
 clear sk
 generalize y + t.cnt * (cell / 7 % 2) = num at n0 n1 n2 ⊢
 refine a9 (bJ (aG (aQ fun q7 m1 l1 k1 g1 => ?_)))
 have H1 := H.new l1 k1 g1
 have lt7 : ∀ x ∈ B, x.1 ≠ q7 := fun x hx c => by
  have := aT (H.has hx)
  rw [c] at this
  exact Nat.not_lt.mpr g1 this
 refine aH0 (bB8 0 (aC2 t.cnt L)) enV (aF (cG9 rfl rfl (fun y_ => rfl) (l1.has k2) c1 c2 fun qh m2 l2 kh gh => aG (aE (cE7 kh) ?_)))
 have H2 := H1.new l2 kh gh
 refine ⟨SH N p q2 q4 qh B L (num :: Ns) t b cell y num, rfl, ⟨[], [], t, q7, none, none, none, rfl, rfl, H2.sub fun x hx => ?_, bF (fun c => ?_) lt7, (I.more num).mono (Nat.le_add_right _ _), .refl _, ⟨List.Pairwise.nil, fun k hk => nomatch hk⟩, Nat.zero_le _⟩, ?_, fun z zs r m' J => ?_, ?_⟩
 ·rcases List.mem_cons.mp hx with rfl | hx
  ·exact .tail _ (.head _)
  ·rcases List.mem_cons.mp hx with rfl | hx
   ·exact .head _
   ·exact .tail _ (.tail _ hx)
 ·have := aT k1
  rw [<- show qh = q7 from c] at this
  exact Nat.not_lt.mpr gh this
 ·rintro zs r m' ⟨a, T, t1, q7, x8, x9, x10, e, er, H, ne, I, X, w, tl⟩
  exact cI (H.has (.tail _ (.head _)))
 ·refine wp_mono (bI4 Z (n + 3) K hL hy c1 c2 (.head _) n0 n1 n2 hb J) (fun r' m' q => wp_mono q (fun p_1 m' q => ?_) fun y_ y_ q => q) fun y_ y_ q => q
  rcases p_1 with ⟨f, r1⟩
  cases f with
  | ret v => exact q.elim
  | next => exact q
  | cont => exact q
 ·rintro r m3 ⟨a, T, t1, q7, x8, x9, x10, e, er, H, ne, I, X, w, tl⟩
  subst er
  rw [List.append_nil] at e
  have al : a.length <= 12 := by
   rw [<- e, aR0]; exact Nat.le_trans (aQ1 _ _) (cQ c2)
  refine bN (t := decide (cell / 14 % 3 > 0)) (aU (aP rfl rfl rfl)) ?_
  have B0 : ∀ {m' : MH} {t' : Tn}, Tw m' N p t' ((q7, .list (T.map V.int)) :: (qh, .list ((aC2 t.cnt L).map V.int)) :: B) -> Tw m' N p t' B := fun h => h.sub fun x hx => .tail _ (.tail _ hx)
  cases decide (cell / 14 % 3 > 0) with
  | false => exact b9 ⟨t1, num :: Ns, B0 H, I.mono (by omega), X, Nat.le_refl _⟩
  | true =>
   have k7 := H.has (.head _)
   obtain ⟨T', eT, w', tl'⟩ : ∃ T' : List Int, dI (.ref q7) .none .none (.int (1 - 2 * (cell / 42 % 2))) m3 = alloc (.list (T'.map V.int)) m3 /\ Wt t1 T' /\ T'.length = T.length := by
    have hm : cell / 42 % 2 = 0 \/ cell / 42 % 2 = 1 := by
     have := md0 (x := cell / 42) (n := 2) (by decide)
     have := md1 (x := cell / 42) (n := 2) (by decide)
     omega
    rcases hm with hm | hm
    ·refine ⟨T, ?_, w, rfl⟩
     unfold dI; dsimp only; rw [k7, hm]; rfl
    ·refine ⟨T.reverse, ?_, w.rev, List.length_reverse⟩
     unfold dI; dsimp only; rw [k7, hm, List.map_reverse]; rfl
   refine aH0 T' V.int (aF (aI (aC rfl (aI (aC rfl (aI (aC rfl (aI (aE (a := .int (1 - 2 * (cell / 42 % 2))) (m' := m3) (bE rfl (bE rfl rfl (aM0 (.inl (by decide)))) rfl) (aF8 eT (aQ fun q8 m4 l4 k4 g4 => aG (d9 k4 ?_))))))))))))
   have H4 := H.new l4 k4 g4
   refine ⟨SB N p q8 (fun x => [some (.ref p), some (.int t.cnt), some (.ref q2), some (.int cell), some (.ref q4), some (.int y), some (.int num), some (.ref q7), x8, x9, x10, x]) ((q8, .list (T'.map V.int)) :: B) L (num :: Ns) t (b + 4000 * a.length) T'.length, rfl, ⟨t1, none, rfl, H4.sub fun x hx => ?_, by rw [Nat.sub_self]; exact I, X, w', Nat.le_refl _⟩, ?_, ?_, ?_⟩
   ·rcases List.mem_cons.mp hx with rfl | hx
    ·exact .head _
    ·exact .tail _ (.tail _ (.tail _ hx))
   ·rintro zs r m' ⟨t2, x, er, H, I, X, w, zl⟩
    exact cI (H.has (.head _))
   ·rintro z zs r m' ⟨t2, x, er, H, I, X, w, zl⟩
    subst er
    rcases w.2 z (.head _) with ⟨l, hl⟩
    rw [List.length_cons] at zl I
    refine aC rfl (fD (bI Z H rfl rfl rfl (aC rfl (aV (aN1 Z n H I hl (Nat.lt_of_le_of_lt (by omega) hb)) fun u m5 z_ => b9 ?_))))
    rcases z_ with ⟨t3, H3, I3, X3, q3⟩
    exact ⟨t3, some (.int z), rfl, H3, I3.mono (by omega), X.trans X3, w.next q3, Nat.le_of_succ_le zl⟩
   ·rintro r m' ⟨t2, x, er, H, I, X, w, zl⟩
    exact b9 ⟨t2, num :: Ns, H.tail, I.mono (by rw [List.length_nil, Nat.sub_zero]; omega), X, Nat.le_refl _⟩
end
end Mini
namespace Mini
open PySem
noncomputable def bH2 (kS kL : Nat) : List CS := [
 (.asg (.one (.one 5)) (.comp (.var 11) (.one 11) 1 .range [(.var 1)] [(.val (.cmp (.var 11) [.NotIn] [(.var 2)]))])),
 (.asg (.one (.one 6)) (.bin .Mod (.var 3) (.cnst (Lt.int 8)))),
 (.asg (.one (.one 7)) (.bin .FloorDiv (.var 3) (.cnst (Lt.int 8)))),
 (.ite (.all true [(.val (.cmp (.var 6) [.Lt] [(.cnst (Lt.int 2))])), (.val (.cmp (.var 5) [.NotEq] [(.list [])]))]) [
  (.asg (.one (.one 8)) (.idx (.var 5) (.bin .Mod (.var 7) (.bi .len [(.var 5)])))),
  (.exp (.meth (.var 0) 0 [(.var 8), (.idx (.var 4) (.bin .Mod (.bin .FloorDiv (.var 7) (.cnst (Lt.int 12))) (.cnst (Lt.int 2))))])),
  (.ret (.list [(.tup [(.var 8), (.idx (.var 4) (.bin .Mod (.bin .FloorDiv (.var 7) (.cnst (Lt.int 12))) (.cnst (Lt.int 2))))])]))] []),
 (.ite (.all true [(.val (.cmp (.var 6) [.Eq] [(.cnst (Lt.int 2))])), (.val (.cmp (.var 2) [.NotEq] [(.list [])]))]) [
  (.exp (.call kS [(.var 0), (.var 1), (.var 2), (.var 7), (.var 4)]))] [
  (.ite (.all true [(.val (.cmp (.var 6) [.Eq] [(.cnst (Lt.int 3))])), (.val (.cmp (.var 2) [.NotEq] [(.list [])]))]) [
   (.exp (.call kL [(.var 0), (.var 1), (.var 2), (.var 7), (.var 4)]))] [
   (.for_ .range (.one 9) [(.bin .Add (.cnst (Lt.int 1)) (.bin .Mod (.var 7) (.cnst (Lt.int 9))))] [
    (.asg (.one (.one 10)) (.meth (.var 0) 19 [])),
    (.ite (.val (.cmp (.var 10) [.NotEq] [(.list [])])) [
     (.exp (.meth (.var 0) 18 [(.idx (.idx (.var 10) (.bin .Mod (.bin .Add (.bin .FloorDiv (.var 7) (.cnst (Lt.int 9))) (.bin .Mult (.cnst (Lt.int 5)) (.var 9))) (.bi .len [(.var 10)]))) (.cnst (Lt.int 0)))]))] [])])])]),
 (.ret (.list []))]
section
variable {S : Sig} {N : HN} {m : MH} {t : Tn} {L Ns : List Int} {p b q2 q4 : Nat} {B : List (Nat × MObj)} {R : List Str}
inductive DB (N : HN) (p : Nat) (r0 : Option V -> Option V -> Lo) (B : List (Nat × MObj)) (L Ns : List Int) (t0 : Tn) (b : Nat) (n : Nat) (zs : List Nat) (r : Lo) (m' : MH) : Prop
 | mk (a : List Nat) (t : Tn) (x y : Option V) (e : List.range n = a ++ zs) (er : r = r0 x y) (H : Tw m' N p t B) (I : t.In L Ns (b + 300 * a.length)) (X : t0.Ext t)
theorem bR1 {α : Type} {l : List α} {f : α -> V} (h : (l.map f).isEmpty = false) : 0 < l.length := by
 cases l with
 | nil => cases h
 | cons a l => exact Nat.succ_pos _
theorem Left.up {m' : MH} {b' : Nat} (h : Left m' N p t L Ns b B) (k : b <= b') : Left m' N p t L Ns b' B := by
 rcases h with ⟨t', Ns', h1, h2, h3, h4⟩
 exact ⟨t', Ns', h1, h2.mono k, h3, h4⟩
theorem Left.of_le {m' m'' : MH} (h : Left m' N p t L Ns b B) (l : Le m' m'') : Left m'' N p t L Ns b B := by
 rcases h with ⟨t', Ns', h1, h2, h3, h4⟩
 exact ⟨t', Ns', h1.up l, h2, h3, h4⟩
theorem cS6 (Z : TF S N) {kf kS kL : Nat} (h : b0 S kf 5 11 (bH2 kS kL)) (hS : b0 S kS 5 12 aR3) (hl : b0 S kL 5 10 b_llie) (n : Nat) {cell : Int} (H : Tw m N p t B) (I : t.In L Ns b) (K : Bs B L R q2 q4) (hL : ∀ x ∈ L, 0 <= x /\ x < t.cnt) (hc : 0 <= cell) (hn : Ns.length <= 100) (hb : b + 100000 < lid) : Wp (run S (n + 9) kf [.ref p, .int t.cnt, .ref q2, .int cell, .ref q4]) m (fun u m' => Left m' N p t L Ns (b + 100000) B) nox := by
 have k2 := H.has K.li
 have c1 := I.ok.c1
 have c2 := I.ok.c2
 refine bH h rfl (a9 (cG9 rfl rfl (fun y_ => rfl) k2 c1 c2 fun qh m1 l1 kh gh => ?_))
 have H1 := H.new l1 kh gh
 refine a9 (aC (a := .int (cell % 8)) rfl (a9 (aC (a := .int (cell / 8)) rfl ?_)))
 have mo : 0 <= cell / 8 := Int.ediv_nonneg hc (by decide)
 generalize cell % 8 = way
 generalize cell / 8 = more at mo
 have rest : ∀ m2, Le m1 m2 -> Wp (exs S (run S (n + 8)) ((bH2 kS kL).drop 4) [some (.ref p), some (.int t.cnt), some (.ref q2), some (.int cell), some (.ref q4), some (.ref qh), some (.int way), some (.int more), none, none, none]) m2 (bW8 fun v m' => Left m' N p t L Ns (b + 100000) B) nox := by
  intro m2 l2
  have H2 := H1.up l2
  have fin : ∀ (r : Lo) (m' : MH), Left m' N p t L Ns (b + 100000) B -> Wp (exs S (run S (n + 8)) [(.ret (.list []))] r) m' (bW8 fun v m' => Left m' N p t L Ns (b + 100000) B) nox := fun r m' h => bA (bJ (aG (aQ fun q m'' l k g => h.of_le l)))
  have brg : ∀ m3, Le m2 m3 -> Wp (exs S (run S (n + 8)) [(.for_ .range (.one 9) [(.bin .Add (.cnst (Lt.int 1)) (.bin .Mod (.var 7) (.cnst (Lt.int 9))))] [
    (.asg (.one (.one 10)) (.meth (.var 0) 19 [])),
    (.ite (.val (.cmp (.var 10) [.NotEq] [(.list [])])) [
     (.exp (.meth (.var 0) 18 [(.idx (.idx (.var 10) (.bin .Mod (.bin .Add (.bin .FloorDiv (.var 7) (.cnst (Lt.int 9))) (.bin .Mult (.cnst (Lt.int 5)) (.var 9))) (.bi .len [(.var 10)]))) (.cnst (Lt.int 0)))]))] [])]), (.ret (.list []))] [some (.ref p), some (.int t.cnt), some (.ref q2), some (.int cell), some (.ref q4), some (.ref qh), some (.int way), some (.int more), none, none, none]) m3 (bW8 fun v m' => Left m' N p t L Ns (b + 100000) B) nox := by
   intro m3 l3
   have H3 := H2.up l3
   have u0 : 0 <= more % 9 := md0 (by decide)
   have u1 : more % 9 < 9 := md1 (by decide)
   refine aH0 (List.range (1 + more % 9).toNat) (fun (j : Nat) => V.int (0 + (j : Int))) (aF (aC (a := .int (1 + more % 9)) rfl (aG (aE (aO0 (by omega)) ?_))))
   refine ⟨DB N p (fun x y => [some (.ref p), some (.int t.cnt), some (.ref q2), some (.int cell), some (.ref q4), some (.ref qh), some (.int way), some (.int more), none, x, y]) B L Ns t b (1 + more % 9).toNat, rfl, ⟨[], t, none, none, rfl, rfl, H3.tail, I, .refl _⟩, fun y_ y_ y_ y_ => rfl, ?_, ?_⟩
   ·rintro j js r m4 ⟨a, t1, x, y, e, er, H, I, X⟩
    subst er
    have al : a.length < 9 := by
     have := congrArg List.length e
     rw [List.length_range, List.length_append, List.length_cons] at this
     omega
    have jl : j < 9 := by
     have : j ∈ List.range (1 + more % 9).toNat := by rw [e]; exact List.mem_append_right _ (.head _)
     have := List.mem_range.mp this
     omega
    have bb : b + 300 * a.length + 300 < lid := Nat.lt_of_le_of_lt (by omega) hb
    refine aC rfl (a9 (bI Z H rfl rfl rfl (aC rfl (aV (bY7 Z (n + 6) H I.ok (Nat.lt_of_le_of_lt (Nat.le_add_right _ _) bb)) fun u m5 z_ => ?_))))
    rcases z_ with ⟨q, eu, H5, l5, g5⟩
    subst eu
    have k5 := H5.has (.head _)
    refine aE2 (bQ5 rfl k5 (fun x hx m => rdT x hx m) fun m6 l6 => ?_)
    have k6 := l6.has k5
    have H6 := H5.up l6
    cases hw : t1.lets with
    | nil => exact b9 ⟨a ++ [j], t1, _, _, by rw [e, List.append_assoc]; rfl, rfl, H6.tail, I.mono (by rw [List.length_append, List.length_singleton]; omega), X⟩
    | cons x0 xs0 =>
     have sl : (0 : Int) < ((t1.lets.map bI0).length : Int) := by rw [List.length_map, hw]; exact Int.natCast_pos.mpr (Nat.succ_pos _)
     rcases aX9 (xs := t1.lets.map bI0) (x := more / 9 + 5 * (0 + (j : Int))) sl rfl with ⟨v, h1, h2⟩
     rcases List.mem_map.mp h2 with ⟨x, hx, rfl⟩
     have e1 : ev S (run S (n + 8)) (.idx (.idx (.var 10) (.bin .Mod (.bin .Add (.bin .FloorDiv (.var 7) (.cnst (Lt.int 9))) (.bin .Mult (.cnst (Lt.int 5)) (.var 9))) (.bi .len [(.var 10)]))) (.cnst (Lt.int 0))) [some (.ref p), some (.int t.cnt), some (.ref q2), some (.int cell), some (.ref q4), some (.ref qh), some (.int way), some (.int more), none, some (.int (0 + (j : Int))), some (.ref q)] m6 = .ok (.int x.1) m6 := by
      refine dY (dY rfl (bE (bE rfl (bE rfl rfl (aM0 (.inl (by decide)))) rfl) (aH4 rfl k6) (eR sl)) (cQ6 k6 h1 (mdl sl ?_))) rfl rfl
      rw [List.length_map]
      exact Int.ofNat_le.mpr (Nat.le_trans I.ok.lk.ll (Nat.le_of_lt (Nat.lt_of_le_of_lt (Nat.le_add_right _ _) bb)))
     refine fD (bI Z H6 rfl rfl rfl (aE (aO e1 rfl) (aV (aN1 Z (n + 1) H6 I (l := x.2) hx bb) fun u m7 z_ => b9 ?_)))
     rcases z_ with ⟨t3, H7, I3, X3, q3⟩
     exact ⟨a ++ [j], t3, _, _, by rw [e, List.append_assoc]; rfl, rfl, H7.tail, I3.mono (by rw [List.length_append, List.length_singleton]; omega), X.trans X3⟩
   ·rintro r m4 ⟨a, t1, x, y, e, er, H, I, X⟩
    have al : a.length <= 9 := by
     have := congrArg List.length e
     rw [List.length_range, List.length_append] at this
     omega
    exact fin r m4 ⟨t1, Ns, H, I.mono (by omega), X, Nat.le_succ _⟩
  have k22 := H2.has (.tail _ K.li)
  have thr : ∀ m3, Le m2 m3 -> Wp (exs S (run S (n + 8)) [(.ite (.all true [(.val (.cmp (.var 6) [.Eq] [(.cnst (Lt.int 3))])), (.val (.cmp (.var 2) [.NotEq] [(.list [])]))]) [
   (.exp (.call kL [(.var 0), (.var 1), (.var 2), (.var 7), (.var 4)]))] [
   (.for_ .range (.one 9) [(.bin .Add (.cnst (Lt.int 1)) (.bin .Mod (.var 7) (.cnst (Lt.int 9))))] [
    (.asg (.one (.one 10)) (.meth (.var 0) 19 [])),
    (.ite (.val (.cmp (.var 10) [.NotEq] [(.list [])])) [
     (.exp (.meth (.var 0) 18 [(.idx (.idx (.var 10) (.bin .Mod (.bin .Add (.bin .FloorDiv (.var 7) (.cnst (Lt.int 9))) (.bin .Mult (.cnst (Lt.int 5)) (.var 9))) (.bi .len [(.var 10)]))) (.cnst (Lt.int 0)))]))] [])])]), (.ret (.list []))] [some (.ref p), some (.int t.cnt), some (.ref q2), some (.int cell), some (.ref q4), some (.ref qh), some (.int way), some (.int more), none, none, none]) m3 (bW8 fun v m' => Left m' N p t L Ns (b + 100000) B) nox := by
   intro m3 l3
   refine aE2 (aS8 (cT (aC (a := (way == 3)) rfl ?_)))
   cases way == 3 with
   | false => exact aK9 (brg m3 l3)
   | true =>
    refine fS (cT (bQ5 rfl (l3.has k22) (fun x hx m => rdI x hx m) fun m4 l4 => ?_))
    cases hw : (L.map V.int).isEmpty with
    | true => exact aK9 (brg m4 (l3.trans l4))
    | false =>
     refine fS (aC rfl (fD (d0 (aC rfl (aV (cO8 Z hl (n + 3) (H2.tail.up (l3.trans l4)) I K hL (bR1 hw) mo (Nat.lt_of_le_of_lt (Nat.add_le_add_left (by decide) b) hb)) fun u m5 z => fin _ m5 (z.up (Nat.add_le_add_left (by decide) b)))))))
  refine aE2 (aS8 (cT (aC (a := (way == 2)) rfl ?_)))
  cases way == 2 with
  | false => exact aK9 (thr m2 (.refl _))
  | true =>
   refine fS (cT (bQ5 rfl k22 (fun x hx m => rdI x hx m) fun m4 l4 => ?_))
   cases hw : (L.map V.int).isEmpty with
   | true => exact aK9 (thr m4 l4)
   | false =>
    refine fS (aC rfl (fD (d0 (aC rfl (aV (cA0 Z hS n (H2.tail.up l4) I K hL (bR1 hw) mo hb) fun u m5 z => fin _ m5 z)))))
 refine aE2 (aS8 (cT (aC (a := decide (way < 2)) rfl ?_)))
 cases decide (way < 2) with
 | false => exact aK9 (rest m1 (.refl _))
 | true =>
  refine fS (cT (bQ5 rfl kh (fun x hx m => rdI x hx m) fun m2 l2 => ?_))
  cases hw : ((aC2 t.cnt L).map V.int).isEmpty with
  | true => exact aK9 (rest m2 l2)
  | false =>
   refine fS (aC rfl ?_)
   have H2 := H1.up l2
   rcases bQ3 (S := S) (F := run S (n + 8)) (r := [some (.ref p), some (.int t.cnt), some (.ref q2), some (.int cell), some (.ref q4), some (.ref qh), some (.int way), some (.int more), none, none, none]) (a := .var 5) (e := .var 7) (x := more) rfl (H2.has (.head _)) rfl (bR1 hw) (Nat.le_trans (Nat.le_trans (aQ1 _ _) (cQ c2)) (by decide)) with ⟨y, e5, hy⟩
   rcases I.honest hy with ⟨i, s, hs, eo⟩
   refine a9 (aE e5 ?_)
   rcases bD7 (S := S) (F := run S (n + 8)) (r := [some (.ref p), some (.int t.cnt), some (.ref q2), some (.int cell), some (.ref q4), some (.ref qh), some (.int way), some (.int more), some (.int y), none, none]) (a := .var 4) (e := .bin .FloorDiv (.var 7) (.cnst (Lt.int 12))) (x := more / 12) (H2.has (.tail _ K.ro)) K.len rfl rfl with ⟨rr, hr, er⟩
   have rb := K.row rr hr
   have rl : rr.length <= 64 := by
    have : (cU1 rr && rr.cps.toList.all okC) = true := rb
    rw [Bool.and_eq_true] at this
    have := this.1
    unfold cU1 at this
    rw [Bool.and_eq_true, decide_eq_true_iff, decide_eq_true_iff] at this
    exact Nat.le_trans (Int.ofNat_le.mp this.2) (by decide)
   refine fD (bI Z H2 rfl rfl rfl (aE (aO rfl (aO er rfl)) ?_))
   rw [<- eo]
   refine aV (bZ2 Z n H2 I.ok hs rb rl (Nat.lt_of_le_of_lt (Nat.add_le_add_left (by decide) b) hb)) fun u m3 z_ => ?_
   rcases z_ with ⟨q, eu, H3⟩
   have I3 := I.call hs rb hn
   have k4 := H3.has (.tail _ (.tail _ K.ro))
   rcases bD7 (S := S) (F := run S (n + 8)) (r := [some (.ref p), some (.int t.cnt), some (.ref q2), some (.int cell), some (.ref q4), some (.ref qh), some (.int way), some (.int more), some (.int s.own), none, none]) (a := .var 4) (e := .bin .FloorDiv (.var 7) (.cnst (Lt.int 12))) (x := more / 12) k4 K.len rfl rfl with ⟨rr', hr', er'⟩
   refine bA (bJ (aE (aO (aZ3 (aO rfl (aO er' rfl))) rfl) (aQ fun q' m4 l4 k4' g4 => ?_)))
   exact ⟨_, s.onw :: Ns, (H3.tail.tail).up l4, I3.1.mono (Nat.add_le_add_left (by decide) b), I3.2, Nat.le_refl _⟩
end
end Mini
namespace Mini
open PySem
section
variable {t : Tn} {L Ns : List Int} {b : Nat} {s s1 s2 : Hs} {x1 x2 : Int × Str × List Wo}
theorem Tn.In.true_ (I : t.In L Ns b) {a w : Wo} (ha : a ∈ t.said) (hw : w ∈ t.said) (h : a.h ∉ L) : ¬ bZ a w = true := fun u => by
 have hk := I.fine.wo a ha
 rcases I.honest (hon_iff.mpr ⟨hk.h0, hk.h1, h⟩) with ⟨i, s, hs, e⟩
 have F := I.fine.hs s (List.mem_of_getElem? hs)
 exact F.un a (F.ow a ha e.symm) w (F.ow w hw ((unlike_iff.mp u).1.symm.trans e.symm)) e.symm u
theorem Tn.In.marks (I : t.In L Ns b) (hs : s ∈ t.hs) (hx : x1 ∈ s.rows) : ∀ w ∈ x1.2.2, w ∈ t.said /\ w = mrk x1.1 x1.2.1 w.h /\ 0 <= w.h /\ w.h < t.cnt := fun w hw => by
 have F := I.fine.hs s hs
 have k := F.rk x1 hx w hw
 have sd := F.kn w k.1
 have o := I.fine.wo w sd
 exact ⟨sd, k.2, o.h0, o.h1⟩
theorem share {c : Int} (c0 : 0 <= c) {A C : List Int} (a : A.Nodup) (hc : C.Nodup) (ra : ∀ x ∈ A, 0 <= x /\ x < c) (rc : ∀ x ∈ C, 0 <= x /\ x < c) : (A.length : Int) + C.length - c <= (A.filter fun x => decide (x ∈ C)).length := by
 have nd : (C ++ A.filter fun x => !decide (x ∈ C)).Nodup := List.nodup_append.mpr ⟨hc, a.filter _, fun x hx y hy e => by
  have := (List.mem_filter.mp hy).2
  rw [<- e, decide_eq_true hx] at this
  cases this⟩
 have le := aP8 (c := c) nd fun x hx => by
  rcases List.mem_append.mp hx with hx | hx
  ·exact rc x hx
  ·exact ra x (List.mem_filter.mp hx).1
 have sp : (A.filter fun x => decide (x ∈ C)).length + (A.filter fun x => !decide (x ∈ C)).length = A.length := by
  clear nd le a ra
  induction A with
  | nil => rfl
  | cons x A ih =>
   rw [List.filter_cons, List.filter_cons, List.length_cons]
   cases decide (x ∈ C)
   ·show (A.filter _).length + ((A.filter _).length + 1) = _; rw [<- Nat.add_assoc, ih]
   ·show (A.filter _).length + 1 + (A.filter _).length = _; rw [Nat.add_right_comm, ih]
 rw [List.length_append] at le
 omega
theorem Tn.In.quorum (I : t.In L Ns b) (h1 : s1 ∈ t.hs) (h2 : s2 ∈ t.hs) (q1 : x1 ∈ s1.rows) (q2 : x2 ∈ s2.rows) : ∃ C : List Int, C.Nodup /\ 2 * bR t.cnt - t.cnt <= (C.length : Int) /\ ∀ j ∈ C, (∃ w ∈ x1.2.2, w.h = j) /\ ∃ w ∈ x2.2.2, w.h = j := by
 have F1 := I.fine.hs s1 h1
 have F2 := I.fine.hs s2 h2
 have e1 := F1.re x1 q1
 have e2 := F2.re x2 q2
 rw [(I.fine.rg s1 h1).2.2] at e1
 rw [(I.fine.rg s2 h2).2.2] at e2
 have sh := share (Int.le_trans (by decide) I.ok.c1) (F1.rd x1 q1) (F2.rd x2 q2) (fun x hx => by
  rcases List.mem_map.mp hx with ⟨w, hw, rfl⟩
  exact (I.marks h1 q1 w hw).2.2) fun x hx => by
  rcases List.mem_map.mp hx with ⟨w, hw, rfl⟩
  exact (I.marks h2 q2 w hw).2.2
 rw [List.length_map, List.length_map] at sh
 refine ⟨_, (F1.rd x1 q1).filter _, Int.le_trans ?_ sh, fun j hj => ?_⟩
 ·omega
 ·have hj := List.mem_filter.mp hj
  exact ⟨List.mem_map.mp hj.1, List.mem_map.mp (of_decide_eq_true hj.2)⟩
theorem aW9 (c : Int) : (c - 1) / 3 < 2 * bR c - c := by
 unfold bR
 omega
theorem Tn.In.same (I : t.In L Ns b) (h1 : s1 ∈ t.hs) (h2 : s2 ∈ t.hs) (q1 : x1 ∈ s1.rows) (q2 : x2 ∈ s2.rows) (en : x1.1 = x2.1) (few : (L.length : Int) <= (t.cnt - 1) / 3) : x1.2.1 = x2.2.1 := by
 rcases I.quorum h1 h2 q1 q2 with ⟨C, nd, le, hC⟩
 by_cases z : ∀ j ∈ C, j ∈ L
 ·have := nd.length_le_of_subset z
  have := aW9 t.cnt
  omega
 ·rcases Classical.not_forall.mp z with ⟨j, hj⟩
  rcases Classical.not_imp.mp hj with ⟨hjC, hjL⟩
  rcases hC j hjC with ⟨⟨w1, g1, e1⟩, w2, g2, e2⟩
  have m1 := I.marks h1 q1 w1 g1
  have m2 := I.marks h2 q2 w2 g2
  have nu := I.true_ m1.1 m2.1 (by rw [e1]; exact hjL)
  refine Classical.byContradiction fun c => nu (unlike_iff.mpr ⟨e1.trans e2.symm, ?_, ?_, ?_⟩)
  ·rw [m1.2.1, m2.2.1]; rfl
  ·rw [m1.2.1, m2.2.1]; exact en
  ·rw [m1.2.1, m2.2.1]; exact c
theorem Tn.In.named (I : t.In L Ns b) (hs : s ∈ t.hs) : ∀ x ∈ s.named, x.1 ∈ L /\ x.2.1 ∈ t.said /\ x.2.2 ∈ t.said /\ bZ x.2.1 x.2.2 = true /\ x.1 = x.2.2.h := fun x hx => by
 have F := I.fine.hs s hs
 have k := F.nk x hx
 have a := F.kn _ k.1
 have c := F.kn _ k.2.1
 refine ⟨Classical.byContradiction fun z => I.true_ a c ?_ k.2.2.1, a, c, k.2.2⟩
 rw [(unlike_iff.mp k.2.2.1).1, <- k.2.2.2]; exact z
end
theorem bG0 : ∀ {l acc : List Int}, (acc ++ l).Nodup -> l.foldl bZ6 acc = acc ++ l
 | [], acc, _ => (List.append_nil acc).symm
 | x :: l, acc, h => by
  have hx : (acc.any fun y => y == x) = false := by
   rw [List.any_eq_false]
   intro y hy e
   exact (List.nodup_append.mp h).2.2 y hy x (.head _) (eq_of_beq e)
  have e : bZ6 acc x = acc ++ [x] := by unfold bZ6; rw [if_neg (by rw [hx]; exact Bool.false_ne_true)]
  rw [List.foldl_cons, e, bG0 (by rw [List.append_assoc]; exact h), List.append_assoc]; rfl
theorem aV1 : ∀ l : List Int, eU (l.map V.int) = some l
 | [] => rfl
 | i :: l => by show (eU (l.map V.int)).map _ = _; rw [aV1 l]; rfl
section
variable {S : Sig} {F : Fns} {r : Lo} {m : MH} {p q : Nat}
theorem aU6 {l : List Int} (h : m[p]? = some (.list (l.map V.int))) (nd : l.Nodup) (hl : l.length < 4000) : biV .lenset [.ref p] m = .ok (.int l.length) m := by
 unfold biV; dsimp only; rw [h]; dsimp only; rw [aV1]; dsimp only
 rw [if_pos hl]
 unfold aJ0
 rw [bG0 (acc := []) nd]; rfl
theorem cD3 {ws : List Wo} (h : m[p]? = some (.list (ws.map Wo.v))) (w : Wo) : inV w.v (.ref p) m = .ok (decide (w ∈ ws)) m := by
 unfold inV; dsimp only; rw [h]; dsimp only; rw [show aA0 (rd aI9 m) (ws.map Wo.v) = some (ws.map Wo.d) from aF1 m 10 ws]
 show Res.ok ((ws.map Wo.d).any fun e => PyData.eqv e w.d) m = _
 rw [List.any_map]
 congr 1
 rw [Bool.eq_iff_iff, decide_eq_true_iff, List.any_eq_true]
 exact ⟨fun z_ => by
  rcases z_ with ⟨x, hx, e⟩
  have e : PyData.eqv x.d w.d = true := e
  rw [cR7, decide_eq_true_iff] at e
  exact e ▸ hx, fun hx => ⟨w, hx, by show PyData.eqv w.d w.d = true; rw [cR7]; exact decide_eq_true rfl⟩⟩
theorem fQ {ws : List Wo} (h : m[p]? = some (.list (ws.map Wo.v))) (w : Wo) (hw : w ∈ ws) : aJ1 .NotIn w.v (.ref p) m = .ok false m := by
 show Res.bind (inV w.v (.ref p) m) _ = _
 rw [cD3 h, decide_eq_true hw]; rfl
theorem aC9 {is : List Int} (h : m[p]? = some (.list (is.map V.int))) (x : Int) : aJ1 .NotIn (.int x) (.ref p) m = .ok (!decide (x ∈ is)) m := by
 show Res.bind (inV (.int x) (.ref p) m) _ = _
 rw [bT1 h, bW2]; rfl
theorem aP5 {j k : Int} {v : V} : ∀ {d : List (Ky × V)}, bM (.int j) (put (.int k) v d) = if j = k then some v else bM (.int j) d
 | [] => by
  show (if Ky.int k = Ky.int j then some v else none) = _
  by_cases e : j = k
  ·rw [if_pos e, if_pos (by rw [e])]
  ·rw [if_neg e, if_neg fun c => e (aM3 c).symm]; rfl
 | (a, x) :: d => by
  show bM (.int j) (if a = Ky.int k then (a, v) :: d else (a, x) :: put (.int k) v d) = _
  by_cases ea : a = Ky.int k
  ·rw [if_pos ea]
   show (if a = Ky.int j then some v else bM (.int j) d) = if j = k then some v else if a = Ky.int j then some x else bM (.int j) d
   by_cases e : j = k
   ·rw [if_pos e, if_pos (by rw [ea, e])]
   ·rw [if_neg e, if_neg fun c => e (aM3 (c.symm.trans ea)), if_neg fun c => e (aM3 (c.symm.trans ea))]
  ·rw [if_neg ea]
   show (if a = Ky.int j then some x else bM (.int j) (put (.int k) v d)) = if j = k then some v else if a = Ky.int j then some x else bM (.int j) d
   rw [aP5]
   by_cases e : j = k
   ·rw [if_pos e, if_pos e, if_neg fun c => ea (by rw [c, e])]
   ·rw [if_neg e, if_neg e]
theorem cK3 {E : Nat -> MH -> Prop} {e : Nat} {j : Int} {x : V} {d : List (Ky × V)} {Q : V -> MH -> Prop} (h : m[p]? = some (.dict d e)) (hs : aJ (.int j) d = true) (q : Q ((bM (.int j) d).getD x) m) : Wp (dH 1 (.ref p) .get [.int j, x]) m Q E := by
 refine aE (m' := m) ?_ q
 show (match m[p]? with | some (.dict kvs e) => aI8 p kvs e .get [.int j, x] m | _ => .bad) = _
 rw [h]
 show (if aJ (.int j) d = true then Res.ok ((bM (.int j) d).getD x) m else .bad) = _
 rw [if_pos hs]
theorem e8 {j k : Int} {d : List (Ky × V)} (h : aJ (.int j) d = true) : aJ (.int k) d = true := h
end
end Mini
namespace Mini
open PySem
theorem dA0 (c : Int) (L : List Int) : (aC2 c L).Nodup := by
 unfold aC2 aQ2
 refine List.Pairwise.filter _ ?_
 refine List.pairwise_map.mpr ?_
 refine List.Pairwise.imp (R := fun a b => a ≠ b) ?_ List.nodup_range
 intro a b q e
 exact q (Int.ofNat_inj.mp e)
theorem cY1 {c : Int} {L : List Int} (c1 : 1 <= c) (c2 : c <= 12) : (Tn.new c L).In L [] 0 := by
 have hm : ∀ s ∈ (Tn.new c L).hs, ∃ o, 0 <= o /\ o < c /\ s = Hs.new c o := fun s hs => by
  rcases List.mem_map.mp hs with ⟨o, ho, rfl⟩
  have := hon_iff.mp ho
  exact ⟨o, this.1, this.2.1, rfl⟩
 have eo : (Tn.new c L).hs.map (·.own) = aC2 c L := by
  show ((aC2 c L).map (Hs.new c)).map (·.own) = _
  rw [List.map_map]; exact List.map_id _
 refine ⟨⟨fun s hs => ?_, fun x q => absurd q List.not_mem_nil, fun w q => absurd q List.not_mem_nil, fun w q => absurd q List.not_mem_nil, fun s hs => ?_, fun s hs => ?_⟩, ⟨⟨fun x q => absurd q List.not_mem_nil, Nat.le_refl _, Nat.le_refl _⟩, c1, c2, by rw [eo]; exact dA0 c L, fun s hs => ?_, List.Pairwise.nil⟩, eo⟩
 all_goals rcases hm s hs with ⟨o, h0, h1, rfl⟩
 ·exact ⟨fun w q => absurd q List.not_mem_nil, fun w q => absurd q List.not_mem_nil, fun w q => absurd q List.not_mem_nil, fun w q => absurd q List.not_mem_nil, List.Pairwise.nil, fun w q => absurd q List.not_mem_nil, fun w q => absurd q List.not_mem_nil, fun w q => absurd q List.not_mem_nil, List.Pairwise.nil, fun w q => absurd q List.not_mem_nil⟩
 ·exact ⟨h0, h1, rfl⟩
 ·refine ⟨?_, h0, ?_⟩
  ·show (o - o) % c = 0
   rw [Int.sub_self, Int.zero_emod]
  ·show o <= 12 * (((0 : Nat) : Int) + 1)
   omega
 ·exact ⟨rfl, Nat.le_refl _⟩
section
variable {S : Sig} {N : HN} {m : MH} {B : List (Nat × MObj)}
theorem cN3 (Z : TF S N) {n : Nat} {r : Lo} {E : Nat -> MH -> Prop} {Q : V -> MH -> Prop} {c : Int} {L : List Int} {a l : CE} {ql : Nat} (ha : ev S (run S (n + 4)) a r m = .ok (.int c) m) (hl : ev S (run S (n + 4)) l r m = .ok (.ref ql) m) (kl : m[ql]? = some (.list (L.map V.int))) (hB : ∀ x ∈ B, m[x.1]? = some x.2) (c1 : 1 <= c) (c2 : c <= 12) (hL : ∀ x ∈ L, 0 <= x /\ x < c) (nd : L.Nodup)
  (q : ∀ p m', Tw m' N p (Tn.new c L) B -> Q (.ref p) m') : Wp (ev S (run S (n + 4)) (.new (N.C + 2) [a, (.bi .list [l])]) r) m Q E := by
 have el : ev S (run S (n + 4)) (.bi .list [l]) r m = .ok (.ref m.length) (m ++ [.list (L.map V.int)]) := by
  show Res.bind (Res.bind (ev S (run S (n + 4)) l r m) _) _ = _
  rw [hl]
  show biV .list [.ref ql] m = _
  unfold biV; dsimp only; rw [kl]; rfl
 rcases Z.town with ⟨d, h1, h2, h3, y_⟩
 refine bQ8 (aF (aE ha (aF (aE el (aG ⟨d, N.ki + 13, h1, h2, h3, ?_⟩)))))
 have kq : (m ++ [MObj.list (L.map V.int)])[m.length]? = some (.list (L.map V.int)) := bO
 have l1 : Le m (m ++ [.list (L.map V.int)]) := .app _ _
 generalize m ++ [MObj.list (L.map V.int)] = m1 at kq l1 ⊢
 have l2 : Le m1 (m1 ++ [.inst (N.C + 2) []]) := .app _ _
 refine wp_mono (aV (bZ0 Z n (B := B) (p := m1.length) (q := m.length) bO (fun x hx => ⟨?_, l2.has (l1.has (hB x hx))⟩) (l2.has kq) c1 c2 hL nd) fun u m' z => z) (fun u m' z => ⟨z.1, q _ _ z.2⟩) fun y_ y_ z => z
 have := aT (l1.has (hB x hx))
 exact Nat.ne_of_lt this
end
end Mini
namespace C11
open PySem Mini
noncomputable def bK1 : List CS := aD7
noncomputable def aV6 : List CS := bG7 0 0 2
noncomputable def aV7 : List CS := cI6 1
noncomputable def f_enough : List CS := bH1 1 2
noncomputable def cE2 : List CS := aF4 1 2
noncomputable def cE3 : List CS := aF5
noncomputable def bU0 : List CS := aJ5 1 0 4 5 3
noncomputable def aW2 : List CS := bG3
noncomputable def aV9 : List CS := bW0 1 0 3
noncomputable def aW1 : List CS := cI8 4 4
noncomputable def aW0 : List CS := cI7 7
noncomputable def aI6 : List CS := aX8
noncomputable def aI5 : List CS := aX5 3
noncomputable def aK5 : List CS := bG8
noncomputable def aK6 : List CS := bG9
noncomputable def aI7 : List CS := eZ 0 8
noncomputable def aK7 : List CS := bH3
noncomputable def bB1 : List CS := bV9
noncomputable def bB0 : List CS := cI5
noncomputable def aV5 : List CS := bG6 0 7
noncomputable def aK4 : List CS := bV8
noncomputable def bA8 : List CS := bV6 1 0 3 9
noncomputable def aQ8 : List CS := bH0 0 3
noncomputable def bA7 : List CS := cI4
noncomputable def bA9 : List CS := bV7
noncomputable def aV4 : List CS := bG4
noncomputable def bJ8 : List CS := dC6 0 6 3 5 6
noncomputable def aK2 : List CS := bV5
noncomputable def aQ6 : List CS := bG5
noncomputable def aQ7 : List CS := aX6
noncomputable def aK3 : List CS := aN3
noncomputable def aQ9 : List CS := aX7
noncomputable def cE1 : List CS := b_at
noncomputable def bB2 : List CS := aD7
noncomputable def bT8 : List CS := b_row
noncomputable def bB4 : List CS := aR4
noncomputable def bB5 : List CS := aR5
noncomputable def bB3 : List CS := aR3
noncomputable def bT9 : List CS := b_llie
noncomputable def bK0 : List CS := bH2 37 38
noncomputable def aV8 : List CS := aJ4
noncomputable def aE6 : List CS := [
 (.for_ .expr (.one 5) [(.var 0)] [
  (.ite (.all false [(.val (.cmp (.slice (.var 5) (.cnst Lt.none) (.cnst (Lt.int 3)) (.cnst Lt.none)) [.NotEq] [(.tup [(.cnst (Lt.str (Str.ofString "mark"))), (.var 2), (.var 3)])])), (.val (.cmp (.var 5) [.NotIn] [(.var 4)]))]) [
   (.ret (.cnst (Lt.bool false)))] [])]),
 (.ret (.boolop true [(.cmp (.bi .lenset [(.comp (.idx (.var 6) (.cnst (Lt.int 3))) (.one 6) 1 .expr [(.var 0)] [])]) [.Eq] [(.bi .len [(.var 0)])]), (.cmp (.bi .len [(.var 0)]) [.GtE] [(.call 40 [(.var 1)])])]))]
noncomputable def aD3 : List CS := [
 (.for_ .expr (.many [3, 4, 5]) [(.var 0)] [
  (.ite (.all false [(.val (.cmp (.var 3) [.NotIn] [(.var 1)])), (.val (.cmp (.var 4) [.NotIn] [(.var 2)])), (.val (.cmp (.var 5) [.NotIn] [(.var 2)]))]) [
   (.ret (.cnst (Lt.bool false)))] []),
  (.ite (.all false [(.val (.cmp (.idx (.var 4) (.cnst (Lt.int 0))) [.NotEq] [(.idx (.var 5) (.cnst (Lt.int 0)))])), (.val (.cmp (.idx (.var 4) (.cnst (Lt.int 1))) [.NotEq] [(.idx (.var 5) (.cnst (Lt.int 1)))])), (.val (.cmp (.idx (.var 4) (.cnst (Lt.int 3))) [.NotEq] [(.var 3)])), (.val (.cmp (.idx (.var 5) (.cnst (Lt.int 3))) [.NotEq] [(.var 3)])), (.val (.cmp (.idx (.var 4) (.cnst (Lt.int 2))) [.Eq] [(.idx (.var 5) (.cnst (Lt.int 2)))]))]) [
   (.ret (.cnst (Lt.bool false)))] [])]),
 (.ret (.cmp (.bi .lenset [(.comp (.idx (.var 6) (.cnst (Lt.int 0))) (.one 6) 1 .expr [(.var 0)] [])]) [.Eq] [(.bi .len [(.var 0)])]))]
noncomputable def bJ9 : List CS := [
 (.asg (.one (.one 4)) (.meth (.var 0) 25 [])),
 (.for_ .range (.one 5) [(.var 1)] [
  (.ite (.val (.cmp (.var 5) [.NotIn] [(.var 2)])) [
   (.asg (.one (.one 6)) (.meth (.var 0) 5 [(.var 5)])),
   (.for_ .expr (.one 7) [(.var 6)] [
    (.ite (.val (.cmp (.smeth (.var 3) .get [(.var 7), (.idx (.var 6) (.var 7))]) [.NotEq] [(.idx (.var 6) (.var 7))])) [
     (.ret (.cnst (Lt.bool false)))] []),
    (.asg (.idx (.var 3) (.var 7)) (.idx (.var 6) (.var 7))),
    (.ite (.not (.val (.call 41 [(.meth (.var 0) 6 [(.var 5), (.var 7)]), (.var 1), (.var 7), (.idx (.var 6) (.var 7)), (.var 4)]))) [
     (.ret (.cnst (Lt.bool false)))] [])]),
   (.ite (.not (.val (.call 42 [(.meth (.var 0) 7 [(.var 5)]), (.var 2), (.var 4)]))) [
    (.ret (.cnst (Lt.bool false)))] [])] [])]),
 (.ret (.cnst (Lt.bool true)))]
noncomputable def f_law : List CS := [
 (.asg (.one (.one 1)) (.bi .abs [(.call 32 [(.var 0), (.cnst (Lt.int 0))])])),
 (.asg (.one (.one 2)) (.call 36 [(.var 1)])),
 (.asg (.one (.one 3)) (.call 35 [(.call 32 [(.var 0), (.cnst (Lt.int 1))]), (.var 2), (.bi .max2 [(.cnst (Lt.int 0)), (.bin .Sub (.bin .FloorDiv (.bin .Sub (.var 2) (.cnst (Lt.int 1))) (.cnst (Lt.int 3))) (.bi .int [(.cmp (.bin .Mod (.bin .FloorDiv (.var 1) (.cnst (Lt.int 35))) (.cnst (Lt.int 7))) [.Eq] [(.cnst (Lt.int 3))])]))])])),
 (.asg (.one (.one 4)) (.comp (.call 34 [(.bin .Mod (.bi .abs [(.call 32 [(.var 0), (.cnst (Lt.int 2))])]) (.cnst (Lt.int 100003))), (.var 12)]) (.one 12) 1 .range [(.cnst (Lt.int 2))] [])),
 (.asg (.one (.one 5)) (.new 11 [(.var 2), (.bi .list [(.var 3)])])),
 (.asg (.one (.one 6)) (.dict [] [])),
 (.asg (.one (.one 7)) (.dict [] [])),
 (.for_ .expr (.one 8) [(.slice (.var 0) (.cnst (Lt.int 3)) (.cnst (Lt.int 23)) (.cnst Lt.none))] [
  (.exp (.call 39 [(.var 5), (.var 2), (.var 3), (.bi .abs [(.var 8)]), (.var 4)])),
  (.ite (.not (.val (.call 43 [(.var 5), (.var 2), (.var 3), (.var 6)]))) [
   (.ret (.cnst (Lt.bool false)))] []),
  (.for_ .range (.one 9) [(.var 2)] [
   (.ite (.val (.cmp (.var 9) [.NotIn] [(.var 3)])) [
    (.asg (.one (.one 10)) (.meth (.var 5) 5 [(.var 9)])),
    (.asg (.one (.one 11)) (.smeth (.var 7) .get [(.var 9), (.dict [] [])])),
    (.ite (.val (.cmp (.comp (.var 12) (.one 12) 1 .expr [(.var 11)] [(.val (.cmp (.smeth (.var 10) .get [(.var 12), (.cnst (Lt.str (Str.ofString "")))]) [.NotEq] [(.idx (.var 11) (.var 12))]))]) [.NotEq] [(.list [])])) [
     (.ret (.cnst (Lt.bool false)))] []),
    (.asg (.idx (.var 7) (.var 9)) (.var 10))] [])])]),
 (.ret (.cnst (Lt.bool true)))]
noncomputable def sig : Sig := {
 fns := [
  { name := (Str.ofString "is_whole"), np := 1, names := [(Str.ofString "thing")], body := bK1 },
  { name := (Str.ofString "need_count"), np := 1, names := [(Str.ofString "count")], body := aV6 },
  { name := (Str.ofString "most_liars"), np := 1, names := [(Str.ofString "count")], body := aV7 },
  { name := (Str.ofString "enough"), np := 1, names := [(Str.ofString "count")], body := f_enough },
  { name := (Str.ofString "is_row"), np := 1, names := [(Str.ofString "thing"), (Str.ofString "sign")], body := cE2 },
  { name := (Str.ofString "caller"), np := 2, names := [(Str.ofString "count"), (Str.ofString "number")], body := cE3 },
  { name := (Str.ofString "is_word"), np := 2, names := [(Str.ofString "count"), (Str.ofString "thing")], body := bU0 },
  { name := (Str.ofString "are_unlike"), np := 2, names := [(Str.ofString "one"), (Str.ofString "other")], body := aW2 },
  { name := (Str.ofString "__init__"), np := 3, names := [(Str.ofString "self"), (Str.ofString "count"), (Str.ofString "own")], body := aV9 },
  { name := (Str.ofString "call"), np := 2, names := [(Str.ofString "self"), (Str.ofString "row"), (Str.ofString "word")], body := aW1 },
  { name := (Str.ofString "hear"), np := 2, names := [(Str.ofString "self"), (Str.ofString "word"), (Str.ofString "ahead")], body := aW0 },
  { name := (Str.ofString "marking"), np := 2, names := [(Str.ofString "self"), (Str.ofString "word"), (Str.ofString "mark")], body := aI6 },
  { name := (Str.ofString "writing"), np := 3, names := [(Str.ofString "self"), (Str.ofString "number"), (Str.ofString "row"), (Str.ofString "marks")], body := aI5 },
  { name := (Str.ofString "naming"), np := 3, names := [(Str.ofString "self"), (Str.ofString "word"), (Str.ofString "ahead")], body := aK5 },
  { name := (Str.ofString "ledger"), np := 1, names := [(Str.ofString "self"), (Str.ofString "found"), (Str.ofString "number")], body := aK6 },
  { name := (Str.ofString "backing"), np := 2, names := [(Str.ofString "self"), (Str.ofString "number")], body := aI7 },
  { name := (Str.ofString "caught"), np := 1, names := [(Str.ofString "self")], body := aK7 },
  { name := (Str.ofString "__init__"), np := 1, names := [(Str.ofString "self")], body := bB1 },
  { name := (Str.ofString "send"), np := 2, names := [(Str.ofString "self"), (Str.ofString "letter"), (Str.ofString "number")], body := bB0 },
  { name := (Str.ofString "bring"), np := 2, names := [(Str.ofString "self"), (Str.ofString "number")], body := aV5 },
  { name := (Str.ofString "waiting"), np := 1, names := [(Str.ofString "self")], body := aK4 },
  { name := (Str.ofString "__init__"), np := 3, names := [(Str.ofString "self"), (Str.ofString "count"), (Str.ofString "liars"), (Str.ofString "told"), (Str.ofString "house")], body := bA8 },
  { name := (Str.ofString "honest"), np := 2, names := [(Str.ofString "self"), (Str.ofString "house")], body := aQ8 },
  { name := (Str.ofString "tell"), np := 3, names := [(Str.ofString "self"), (Str.ofString "house"), (Str.ofString "words"), (Str.ofString "word"), (Str.ofString "other")], body := bA7 },
  { name := (Str.ofString "call"), np := 3, names := [(Str.ofString "self"), (Str.ofString "house"), (Str.ofString "row"), (Str.ofString "words")], body := bA9 },
  { name := (Str.ofString "bring"), np := 2, names := [(Str.ofString "self"), (Str.ofString "number"), (Str.ofString "letter")], body := aV4 },
  { name := (Str.ofString "lie"), np := 4, names := [(Str.ofString "self"), (Str.ofString "house"), (Str.ofString "receiver"), (Str.ofString "word")], body := bJ8 },
  { name := (Str.ofString "waiting"), np := 1, names := [(Str.ofString "self")], body := aK2 },
  { name := (Str.ofString "spoken"), np := 1, names := [(Str.ofString "self")], body := aQ6 },
  { name := (Str.ofString "ledger"), np := 2, names := [(Str.ofString "self"), (Str.ofString "house")], body := aQ7 },
  { name := (Str.ofString "backing"), np := 3, names := [(Str.ofString "self"), (Str.ofString "house"), (Str.ofString "number")], body := aK3 },
  { name := (Str.ofString "caught"), np := 2, names := [(Str.ofString "self"), (Str.ofString "house")], body := aQ9 },
  { name := (Str.ofString "_law_at"), np := 2, names := [(Str.ofString "_law_script"), (Str.ofString "_law_k")], body := cE1 },
  { name := (Str.ofString "_law_whole"), np := 1, names := [(Str.ofString "_law_thing")], body := bB2 },
  { name := (Str.ofString "_law_row"), np := 2, names := [(Str.ofString "_law_base"), (Str.ofString "_law_k"), (Str.ofString "_law_letters"), (Str.ofString "_law_turned"), (Str.ofString "_law_size"), (Str.ofString "_law_tail"), (Str.ofString "_law_at_here")], body := bT8 },
  { name := (Str.ofString "_law_liars"), np := 3, names := [(Str.ofString "_law_cell"), (Str.ofString "_law_count_here"), (Str.ofString "_law_many"), (Str.ofString "_law_left"), (Str.ofString "_law_found")], body := bB4 },
  { name := (Str.ofString "_law_count"), np := 1, names := [(Str.ofString "_law_cell")], body := bB5 },
  { name := (Str.ofString "_law_split"), np := 5, names := [(Str.ofString "_law_town"), (Str.ofString "_law_count_here"), (Str.ofString "_law_liars_here"), (Str.ofString "_law_cell"), (Str.ofString "_law_rows"), (Str.ofString "_law_liar"), (Str.ofString "_law_number"), (Str.ofString "_law_told"), (Str.ofString "_law_k"), (Str.ofString "_law_house"), (Str.ofString "_law_row_here"), (Str.ofString "_law_letter")], body := bB3 },
  { name := (Str.ofString "_law_lie"), np := 5, names := [(Str.ofString "_law_town"), (Str.ofString "_law_count_here"), (Str.ofString "_law_liars_here"), (Str.ofString "_law_cell"), (Str.ofString "_law_rows"), (Str.ofString "_law_liar"), (Str.ofString "_law_receiver"), (Str.ofString "_law_number"), (Str.ofString "_law_word"), (Str.ofString "_law_spoken")], body := bT9 },
  { name := (Str.ofString "_law_deed"), np := 5, names := [(Str.ofString "_law_town"), (Str.ofString "_law_count_here"), (Str.ofString "_law_liars_here"), (Str.ofString "_law_cell"), (Str.ofString "_law_rows"), (Str.ofString "_law_honest"), (Str.ofString "_law_way"), (Str.ofString "_law_more"), (Str.ofString "_law_house"), (Str.ofString "_law_k"), (Str.ofString "_law_waiting")], body := bK0 },
  { name := (Str.ofString "_law_enough"), np := 1, names := [(Str.ofString "_law_count_here"), (Str.ofString "_law_wanted")], body := aV8 },
  { name := (Str.ofString "_law_is_backing"), np := 5, names := [(Str.ofString "_law_backing"), (Str.ofString "_law_count_here"), (Str.ofString "_law_number"), (Str.ofString "_law_row_here"), (Str.ofString "_law_spoken"), (Str.ofString "_law_word")], body := aE6 },
  { name := (Str.ofString "_law_named_right"), np := 3, names := [(Str.ofString "_law_names"), (Str.ofString "_law_liars_here"), (Str.ofString "_law_spoken"), (Str.ofString "_law_house"), (Str.ofString "_law_one"), (Str.ofString "_law_other")], body := aD3 },
  { name := (Str.ofString "_law_good"), np := 4, names := [(Str.ofString "_law_town"), (Str.ofString "_law_count_here"), (Str.ofString "_law_liars_here"), (Str.ofString "_law_rows"), (Str.ofString "_law_spoken"), (Str.ofString "_law_house"), (Str.ofString "_law_found"), (Str.ofString "_law_number")], body := bJ9 },
  { name := (Str.ofString "law"), np := 1, names := [(Str.ofString "_law_script"), (Str.ofString "_law_first"), (Str.ofString "_law_count_here"), (Str.ofString "_law_liars_here"), (Str.ofString "_law_texts"), (Str.ofString "_law_town"), (Str.ofString "_law_rows"), (Str.ofString "_law_ledgers"), (Str.ofString "_law_cell"), (Str.ofString "_law_house"), (Str.ofString "_law_now"), (Str.ofString "_law_ahead")], body := f_law }],
 cls := [
  { name := (Str.ofString "ValueError"), init := none, meths := [], exc := false, supers := [0] },
  { name := (Str.ofString "HouseError"), init := none, meths := [], exc := true, supers := [1, 0] },
  { name := (Str.ofString "BadCount"), init := none, meths := [], exc := true, supers := [2, 1, 0] },
  { name := (Str.ofString "BadHouse"), init := none, meths := [], exc := true, supers := [3, 1, 0] },
  { name := (Str.ofString "BadRow"), init := none, meths := [], exc := true, supers := [4, 1, 0] },
  { name := (Str.ofString "BadWord"), init := none, meths := [], exc := true, supers := [5, 1, 0] },
  { name := (Str.ofString "Forged"), init := none, meths := [], exc := true, supers := [6, 1, 0] },
  { name := (Str.ofString "NoLetter"), init := none, meths := [], exc := true, supers := [7, 1, 0] },
  { name := (Str.ofString "NotWritten"), init := none, meths := [], exc := true, supers := [8, 1, 0] },
  { name := (Str.ofString "House"), init := some 8, meths := [(0, 9), (1, 10), (2, 11), (3, 12), (4, 13), (5, 14), (6, 15), (7, 16)], exc := false, supers := [9] },
  { name := (Str.ofString "Post"), init := some 17, meths := [(17, 18), (18, 19), (19, 20)], exc := false, supers := [10] },
  { name := (Str.ofString "Town"), init := some 21, meths := [(22, 22), (23, 23), (0, 24), (18, 25), (24, 26), (19, 27), (25, 28), (5, 29), (6, 30), (7, 31)], exc := false, supers := [11] }],
 attrs := [(Str.ofString "call"), (Str.ofString "hear"), (Str.ofString "marking"), (Str.ofString "writing"), (Str.ofString "naming"), (Str.ofString "ledger"), (Str.ofString "backing"), (Str.ofString "caught"), (Str.ofString "count"), (Str.ofString "own"), (Str.ofString "onward"), (Str.ofString "known"), (Str.ofString "marked"), (Str.ofString "rows"), (Str.ofString "backings"), (Str.ofString "named"), (Str.ofString "blames"), (Str.ofString "send"), (Str.ofString "bring"), (Str.ofString "waiting"), (Str.ofString "given"), (Str.ofString "letters"), (Str.ofString "honest"), (Str.ofString "tell"), (Str.ofString "lie"), (Str.ofString "spoken"), (Str.ofString "houses"), (Str.ofString "post"), (Str.ofString "said")],
 globs := [((Str.ofString "MOST_HOUSES"), (Lt.int 12)), ((Str.ofString "LETTERS"), (Lt.str (Str.ofString "abcdefghijklmnopqrstuvwxyz"))), ((Str.ofString "MOST_SIGNS"), (Lt.int 8)), ((Str.ofString "MOST_NUMBER"), (Lt.int 9999))] }
end C11
namespace Mini
open PySem
namespace P11
open C11
noncomputable abbrev N : HN := { C := 9, kW := 0, kN := 1, kM := 2, kE := 3, kR := 4, kU := 7, ki := 8, cC := 2, cH := 3, cR := 4, cN := 8, gM := 0, gL := 1, gS := 2 }
theorem hf : HF sig N := ⟨⟨_, rfl, rfl, rfl, rfl⟩, ⟨_, rfl, rfl, rfl, rfl⟩, ⟨_, rfl, rfl, rfl, rfl⟩, ⟨_, rfl, rfl, rfl, rfl⟩, ⟨_, rfl, rfl, rfl, rfl⟩, ⟨_, rfl, rfl, rfl, rfl⟩, ⟨_, rfl, rfl, rfl, rfl⟩, ⟨_, rfl, rfl, rfl, rfl⟩, ⟨_, rfl, rfl, rfl, rfl⟩, ⟨_, rfl, rfl, rfl, rfl⟩, ⟨_, rfl, rfl, rfl, rfl⟩, ⟨_, rfl, rfl, rfl, rfl⟩, ⟨_, rfl, rfl, rfl, rfl⟩, ⟨_, rfl, rfl, rfl, rfl⟩, ⟨_, rfl, rfl, rfl, rfl⟩, ⟨_, rfl⟩, ⟨_, rfl⟩, ⟨_, rfl⟩,
 ⟨_, rfl, rfl, rfl, by decide⟩⟩
theorem tf : TF sig N := ⟨hf, ⟨_, rfl, rfl, rfl, rfl⟩, ⟨_, rfl, rfl, rfl, rfl⟩, ⟨_, rfl⟩, ⟨_, rfl, rfl, rfl, rfl⟩, ⟨_, rfl, rfl, rfl, rfl⟩, ⟨_, rfl, rfl, rfl, rfl⟩, ⟨_, rfl, rfl, rfl, rfl⟩, ⟨_, rfl, rfl, rfl, rfl⟩, ⟨_, rfl, rfl, rfl, rfl⟩, ⟨_, rfl, rfl, rfl, rfl⟩, ⟨_, rfl, rfl, rfl, rfl⟩, ⟨_, rfl, rfl, rfl, rfl⟩, ⟨_, rfl, rfl, rfl, rfl⟩, ⟨_, rfl, rfl, rfl, rfl⟩, ⟨_, rfl, rfl, rfl, rfl⟩, ⟨_, rfl, rfl, rfl, rfl⟩, ⟨_, rfl, rfl, rfl, rfl⟩, ⟨_, rfl, rfl, rfl, rfl⟩,
 ⟨_, rfl, rfl, rfl, rfl, rfl, rfl⟩, ⟨_, rfl, rfl, rfl, rfl⟩⟩
theorem f_at : b0 sig 32 2 2 b_at := ⟨_, rfl, rfl, rfl, rfl⟩
theorem f_row : b0 sig 34 2 7 b_row := ⟨_, rfl, rfl, rfl, rfl⟩
theorem cR2 : b0 sig 35 3 5 aR4 := ⟨_, rfl, rfl, rfl, rfl⟩
theorem cR3 : b0 sig 36 1 1 aR5 := ⟨_, rfl, rfl, rfl, rfl⟩
theorem cR1 : b0 sig 37 5 12 aR3 := ⟨_, rfl, rfl, rfl, rfl⟩
theorem f_lie : b0 sig 38 5 10 b_llie := ⟨_, rfl, rfl, rfl, rfl⟩
theorem dA6 : b0 sig 39 5 11 (bH2 37 38) := ⟨_, rfl, rfl, rfl, rfl⟩
theorem f_enough : b0 sig 40 1 2 aJ4 := ⟨_, rfl, rfl, rfl, rfl⟩
section
variable {m : MH} {p q : Nat}
theorem cut3 (w : Wo) : dI w.v .none (.int 3) .none m = .ok (.tup [.str w.k, .int w.n, .str w.r]) m := rfl
theorem eq3 (a b : Str) (n : Int) (r : Str) : eqV (.tup [.str a, .int n, .str r]) (.tup [.str b, .int n, .str r]) m = .ok (a == b && (n == n && (r == r && true))) m := rfl
theorem ne3 {w : Wo} {num : Int} {r : Str} (h : w = mrk num r w.h) : aJ1 .NotEq (.tup [.str w.k, .int w.n, .str w.r]) (.tup [(Lt.str (Str.ofString "mark")).val, .int num, .str r]) m = .ok false m := by
 refine aP1 ?_
 rw [h]
 refine (eq3 dS dS num r).trans ?_
 rw [beq_self_eq_true, beq_self_eq_true, beq_self_eq_true]; rfl
theorem aX4 (n : Nat) {ws said : List Wo} {c num : Int} {r : Str} {qb qs : Nat} (kb : m[qb]? = some (.list (ws.map Wo.v))) (ks : m[qs]? = some (.list (said.map Wo.v))) (hw : ∀ w ∈ ws, w ∈ said /\ w = mrk num r w.h) (nd : (ws.map (·.h)).Nodup) (he : bR c <= (ws.length : Int)) (c1 : 1 <= c) (c2 : c <= 7) (wl : ws.length <= 12) :
  Wp (run sig (n + 2) 41 [.ref qb, .int c, .int num, .str r, .ref qs]) m (fun u m' => u = .bool true /\ Le m m') nox := by
 refine bC5 rfl rfl (aD9 ws Wo.v (fun zs r' m' => (∀ w ∈ zs, w ∈ said /\ w = mrk num r w.h) /\ (∃ x, r' = [some (.ref qb), some (.int c), some (.int num), some (.str r), some (.ref qs), x]) /\ m' = m) (aF (aC rfl (aG (d9 kb ⟨rfl, ⟨hw, ⟨none, rfl⟩, rfl⟩, ?_, ?_, ?_⟩)))))
 ·rintro zs r' m' ⟨_, _, rfl⟩; exact cI kb
 ·rintro w zs r' m' ⟨h, ⟨x, rfl⟩, rfl⟩
  have hw := h w (.head _)
  refine aC rfl (bN (t := false) (eF (bB (x := false) (aU (aP (aZ4 rfl rfl rfl rfl (cut3 w)) rfl ?_)) (bB (x := false) (aU (aP rfl rfl (fQ ks w hw.1))) dZ))) (b9 ⟨fun y hy => h y (.tail _ hy), ⟨_, rfl⟩, rfl⟩))
  exact ne3 hw.2
 ·rintro r' m' ⟨y_, ⟨x, rfl⟩, rfl⟩
  refine bA (dC8 (aH6 (aO9 (aF (aL7 ws Wo.v (fun w => .int w.h) (fun m'' => m'' = m') (aF (aC rfl (aG (d9 kb ⟨rfl, rfl, ?_, ?_, ?_, ?_⟩)))))))))
  ·intro m'' e; rw [e]; exact cI kb
  ·intro w _ m'' e; rw [e]; exact aC rfl (aC rfl ⟨rfl, rfl⟩)
  ·exact bL wl (by decide)
  ·intro q1 m1 m2 e l1 k1 g1
   rw [e] at l1 g1
   have k1 : m2[q1]? = some (.list ((ws.map (·.h)).map V.int)) := by rw [List.map_map]; exact k1
   refine aG (aE (aU6 k1 nd (by rw [List.length_map]; omega)) ?_)
   have kb2 := l1.has kb
   have el : ev sig (run sig (n + 1)) (.bi .len [(.var 0)]) [some (.ref qb), some (.int c), some (.int num), some (.str r), some (.ref qs), x] m2 = .ok (.int (ws.length : Int)) m2 := (aH4 (xs := ws.map Wo.v) rfl kb2).trans (by rw [List.length_map])
   refine aE el (aE (a := true) (m' := m2) ?_ (aC rfl ?_))
   ·show Res.ok (((ws.map (·.h)).length : Int) == (ws.length : Int)) m2 = _
    rw [List.length_map, beq_self_eq_true]
   ·refine fS (cT8 (aE (aP el (bD rfl (bJ2 f_enough n c c1 c2 m2)) (t := true) ?_) ⟨rfl, l1⟩))
    show Res.ok (decide ((ws.length : Int) ≥ bR c)) m2 = _
    rw [decide_eq_true he]
theorem bI8 (n : Nat) {xs : List (Int × Wo × Wo)} {said : List Wo} {L : List Int} {qn ql qs : Nat} (kn : m[qn]? = some (.list (aY2 xs))) (kl : m[ql]? = some (.list (L.map V.int))) (ks : m[qs]? = some (.list (said.map Wo.v))) (hx : ∀ x ∈ xs, x.1 ∈ L /\ x.2.1 ∈ said /\ x.2.2 ∈ said /\ bZ x.2.1 x.2.2 = true /\ x.1 = x.2.2.h) (nd : (xs.map (·.1)).Nodup) (xl : xs.length <= 12) :
  Wp (run sig (n + 1) 42 [.ref qn, .ref ql, .ref qs]) m (fun u m' => u = .bool true /\ Le m m') nox := by
 refine bC5 rfl rfl (aD9 xs (fun x => .tup [.int x.1, x.2.1.v, x.2.2.v]) (fun zs r' m' => (∀ x ∈ zs, x.1 ∈ L /\ x.2.1 ∈ said /\ x.2.2 ∈ said /\ bZ x.2.1 x.2.2 = true /\ x.1 = x.2.2.h) /\ (∃ a b c, r' = [some (.ref qn), some (.ref ql), some (.ref qs), a, b, c]) /\ m' = m) (aF (aC rfl (aG (d9 kn ⟨rfl, ⟨hx, ⟨none, none, none, rfl⟩, rfl⟩, ?_, ?_, ?_⟩)))))
 ·rintro zs r' m' ⟨_, _, rfl⟩; exact cI kn
 ·rintro x zs r' m' ⟨h, ⟨a, b, c, rfl⟩, rfl⟩
  have hx := h x (.head _)
  have u := unlike_iff.mp hx.2.2.2.1
  refine aC rfl (bN (t := false) (eF (bB (x := false) (aU (aP rfl rfl ?_)) (bB (x := false) (aU (aP rfl rfl (fQ ks _ hx.2.1))) (bB (x := false) (aU (aP rfl rfl (fQ ks _ hx.2.2.1))) dZ)))) ?_)
  ·exact (aC9 kl x.1).trans (by rw [decide_eq_true hx.1]; rfl)
  refine bN (t := false) (eF (bB (x := false) (aU (aP rfl rfl ?_)) (bB (x := false) (aU (aP rfl rfl ?_)) (bB (x := false) (aU (aP rfl rfl ?_)) (bB (x := false) (aU (aP rfl rfl ?_)) (bB (x := false) (aU (aP rfl rfl ?_)) dZ)))))) (b9 ⟨fun y hy => h y (.tail _ hy), ⟨_, _, _, rfl⟩, rfl⟩)
  ·show Res.ok (!(x.2.1.k == x.2.2.k)) m' = _
   rw [u.2.1, beq_self_eq_true]; rfl
  ·show Res.ok (!(x.2.1.n == x.2.2.n)) m' = _
   rw [u.2.2.1, beq_self_eq_true]; rfl
  ·show Res.ok (!(x.2.1.h == x.1)) m' = _
   rw [u.1, <- hx.2.2.2.2, beq_self_eq_true]; rfl
  ·show Res.ok (!(x.2.2.h == x.1)) m' = _
   rw [<- hx.2.2.2.2, beq_self_eq_true]; rfl
  ·show Res.ok (x.2.1.r == x.2.2.r) m' = _
   rw [beq_eq_false_iff_ne.mpr u.2.2.2]
 ·rintro r' m' ⟨y_, ⟨a, b, c, rfl⟩, rfl⟩
  refine bA (aH6 (aO9 (aF (aL7 xs (fun x => .tup [.int x.1, x.2.1.v, x.2.2.v]) (fun x => .int x.1) (fun m'' => m'' = m') (aF (aC rfl (aG (d9 kn ⟨rfl, rfl, ?_, ?_, ?_, ?_⟩))))))))
  ·intro m'' e; rw [e]; exact cI kn
  ·intro w _ m'' e; rw [e]; exact aC rfl (aC rfl ⟨rfl, rfl⟩)
  ·exact bL xl (by decide)
  ·intro q1 m1 m2 e l1 k1 g1
   rw [e] at l1 g1
   have k1 : m2[q1]? = some (.list ((xs.map (·.1)).map V.int)) := by rw [List.map_map]; exact k1
   refine aG (aE (aU6 k1 nd (by rw [List.length_map]; omega)) ?_)
   refine aE (aH4 rfl (l1.has kn)) (aE (a := true) (m' := m2) ?_ ⟨rfl, l1⟩)
   show Res.ok (((xs.map (·.1)).length : Int) == ((aY2 xs).length : Int)) m2 = _
   unfold aY2
   rw [List.length_map, List.length_map, beq_self_eq_true]
end
end P11
end Mini
namespace Mini
open PySem
noncomputable def Wr (t : Tn) (n : Int) (r : Str) : Prop := ∃ s ∈ t.hs, ∃ x ∈ s.rows, x.1 = n /\ x.2.1 = r
theorem Wr.ext {t t' : Tn} {n : Int} {r : Str} (h : Wr t n r) (X : t.Ext t') : Wr t' n r := by
 rcases h with ⟨s, hs, x, hx, e⟩
 rcases List.getElem?_of_mem hs with ⟨i, hi⟩
 rcases X.rows i s hi with ⟨s', h1, l, h2⟩
 exact ⟨s', List.mem_of_getElem? h1, x, by rw [h2]; exact List.mem_append_left _ hx, e⟩
theorem cM2 {l : List (Int × Str × List Wo)} {z : Int} (h : z ∈ l.map (·.1)) : ∃ x ∈ l, x.1 = z /\ bQ l z = x.2.1 /\ aR2 l z = x.2.2 := by
 rcases List.mem_map.mp h with ⟨y, hy, e⟩
 have hs : (l.find? fun x => x.1 == z).isSome = true := by rw [List.find?_isSome]; exact ⟨y, hy, beq_iff_eq.mpr e⟩
 rcases Option.isSome_iff_exists.mp hs with ⟨x, hx⟩
 refine ⟨x, List.mem_of_find?_eq_some hx, eq_of_beq (List.find?_some (p := fun x : Int × Str × List Wo => x.1 == z) hx), ?_, ?_⟩
 ·unfold bQ; rw [hx]
 ·unfold aR2; rw [hx]
theorem aU8 {α : Type} (g : α -> Int) (f : α -> V) (l : List α) : ((tD g f l).map fun x => x.1.val) = l.map fun x => V.int (g x) := by unfold tD; rw [List.map_map]; rfl
theorem aP6 {l : List (Int × Str × List Wo)} {z : Int} (h : z ∈ sortI (l.map (·.1))) : bM (.int z) (aM2 l) = some (.str (bQ l z)) := by
 have hs : ((sortI (l.map (·.1))).find? fun x => id x == z).isSome = true := by rw [List.find?_isSome]; exact ⟨z, h, beq_self_eq_true z⟩
 rcases Option.isSome_iff_exists.mp hs with ⟨y, hy⟩
 have e : y = z := eq_of_beq (List.find?_some (p := fun x => id x == z) hy)
 unfold aM2
 rw [eS, hy, e]; rfl
theorem aC3 (l : List (Int × Str × List Wo)) (k : Int) : aJ (.int k) (aM2 l) = true := aW _ _ _ _
structure Rw (d : List (Ky × V)) (t : Tn) (b : Nat) : Prop where
 so : aJ (.int 0) d = true
 ln : d.length <= b
 wr : ∀ n v, bM (.int n) d = some v -> ∃ r, v = .str r /\ Wr t n r
theorem Rw.put {d : List (Ky × V)} {t : Tn} {b : Nat} (h : Rw d t b) {n : Int} {r : Str} (w : Wr t n r) : Rw (Mini.put (.int n) (.str r) d) t (b + 1) := by
 refine ⟨aC6 h.so, Nat.le_trans (aO6 d) (Nat.succ_le_succ h.ln), fun k v q => ?_⟩
 rw [aP5] at q
 by_cases e : k = n
 ·rw [if_pos e] at q; cases q; rw [e]; exact ⟨r, rfl, w⟩
 ·rw [if_neg e] at q; exact h.wr k v q
theorem Rw.mono {d : List (Ky × V)} {t : Tn} {b c : Nat} (h : Rw d t b) (k : b <= c) : Rw d t c := ⟨h.so, Nat.le_trans h.ln k, h.wr⟩
theorem Rw.ext {d : List (Ky × V)} {t t' : Tn} {b : Nat} (h : Rw d t b) (X : t.Ext t') : Rw d t' b := ⟨h.so, h.ln, fun n v q => (h.wr n v q).imp fun r z => ⟨z.1, z.2.ext X⟩⟩
namespace P11
open C11
inductive GN (p q2 q3 qs qf ef : Nat) (t : Tn) (s : Hs) (B : List (Nat × MObj)) (bd : Nat) (zs : List Int) (r : Lo) (m' : MH) : Prop
 | mk (a : List Int) (d : List (Ky × V)) (e : Nat) (x : Option V) (el : sortI (s.rows.map (·.1)) = a ++ zs) (er : r = [some (.ref p), some (.int t.cnt), some (.ref q2), some (.ref q3), some (.ref qs), some (.int s.own), some (.ref qf), x])
   (H : Tw m' N p t ((q3, .dict d e) :: (qf, .dict (aM2 s.rows) ef) :: B)) (w : Rw d t (bd + a.length))
inductive GO (p q2 q3 qs : Nat) (t : Tn) (B : List (Nat × MObj)) (bd : Nat) (zs : List Nat) (r : Lo) (m' : MH) : Prop
 | mk (a : List Nat) (d : List (Ky × V)) (e : Nat) (x y z : Option V) (el : List.range t.cnt.toNat = a ++ zs) (er : r = [some (.ref p), some (.int t.cnt), some (.ref q2), some (.ref q3), some (.ref qs), x, y, z])
   (H : Tw m' N p t ((q3, .dict d e) :: B)) (w : Rw d t (bd + 64 * a.length))
section
variable {m : MH} {t : Tn} {L Ns : List Int} {p b q2 q3 qs bd : Nat} {B : List (Nat × MObj)} {s : Hs}
theorem bO1 {m : MH} {t : Tn} {x y : Nat × MObj} {B : List (Nat × MObj)} (h : Tw m N p t (x :: y :: B)) : Tw m N p t (y :: x :: B) := h.sub fun z hz => by
 rcases List.mem_cons.mp hz with rfl | hz
 ·exact .tail _ (.head _)
 ·rcases List.mem_cons.mp hz with rfl | hz
  ·exact .head _
  ·exact .tail _ (.tail _ hz)
theorem bI5 (n : Nat) {qf ef : Nat} {z : Int} {zs : List Int} {r : Lo} {m' : MH} (I : t.In L Ns b) (few : (L.length : Int) <= (t.cnt - 1) / 3) (c7 : t.cnt <= 7) (hi : ∃ i : Nat, t.hs[i]? = some s) (hs : (qs, .list (t.said.map Wo.v)) ∈ B) (ne : ∀ x ∈ (qf, MObj.dict (aM2 s.rows) ef) :: B, x.1 ≠ q3) (hb : bd + 64 < lid) (rl : s.rows.length < 64) (J : GN p q2 q3 qs qf ef t s B bd (z :: zs) r m') :
  Wp (aJ6 (.one 7) (.int z) r) m' (fun r' m' => Wp (exs sig (run sig (n + 3)) [
    (.ite (.val (.cmp (.smeth (.var 3) .get [(.var 7), (.idx (.var 6) (.var 7))]) [.NotEq] [(.idx (.var 6) (.var 7))])) [
     (.ret (.cnst (Lt.bool false)))] []),
    (.asg (.idx (.var 3) (.var 7)) (.idx (.var 6) (.var 7))),
    (.ite (.not (.val (.call 41 [(.meth (.var 0) 6 [(.var 5), (.var 7)]), (.var 1), (.var 7), (.idx (.var 6) (.var 7)), (.var 4)]))) [
     (.ret (.cnst (Lt.bool false)))] [])] r') m' (fun p_1 m' => match p_1.1 with | .ret v => False | _ => GN p q2 q3 qs qf ef t s B bd zs p_1.2 m') nox) nox := by
 rcases J with ⟨a, d, e, x, el, er, H, w⟩
 rcases hi with ⟨i, hi⟩
 subst er
 have hsm := List.mem_of_getElem? hi
 have zm : z ∈ sortI (s.rows.map (·.1)) := by rw [el]; exact List.mem_append_right _ (.head _)
 rcases cM2 (mem_sortI.mp zm) with ⟨y, hy, ey, er, eb⟩
 have hwr : Wr t z (bQ s.rows z) := ⟨s, hsm, y, hy, ey, er.symm⟩
 have kd := H.has (.head _)
 have kf := H.has (.tail _ (.head _))
 have al : a.length < 64 := by
  have := congrArg List.length el
  rw [eM, List.length_map, List.length_append, List.length_cons] at this
  omega
 have lk := aP6 zm
 have ei : ∀ {m'' : MH}, m''[qf]? = some (.dict (aM2 s.rows) ef) -> aQ0 (.ref qf) (.int z) m'' = .ok (.str (bQ s.rows z)) m'' := fun k => bX k rfl (aC3 _ _) lk
 refine aC rfl ?_
 refine aE2 (aE1 (aH6 (cV (aC rfl ⟨1, cA2 kd, rfl, aE (aO rfl (aO (dY rfl rfl (ei kf)) rfl)) (cK3 kd (e8 w.so) ?_)⟩))))
 have ev : ((bM (.int z) d).getD (.str (bQ s.rows z))) = .str (bQ s.rows z) := by
  cases q : bM (.int z) d with
  | none => rfl
  | some v =>
   rcases w.wr z v q with ⟨r', rfl, s2, h2, x2, g2, e2, f2⟩
   have := I.same h2 hsm g2 hy (e2.trans ey.symm) few
   show V.str r' = _
   rw [er, <- f2, this]
 rw [ev]
 refine aE (dY rfl rfl (ei kf)) (aE (a := false) (m' := m') (aP1 ?_) (aC rfl ?_))
 ·show Res.ok (bQ s.rows z == bQ s.rows z) m' = _
  rw [beq_self_eq_true]
 refine dJ (aE (dY rfl rfl (ei kf)) (aC rfl (aC rfl (dF kd (k := .int z) rfl (e8 w.so) (Nat.lt_of_le_of_lt w.ln (by omega)) ?_))))
 have H2 := H.set (.dict (put (.int z) (.str (bQ s.rows z)) d) (e + 1)) ne
 have w2 := w.put hwr
 generalize m'.set q3 (.dict (put (.int z) (.str (bQ s.rows z)) d) (e + 1)) = m2 at H2 ⊢
 have hw : s.wrote z = true := List.any_eq_true.mpr ⟨y, hy, beq_iff_eq.mpr ey⟩
 refine aE2 (bQ4 (aE1 (d0 (aF (bI tf H2 rfl rfl rfl (aC rfl (aV (aY8 tf n H2 I.ok hi hw) fun u m3 z_ => ?_)))))))
 rcases z_ with ⟨qb, eu, H3, l3, g3⟩
 subst eu
 have kf3 := H3.has (.tail _ (.tail _ (.head _)))
 refine aE (aO rfl (aO rfl (aO (dY rfl rfl (ei kf3)) (aO rfl rfl)))) ?_
 have F := I.fine.hs s hsm
 have mk := I.marks hsm hy
 have nd := F.rd y hy
 have wl : y.2.2.length <= 12 := by
  have := aP8 (c := t.cnt) nd fun x hx => by
   rcases List.mem_map.mp hx with ⟨v, hv, rfl⟩
   exact (mk v hv).2.2
  rw [List.length_map] at this
  exact Nat.le_trans this (cQ I.ok.c2)
 have he := F.re y hy
 rw [(I.fine.rg s hsm).2.2] at he
 rw [eb] at H3
 refine aV (aX4 (n + 1) (H3.has (.head _)) (H3.has (.tail _ (.tail _ (.tail _ hs)))) (fun v hv => ⟨(mk v hv).1, by rw [er, <- ey]; exact (mk v hv).2.1⟩) nd he I.ok.c1 c7 wl) fun u m4 z4 => ?_
 rcases z4 with ⟨rfl, l4⟩
 refine aC rfl (b9 ⟨a ++ [z], _, e + 1, _, by rw [el, List.append_assoc]; rfl, rfl, (H3.tail).up l4, ?_⟩)
 rw [List.length_append]; exact w2
end
end P11
end Mini
namespace Mini
open PySem
namespace P11
open C11
section
variable {m : MH} {t : Tn} {L Ns : List Int} {p b q2 q3 qs bd : Nat} {B : List (Nat × MObj)} {s : Hs}
theorem bR3 (I : t.In L Ns b) (hs : s ∈ t.hs) (ll : L.length <= 12) : s.named.length <= 12 := by
 have := (I.fine.hs s hs).na.length_le_of_subset (l₂ := L) fun y hy => by
  rcases List.mem_map.mp hy with ⟨x, hx, rfl⟩
  exact (I.named hs x hx).1
 rw [List.length_map] at this
 exact Nat.le_trans this ll
theorem cQ7 (n : Nat) {d : List (Ky × V)} {e : Nat} (H : Tw m N p t ((q3, .dict d e) :: B)) (I : t.In L Ns b) (few : (L.length : Int) <= (t.cnt - 1) / 3) (c7 : t.cnt <= 7) (hl : (q2, .list (L.map V.int)) ∈ B) (ll : L.length <= 12) (nl : Ns.length <= 60) (ne : ∀ x ∈ B, x.1 ≠ q3) (w : Rw d t bd) (hb : bd + 1000 < lid) :
  Wp (run sig (n + 4) 43 [.ref p, .int t.cnt, .ref q2, .ref q3]) m (fun u m' => u = .bool true /\ ∃ d' e', Tw m' N p t ((q3, .dict d' e') :: B) /\ Rw d' t (bd + 800)) nox := by
 have c1 := I.ok.c1
 have q3l := aT (H.has (.head _))
 refine bC5 rfl rfl (a9 (bI tf H rfl rfl rfl (aC rfl (aV (aS3 tf (n + 2) H) fun u m1 z_ => ?_))))
 rcases z_ with ⟨qs, eu, H1, l1, g1⟩
 subst eu
 have H1 := bO1 H1
 have nes : ∀ x ∈ (qs, MObj.list (t.said.map Wo.v)) :: B, x.1 ≠ q3 := bF (fun c => by rw [show qs = q3 from c] at g1; exact Nat.not_lt.mpr g1 q3l) ne
 have hl1 : (q2, MObj.list (L.map V.int)) ∈ (qs, MObj.list (t.said.map Wo.v)) :: B := .tail _ hl
 have hs1 : (qs, MObj.list (t.said.map Wo.v)) ∈ (qs, MObj.list (t.said.map Wo.v)) :: B := .head _
 refine aH0 (List.range t.cnt.toNat) (fun (j : Nat) => V.int (0 + (j : Int))) (aF (aC rfl (aG (aE (aO0 (Nat.lt_of_lt_of_le (aC1 (c := 13) (Int.le_trans (by decide) c1) (Int.lt_of_le_of_lt c7 (by decide : (7 : Int) < 13)) (by decide)) (by decide))) ⟨GO p q2 q3 qs t ((qs, MObj.list (t.said.map Wo.v)) :: B) bd, rfl, ⟨[], d, e, none, none, none, rfl, rfl, H1, w⟩, fun y_ y_ y_ y_ => rfl, ?_, ?_⟩))))
 ·rintro j js r m2 ⟨a, d, e, x, y, z, el, er, H2, w⟩
  subst er
  have al : a.length < 7 := by
   have := congrArg List.length el
   rw [List.length_range, List.length_append, List.length_cons] at this
   omega
  have jc : (j : Int) < t.cnt := by
   have : j ∈ List.range t.cnt.toNat := by rw [el]; exact List.mem_append_right _ (.head _)
   have := List.mem_range.mp this
   omega
  have ejs : List.range t.cnt.toNat = (a ++ [j]) ++ js := by rw [el, List.append_assoc]; rfl
  have kl := H2.has (.tail _ hl1)
  refine aC rfl (bN (t := !decide ((0 + (j : Int)) ∈ L)) (aU (aP rfl rfl (aC9 kl _))) ?_)
  rw [Int.zero_add]
  by_cases hj : (j : Int) ∈ L
  ·rw [decide_eq_true hj]
   exact b9 ⟨a ++ [j], d, e, _, y, z, ejs, rfl, H2, w.mono (by rw [List.length_append, List.length_singleton]; omega)⟩
  ·rw [decide_eq_false hj]
   rcases I.honest (hon_iff.mpr ⟨Int.natCast_nonneg j, jc, hj⟩) with ⟨i, s, hi, eo⟩
   have hsm := List.mem_of_getElem? hi
   have F := I.fine.hs s hsm
   have rl : s.rows.length < 64 := Nat.lt_of_le_of_lt (Nat.le_trans (I.fine.rows hsm c1) nl) (by decide)
   rw [<- eo]
   refine a9 (bI tf H2 rfl rfl rfl (aC rfl (aV (aL1 tf n H2 I.ok hi rl F.ro) fun u m3 z_ => ?_)))
   rcases z_ with ⟨qf, ef, eu, H3, l3, g3⟩
   subst eu
   have q3l2 := aT (H2.has (.head _))
   have nef : ∀ x ∈ (qf, MObj.dict (aM2 s.rows) ef) :: (qs, MObj.list (t.said.map Wo.v)) :: B, x.1 ≠ q3 := bF (fun c => by rw [show qf = q3 from c] at g3; exact Nat.not_lt.mpr g3 q3l2) nes
   have kf := H3.has (.head _)
   refine aH0 (sortI (s.rows.map (·.1))) V.int (aF (aC rfl (aG (aE (aN9 kf) ⟨GN p q2 q3 qs qf ef t s ((qs, MObj.list (t.said.map Wo.v)) :: B) (bd + 64 * a.length), aU8 _ _ _, ⟨[], d, e, z, rfl, rfl, bO1 H3, w⟩, ?_, ?_, ?_⟩))))
   ·rintro zs r m' ⟨a, d, e, x, el, er, H, w⟩
    exact aZ0 (H.has (.tail _ (.head _)))
   ·intro z' zs r m' J
    refine wp_mono (bI5 n I few c7 ⟨i, hi⟩ hs1 nef (by omega) rl J) (fun r' m' q => wp_mono q (fun p_1 m' q => ?_) fun y_ y_ q => q) fun y_ y_ q => q
    rcases p_1 with ⟨f, r1⟩
    cases f with
    | ret v => exact q.elim
    | next => exact q
    | cont => exact q
   ·rintro r m4 ⟨a4, d4, e4, x4, el4, er4, H4, w4⟩
    subst er4
    have a4l : a4.length < 64 := by
     rw [List.append_nil] at el4
     rw [<- el4, eM, List.length_map]; exact rl
    refine aE2 (bQ4 (aE1 (d0 (aF (bI tf H4 rfl rfl rfl (aC rfl (aV (bI1 tf n H4 I.ok hi) fun u m5 z_ => ?_)))))))
    rcases z_ with ⟨qn, eu, H5, l5, g5⟩
    subst eu
    refine aC rfl ?_
    refine aV (bI8 (n + 2) (H5.has (.head _)) (H5.has (.tail _ (.tail _ (.tail _ hl1)))) (H5.has (.tail _ (.tail _ (.tail _ hs1)))) (I.named hsm) F.na (bR3 I hsm ll)) fun u m6 z6 => ?_
    rcases z6 with ⟨rfl, l6⟩
    refine aC rfl (b9 ⟨a ++ [j], d4, e4, _, _, _, ejs, rfl, (H5.up l6).sub fun x hx => ?_, w4.mono (by rw [List.length_append, List.length_singleton]; omega)⟩)
    rcases List.mem_cons.mp hx with rfl | hx
    ·exact .tail _ (.head _)
    ·exact .tail _ (.tail _ (.tail _ hx))
 ·rintro r m2 ⟨a, d, e, x, y, z, el, er, H2, w⟩
  have al : a.length <= 7 := by
   have := congrArg List.length el
   rw [List.length_range, List.length_append] at this
   omega
  exact bA (aC rfl ⟨rfl, d, e, H2.sub fun x hx => by
   rcases List.mem_cons.mp hx with rfl | hx
   ·exact .head _
   ·exact .tail _ (.tail _ hx), w.mono (by omega)⟩)
end
end P11
end Mini
namespace Mini
open PySem
namespace P11
open C11
noncomputable def lnum (l : List (Int × Str × List Wo)) : List Int := sortI (l.map (·.1))
theorem cC6 (l : List (Int × Str × List Wo)) : ((aM2 l).map fun x => x.1.val) = (lnum l).map V.int := aU8 _ _ _
structure Lg (d : List (Ky × V)) (t : Tn) (B : List (Nat × MObj)) (b : Nat) : Prop where
 so : aJ (.int 0) d = true
 ln : d.length <= b
 le : ∀ h v, bM (.int h) d = some v -> ∃ (q e : Nat) (l : List (Int × Str × List Wo)), v = .ref q /\ (q, .dict (aM2 l) e) ∈ B /\ ∀ s ∈ t.hs, s.own = h -> ∃ l', s.rows = l ++ l'
theorem cH0 {t t' : Tn} (X : t.Ext t') (od : (t.hs.map (·.own)).Nodup) {i : Nat} {s s' : Hs} (h : t.hs[i]? = some s) (h' : s' ∈ t'.hs) (e : s'.own = s.own) : t'.hs[i]? = some s' := by
 rcases List.getElem?_of_mem h' with ⟨j, hj⟩
 have e1 : (t'.hs.map (·.own))[j]? = some s.own := by rw [List.getElem?_map, hj]; exact congrArg some e
 rw [X.own] at e1
 have e2 : (t.hs.map (·.own))[i]? = some s.own := by rw [List.getElem?_map, h]; rfl
 have : i = j := by
  rcases Nat.lt_trichotomy i j with z | z | z
  ·exact absurd rfl (ne_pair od e2 e1 z)
  ·exact z
  ·exact absurd rfl (ne_pair od e1 e2 z)
 rw [this]; exact hj
where
 ne_pair {l : List Int} (od : l.Nodup) {i j : Nat} {x y : Int} (h1 : l[i]? = some x) (h2 : l[j]? = some y) (z : i < j) : x ≠ y := by
  rcases List.getElem?_eq_some_iff.mp h1 with ⟨a, rfl⟩
  rcases List.getElem?_eq_some_iff.mp h2 with ⟨b, rfl⟩
  exact List.pairwise_iff_getElem.mp od i j a b z
theorem Lg.ext {d : List (Ky × V)} {t t' : Tn} {B : List (Nat × MObj)} {b : Nat} (h : Lg d t B b) (X : t.Ext t') (od : (t.hs.map (·.own)).Nodup) : Lg d t' B b := by
 refine ⟨h.so, h.ln, fun k v q => ?_⟩
 rcases h.le k v q with ⟨q1, e, l, h1, h2, h3⟩
 refine ⟨q1, e, l, h1, h2, fun s' hs' ho => ?_⟩
 have : s'.own ∈ t'.hs.map (·.own) := List.mem_map.mpr ⟨s', hs', rfl⟩
 rw [X.own] at this
 rcases List.mem_map.mp this with ⟨s, hs, e1⟩
 rcases List.getElem?_of_mem hs with ⟨i, hi⟩
 rcases h3 s hs (e1.trans ho) with ⟨l1, g1⟩
 rcases X.rows i s hi with ⟨s2, g2, l2, g3⟩
 have g4 := cH0 X od hi hs' e1.symm
 rw [g2] at g4
 cases g4
 exact ⟨l1 ++ l2, by rw [g3, g1, List.append_assoc]⟩
theorem Lg.sub {d : List (Ky × V)} {t : Tn} {B B' : List (Nat × MObj)} {b : Nat} (h : Lg d t B b) (k : ∀ x ∈ B, x ∈ B') : Lg d t B' b := ⟨h.so, h.ln, fun i v q => by
 rcases h.le i v q with ⟨q1, e, l, h1, h2, h3⟩
 exact ⟨q1, e, l, h1, k _ h2, h3⟩⟩
theorem Lg.put {d : List (Ky × V)} {t : Tn} {B : List (Nat × MObj)} {b q e : Nat} {s : Hs} {i : Nat} (h : Lg d t B b) (od : (t.hs.map (·.own)).Nodup) (hi : t.hs[i]? = some s) (hq : (q, .dict (aM2 s.rows) e) ∈ B) : Lg (Mini.put (.int s.own) (.ref q) d) t B (b + 1) := by
 refine ⟨aC6 h.so, Nat.le_trans (aO6 d) (Nat.succ_le_succ h.ln), fun k v z => ?_⟩
 rw [aP5] at z
 by_cases ek : k = s.own
 ·rw [if_pos ek] at z
  cases z
  refine ⟨q, e, s.rows, rfl, hq, fun s' hs' ho => ?_⟩
  have := cH0 (Tn.Ext.refl t) od hi hs' (ho.trans ek)
  rw [hi] at this
  cases this
  exact ⟨[], (List.append_nil _).symm⟩
 ·rw [if_neg ek] at z; exact h.le k v z
theorem Lg.mono {d : List (Ky × V)} {t : Tn} {B : List (Nat × MObj)} {b c : Nat} (h : Lg d t B b) (k : b <= c) : Lg d t B c := ⟨h.so, Nat.le_trans h.ln k, h.le⟩
theorem cM3 {l l' : List (Int × Str × List Wo)} {z : Int} (h : z ∈ l.map (·.1)) : bQ (l ++ l') z = bQ l z := by
 rcases List.mem_map.mp h with ⟨y, hy, e⟩
 have hs : (l.find? fun x => x.1 == z).isSome = true := by rw [List.find?_isSome]; exact ⟨y, hy, beq_iff_eq.mpr e⟩
 rcases Option.isSome_iff_exists.mp hs with ⟨x, hx⟩
 unfold bQ
 rw [List.find?_append, hx]; rfl
inductive LO (ns : List Int) (f : Int) (p ql qt qr qg : Nat) (x8 : Option V) (t : Tn) (B : List (Nat × MObj)) (dr : List (Ky × V)) (er bg : Nat) (zs : List Nat) (r : Lo) (m' : MH) : Prop
 | mk (a : List Nat) (B' : List (Nat × MObj)) (dg : List (Ky × V)) (eg : Nat) (x y z : Option V) (el : List.range t.cnt.toNat = a ++ zs) (er' : r = [some (.scr ns), some (.int f), some (.int t.cnt), some (.ref ql), some (.ref qt), some (.ref p), some (.ref qr), some (.ref qg), x8, x, y, z])
   (sub : ∀ x ∈ B, x ∈ B') (H : Tw m' N p t ((qg, .dict dg eg) :: (qr, .dict dr er) :: B')) (w : Lg dg t B' (bg + a.length)) (ng : ∀ x ∈ (qr, MObj.dict dr er) :: B', x.1 ≠ qg) (nr : ∀ x ∈ B', x.1 ≠ qr)
section
variable {m : MH} {t : Tn} {L Ns : List Int} {p b ql qt qr qg bg er : Nat} {B : List (Nat × MObj)} {dr : List (Ky × V)} {ns : List Int} {f : Int} {x8 : Option V}
theorem bI6 (n : Nat) {j : Nat} {js : List Nat} {r : Lo} {m' : MH} (I : t.In L Ns b) (c7 : t.cnt <= 7) (hl : (ql, .list (L.map V.int)) ∈ B) (nl : Ns.length <= 60) (hb : bg + 20 < lid) (J : LO ns f p ql qt qr qg x8 t B dr er bg (j :: js) r m') :
  Wp (aJ6 (.one 9) (.int (0 + (j : Int))) r) m' (fun r' m' => Wp (exs sig (run sig (n + 3)) [
   (.ite (.val (.cmp (.var 9) [.NotIn] [(.var 3)])) [
    (.asg (.one (.one 10)) (.meth (.var 5) 5 [(.var 9)])),
    (.asg (.one (.one 11)) (.smeth (.var 7) .get [(.var 9), (.dict [] [])])),
    (.ite (.val (.cmp (.comp (.var 12) (.one 12) 1 .expr [(.var 11)] [(.val (.cmp (.smeth (.var 10) .get [(.var 12), (.cnst (Lt.str (Str.ofString "")))]) [.NotEq] [(.idx (.var 11) (.var 12))]))]) [.NotEq] [(.list [])])) [
     (.ret (.cnst (Lt.bool false)))] []),
    (.asg (.idx (.var 7) (.var 9)) (.var 10))] [])] r') m' (fun p_1 m' => match p_1.1 with | .ret v => False | _ => LO ns f p ql qt qr qg x8 t B dr er bg js p_1.2 m') nox) nox := by
 rcases J with ⟨a, B', dg, eg, x, y, z, el, er', sub, H, w, ng, nr⟩
 subst er'
 have c1 := I.ok.c1
 have jc : (j : Int) < t.cnt := by
  have : j ∈ List.range t.cnt.toNat := by rw [el]; exact List.mem_append_right _ (.head _)
  have := List.mem_range.mp this
  omega
 have al : a.length < 7 := by
  have := congrArg List.length el
  rw [List.length_range, List.length_append, List.length_cons] at this
  omega
 have ejs : List.range t.cnt.toNat = (a ++ [j]) ++ js := by rw [el, List.append_assoc]; rfl
 have kl := H.has (.tail _ (.tail _ (sub _ hl)))
 refine aC rfl (bN (t := !decide ((0 + (j : Int)) ∈ L)) (aU (aP rfl rfl (aC9 kl _))) ?_)
 rw [Int.zero_add]
 by_cases hj : (j : Int) ∈ L
 ·rw [decide_eq_true hj]
  exact b9 ⟨a ++ [j], B', dg, eg, _, y, z, ejs, rfl, sub, H, w.mono (by rw [List.length_append]; exact Nat.le_succ _), ng, nr⟩
 ·rw [decide_eq_false hj]
  rcases I.honest (hon_iff.mpr ⟨Int.natCast_nonneg j, jc, hj⟩) with ⟨i, s, hi, eo⟩
  have hsm := List.mem_of_getElem? hi
  have F := I.fine.hs s hsm
  have rl : s.rows.length < 64 := Nat.lt_of_le_of_lt (Nat.le_trans (I.fine.rows hsm c1) nl) (by decide)
  rw [<- eo]
  have qgl := aT (H.has (.head _))
  have qrl := aT (H.has (.tail _ (.head _)))
  refine a9 (bI tf H rfl rfl rfl (aC rfl (aV (aL1 tf n H I.ok hi rl F.ro) fun u m1 z_ => ?_)))
  rcases z_ with ⟨qn, en, eu, H1, l1, g1⟩
  subst eu
  have kg := H1.has (.tail _ (.head _))
  refine a9 (cV (aC rfl ⟨1, cA2 kg, rfl, aF (aC rfl (aF (aE (a := .ref m1.length) (m' := m1 ++ [.dict [] 0]) rfl (aG ?_))))⟩))
  have l2 : Le m1 (m1 ++ [.dict [] 0]) := .app _ _
  have k2 : (m1 ++ [.dict [] 0])[m1.length]? = some (.dict [] 0) := bO
  generalize m1 ++ [MObj.dict [] 0] = m2 at l2 k2 ⊢
  have H2 := H1.up l2
  refine cK3 (H2.has (.tail _ (.head _))) (e8 w.so) ?_
  obtain ⟨qa, ea, l, ev, ka, l', hl'⟩ : ∃ (qa ea : Nat) (l : List (Int × Str × List Wo)), (bM (.int s.own) dg).getD (.ref m1.length) = .ref qa /\ m2[qa]? = some (.dict (aM2 l) ea) /\ ∃ l', s.rows = l ++ l' := by
   cases q : bM (.int s.own) dg with
   | none => exact ⟨m1.length, 0, [], rfl, k2, s.rows, rfl⟩
   | some v =>
    rcases w.le _ v q with ⟨qa, ea, l, rfl, h2, h3⟩
    exact ⟨qa, ea, l, rfl, H2.has (.tail _ (.tail _ (.tail _ h2))), h3 s hsm rfl⟩
  rw [ev]
  have kn := H2.has (.head _)
  refine aE2 (aE1 (aH6 (aH5 (lnum l) V.int (fun y_ => .none) (fun y_ => false) (fun m' => m' = m2) (aF (aC rfl (aG (aE (aN9 ka) ⟨cC6 l, rfl, ?_, ?_, ?_, ?_⟩)))))))
  ·intro m' e; rw [e]; exact aZ0 ka
  ·intro k hk m' e
   rw [e]
   have hk : k ∈ sortI (l.map (·.1)) := hk
   have km := mem_sortI.mp hk
   have km' : k ∈ sortI (s.rows.map (·.1)) := mem_sortI.mpr (by rw [hl', List.map_append]; exact List.mem_append_left _ km)
   have e1 : ((bM (.int k) (aM2 s.rows)).getD (.str (Str.ofString ""))) = .str (bQ l k) := by
    rw [aP6 km']
    show V.str (bQ s.rows k) = _
    rw [hl', cM3 km]
   refine aC rfl (aP9 (aE1 (aH6 (cV (aC rfl ⟨1, cA2 kn, rfl, aC rfl (cK3 kn (aC3 _ _) ?_)⟩)))))
   refine aE (dY rfl rfl (bX ka rfl (aC3 _ _) (aP6 hk))) (aE (a := false) (m' := m2) (aP1 ?_) (aC rfl ⟨rfl, rfl⟩))
   show eqV ((bM (.int k) (aM2 s.rows)).getD (.str (Str.ofString ""))) (.str (bQ l k)) m2 = _
   rw [e1]
   show Res.ok (bQ l k == bQ l k) m2 = _
   rw [beq_self_eq_true]
  ·unfold lnum
   rw [eM, List.length_map]
   have : l.length <= s.rows.length := by rw [hl', List.length_append]; exact Nat.le_add_right _ _
   exact bL (Nat.le_trans this (Nat.le_of_lt rl)) (by decide)
  ·intro q3 m3' m3 em l3 k3 g3
   rw [em] at l3 g3
   have k3 : m3[q3]? = some (.list []) := by
    rw [k3]
    rw [show (lnum l).filter (fun y_ => false) = [] from List.filter_eq_nil_iff.mpr fun y_ y_ => Bool.false_ne_true]; rfl
   refine bJ (aG (aQ fun q4 m4 l4 k4 g4 => ?_))
   refine aE (cH3 (fun x hx => absurd hx List.not_mem_nil) (l4.has k3) k4) (aC rfl ?_)
   have H4 := H2.up (l3.trans l4)
   have H5 : Tw m4 N p t ((qg, .dict dg eg) :: (qr, .dict dr er) :: (qn, .dict (aM2 s.rows) en) :: B') := H4.sub fun x hx => by
    rcases List.mem_cons.mp hx with rfl | hx
    ·exact .tail _ (.head _)
    ·rcases List.mem_cons.mp hx with rfl | hx
     ·exact .tail _ (.tail _ (.head _))
     ·rcases List.mem_cons.mp hx with rfl | hx
      ·exact .head _
      ·exact .tail _ (.tail _ (.tail _ hx))
   have ng' : ∀ x ∈ (qr, MObj.dict dr er) :: (qn, MObj.dict (aM2 s.rows) en) :: B', x.1 ≠ qg := bF (ng _ (.head _)) (bF (fun c => by rw [show qn = qg from c] at g1; exact Nat.not_lt.mpr g1 qgl) fun x hx => ng x (.tail _ hx))
   have nr' : ∀ x ∈ (qn, MObj.dict (aM2 s.rows) en) :: B', x.1 ≠ qr := bF (fun c => by rw [show qn = qr from c] at g1; exact Nat.not_lt.mpr g1 qrl) nr
   refine dJ (aC rfl (aC rfl (aC rfl (dF (H5.has (.head _)) (k := .int s.own) rfl (e8 w.so) (Nat.lt_of_le_of_lt w.ln (by omega)) (b9 ?_)))))
   refine ⟨a ++ [j], (qn, .dict (aM2 s.rows) en) :: B', _, eg + 1, _, _, _, ejs, rfl, fun x hx => .tail _ (sub x hx), H5.set _ ng', ?_, ng', nr'⟩
   have := (w.sub fun x hx => List.mem_cons_of_mem (qn, MObj.dict (aM2 s.rows) en) hx).put I.ok.on hi (List.mem_cons_self ..)
   rw [List.length_append]; exact this
end
end P11
end Mini
namespace Mini
open PySem
namespace P11
open C11
theorem cS7 {α β : Type} (f : α -> β) (l : List α) (lo hi : Option Int) : cut (l.map f) lo hi = (cut l lo hi).map f := by
 unfold cut
 dsimp only
 rw [List.length_map, List.map_drop, List.map_take]
theorem cS8 (ns : List Int) : (cut ns (some 3) (some 23)).length <= 20 := by
 show ((ns.take (min 23 ns.length)).drop (min 3 ns.length)).length <= 20
 rw [List.length_drop, List.length_take]
 omega
theorem mn_le {c x y : Int} (h : 1 <= c) (h2 : x = (c - 1) / 3) (h3 : 0 <= y) : (if x - y > 0 then x - y else 0) <= (c - 1) / 3 /\ 0 <= (if x - y > 0 then x - y else 0) := by split <;> omega
theorem dA5 {l mn c x : Int} (e : l = max 0 (min mn c)) (h : mn <= x) (h0 : 0 <= mn) : l <= x := by omega
theorem bN4 {l : Nat} {mn c : Int} (e : (l : Int) = max 0 (min mn c)) (h : c <= 12) : l <= 12 := by omega
inductive MI (ns : List Int) (f : Int) (p ql qt qr qg qz : Nat) (L : List Int) (R : List Str) (c : Int) (zs0 zs : List Int) (r : Lo) (m' : MH) : Prop
 | mk (k : Nat) (t : Tn) (Ns : List Int) (B : List (Nat × MObj)) (dr dg : List (Ky × V)) (er eg : Nat) (x8 x9 x10 x11 : Option V) (er' : r = [some (.scr ns), some (.int f), some (.int c), some (.ref ql), some (.ref qt), some (.ref p), some (.ref qr), some (.ref qg), x8, x9, x10, x11])
   (H : Tw m' N p t ((qr, .dict dr er) :: (qg, .dict dg eg) :: B)) (K : Bs B L R ql qt) (hz : (qz, .list (zs0.map V.int)) ∈ B) (I : t.In L Ns (k * 100000)) (ec : t.cnt = c) (nl : Ns.length <= k) (kl : k + zs.length <= 20) (w : Rw dr t (k * 800)) (g : Lg dg t B (k * 12)) (nr : ∀ x ∈ (qg, MObj.dict dg eg) :: B, x.1 ≠ qr) (ng : ∀ x ∈ B, x.1 ≠ qg)
section
variable {m : MH} {L : List Int} {R : List Str} {p ql qt qr qg qz : Nat} {ns : List Int} {f c : Int} {zs0 : List Int}
theorem bY8 (n : Nat) {z : Int} {zs : List Int} {r : Lo} {m' : MH} (c1 : 1 <= c) (c7 : c <= 7) (hL : ∀ x ∈ L, 0 <= x /\ x < c) (few : (L.length : Int) <= (c - 1) / 3) (J : MI ns f p ql qt qr qg qz L R c zs0 (z :: zs) r m') :
  Wp (aJ6 (.one 8) (.int z) r) m' (fun r' m' => Wp (exs sig (run sig (n + 9)) [
  (.exp (.call 39 [(.var 5), (.var 2), (.var 3), (.bi .abs [(.var 8)]), (.var 4)])),
  (.ite (.not (.val (.call 43 [(.var 5), (.var 2), (.var 3), (.var 6)]))) [
   (.ret (.cnst (Lt.bool false)))] []),
  (.for_ .range (.one 9) [(.var 2)] [
   (.ite (.val (.cmp (.var 9) [.NotIn] [(.var 3)])) [
    (.asg (.one (.one 10)) (.meth (.var 5) 5 [(.var 9)])),
    (.asg (.one (.one 11)) (.smeth (.var 7) .get [(.var 9), (.dict [] [])])),
    (.ite (.val (.cmp (.comp (.var 12) (.one 12) 1 .expr [(.var 11)] [(.val (.cmp (.smeth (.var 10) .get [(.var 12), (.cnst (Lt.str (Str.ofString "")))]) [.NotEq] [(.idx (.var 11) (.var 12))]))]) [.NotEq] [(.list [])])) [
     (.ret (.cnst (Lt.bool false)))] []),
    (.asg (.idx (.var 7) (.var 9)) (.var 10))] [])])] r') m' (fun p_1 m' => match p_1.1 with | .ret v => False | _ => MI ns f p ql qt qr qg qz L R c zs0 zs p_1.2 m') nox) nox := by
 rcases J with ⟨k, t, Ns, B, dr, dg, er, eg, x8, x9, x10, x11, er', H, K, hz, I, ec, nl, kl, w, g, nr, ng⟩
 subst er'
 subst ec
 rw [List.length_cons] at kl
 have kb : k <= 19 := by omega
 have K2 : Bs ((qr, .dict dr er) :: (qg, .dict dg eg) :: B) L R ql qt := ⟨.tail _ (.tail _ K.li), .tail _ (.tail _ K.ro), K.len, K.row, K.ll⟩
 refine aC rfl (fD (d0 (aC rfl ?_)))
 refine aV (cS6 tf dA6 cR1 f_lie n (cell := if z < 0 then -z else z) H I K2 hL (dD0 z) (by omega) (by unfold lid; omega)) fun u m1 z1 => ?_
 rcases z1 with ⟨t', Ns', H1, I1, X, nl1⟩
 have ec : t'.cnt = t.cnt := X.cnt
 rw [<- ec] at few c7
 have w1 := w.ext X
 have g1 := g.ext X I.ok.on
 refine aE2 (bQ4 (aE1 (d0 (aC rfl ?_))))
 rw [<- ec]
 refine aV (cQ7 (n + 5) H1 I1 few c7 (.tail _ K.li) K.ll (by omega) nr w1 (by unfold lid; omega)) fun u m2 z2 => ?_
 rcases z2 with ⟨rfl, d', e', H2, w2⟩
 refine aC rfl ?_
 have nr2 : ∀ x ∈ B, x.1 ≠ qr := fun x hx => nr x (.tail _ hx)
 have ng2 : ∀ x ∈ (qr, MObj.dict d' e') :: B, x.1 ≠ qg := bF (fun c => nr _ (.head _) c.symm) ng
 have c1' : 1 <= t'.cnt := I1.ok.c1
 refine aH0 (List.range t'.cnt.toNat) (fun (j : Nat) => V.int (0 + (j : Int))) (aF (aC rfl (aG (aE (aO0 (Nat.lt_of_lt_of_le (aC1 (c := 13) (Int.le_trans (by decide) c1') (Int.lt_of_le_of_lt c7 (by decide : (7 : Int) < 13)) (by decide)) (by decide))) ⟨LO ns f p ql qt qr qg (some (.int z)) t' B d' e' (k * 12), rfl, ⟨[], B, dg, eg, x9, x10, x11, rfl, rfl, fun y_ q => q, bO1 H2, g1, ng2, nr2⟩, fun y_ y_ y_ y_ => rfl, ?_, ?_⟩))))
 ·intro j js r m3 J
  refine wp_mono (bI6 (n + 6) I1 c7 K.li (by omega) (by unfold lid; omega) J) (fun r' m' q => wp_mono q (fun p_1 m' q => ?_) fun y_ y_ q => q) fun y_ y_ q => q
  rcases p_1 with ⟨f, r1⟩
  cases f with
  | ret v => exact q.elim
  | next => exact q
  | cont => exact q
 ·rintro r m3 ⟨a, B', dg', eg', x, y, z', el, er', sub, H3, w3, ng3, nr3⟩
  subst er'
  rw [List.append_nil] at el
  have al : a.length <= 7 := by
   rw [<- el, List.length_range]; omega
  refine b9 ⟨k + 1, t', Ns', B', d', dg', e', eg', _, _, _, _, rfl, bO1 H3, ⟨sub _ K.li, sub _ K.ro, K.len, K.row, K.ll⟩, sub _ hz, I1.mono (by omega), rfl, by omega, by omega, w2.mono (by omega), w3.mono (by omega), bF (fun c => ng3 _ (.head _) c.symm) nr3, fun x hx => ng3 x (.tail _ hx)⟩
theorem law_holds (n : Nat) (ns : List Int) (hl : ns.length <= 4000) : Wp (run sig (n + 10) 44 [.scr ns]) [] (fun v y_ => v = .bool true) nox := by
 have e0 := fun m => cT4 f_at (n + 8) ns 0 (by decide) m
 have e1 := fun m => cT4 f_at (n + 8) ns 1 (by decide) m
 have e2 := fun m => cT4 f_at (n + 8) ns 2 (by decide) m
 refine bC5 rfl rfl (a9 (aO9 (aF (aE (aC5 (vs := [.scr ns, .int 0]) rfl (e0 _)) (aG (aC (a := .int (if at0 ns 0 < 0 then -at0 ns 0 else at0 ns 0)) rfl ?_))))))
 generalize (if at0 ns 0 < 0 then -at0 ns 0 else at0 ns 0) = f
 refine a9 (d0 (aC rfl (aV (bS4 cR3 (n + 8) f) fun u m1 z_ => ?_)))
 rcases z_ with ⟨c, eu, c1, c7, l1⟩
 subst eu
 have c12 : c <= 12 := Int.le_trans c7 (by decide)
 obtain ⟨mn, em, hm⟩ : ∃ mn : Int, ev sig (run sig (n + 9)) (.bi .max2 [(.cnst (Lt.int 0)), (.bin .Sub (.bin .FloorDiv (.bin .Sub (.var 2) (.cnst (Lt.int 1))) (.cnst (Lt.int 3))) (.bi .int [(.cmp (.bin .Mod (.bin .FloorDiv (.var 1) (.cnst (Lt.int 35))) (.cnst (Lt.int 7))) [.Eq] [(.cnst (Lt.int 3))])]))]) [some (.scr ns), some (.int f), some (.int c), none, none, none, none, none, none, none, none, none] m1 = .ok (.int mn) m1 /\ mn <= (c - 1) / 3 /\ 0 <= mn := by
  refine ⟨if (c - 1) / 3 - (if (f / 35 % 7 == 3) = true then 1 else 0) > 0 then (c - 1) / 3 - (if (f / 35 % 7 == 3) = true then 1 else 0) else 0, rfl, mn_le c1 rfl ?_⟩
  cases f / 35 % 7 == 3 <;> decide
 refine a9 (d0 (aF (aE (aC5 (vs := [.scr ns, .int 1]) rfl (e1 _)) (aF (aC rfl (aF (aE em (aG (aV (bR9 cR2 (n + 8) _ c mn c1 c12) fun u m2 z_ => ?_)))))))))
 rcases z_ with ⟨ql, L, eu, kl, l2, g2, nd, hL, le⟩
 subst eu
 have few : (L.length : Int) <= (c - 1) / 3 := dA5 le hm.1 hm.2
 have ll : L.length <= 12 := bN4 le c12
 refine a9 (aL7 (List.range 2) (fun (j : Nat) => V.int (0 + (j : Int))) (fun (j : Nat) => V.str (row ((if at0 ns 2 < 0 then -at0 ns 2 else at0 ns 2) % 100003) (0 + (j : Int)))) (fun m' => Le m2 m') (aF (aC rfl (aG (aE (aO0 (n := 2) (by decide)) ⟨rfl, .refl _, fun y_ y_ => rfl, ?_, by decide, ?_⟩)))))
 ·intro j hj m' l
  refine aC rfl (d0 (aF (aE (a := .int ((if at0 ns 2 < 0 then -at0 ns 2 else at0 ns 2) % 100003)) (m' := m') ?_ (aF (aC rfl (aG (cK4 (cX3 f_row (n + 8) _ _ m') fun m'' l' => ⟨rfl, l.trans l'⟩)))))))
  refine bE (x := .int (if at0 ns 2 < 0 then -at0 ns 2 else at0 ns 2)) ?_ rfl (eR (by decide))
  show Res.bind (Res.bind (ev sig (run sig (n + 9)) (.call 32 [(.var 0), (.cnst (Lt.int 2))]) _ m') _) _ = _
  rw [aC5 (vs := [.scr ns, .int 2]) rfl (e2 m')]; rfl
 intro qt m3' m3 l3' l3 k3 g3
 generalize (if at0 ns 2 < 0 then -at0 ns 2 else at0 ns 2) % 100003 = base at k3
 have l23 : Le m2 m3 := l3'.trans l3
 have k3 : m3[qt]? = some (.list ([row base 0, row base 1].map V.str)) := k3
 have kl3 := l23.has kl
 refine a9 (cN3 tf (n := n + 5) (B := [(ql, .list (L.map V.int)), (qt, .list ([row base 0, row base 1].map V.str))]) rfl rfl kl3 (bF kl3 (bF k3 bT7)) c1 c12 hL nd fun p m4 H4 => ?_)
 have K4 : Bs [(ql, .list (L.map V.int)), (qt, .list ([row base 0, row base 1].map V.str))] L [row base 0, row base 1] ql qt := ⟨.head _, .tail _ (.head _), rfl, bF (aH1 _ _) (bF (aH1 _ _) bT7), ll⟩
 refine a9 (aE (a := .ref m4.length) (m' := m4 ++ [.dict [] 0]) rfl ?_)
 have H5 := H4.new (Le.app m4 [.dict [] 0]) bO (Nat.le_refl _)
 have nr5 : ∀ x ∈ [(ql, MObj.list (L.map V.int)), (qt, MObj.list ([row base 0, row base 1].map V.str))], x.1 ≠ m4.length := fun x hx => Nat.ne_of_lt (aT (H4.has hx))
 have lt5 : m4.length < (m4 ++ [MObj.dict [] 0]).length := by rw [List.length_append]; exact Nat.lt_succ_self _
 generalize m4 ++ [MObj.dict [] 0] = m5 at H5 lt5 ⊢
 refine a9 (aE (a := .ref m5.length) (m' := m5 ++ [.dict [] 0]) rfl ?_)
 have H6 := bO1 (H5.new (Le.app m5 [.dict [] 0]) bO (Nat.le_refl _))
 have ng6 : ∀ x ∈ [(ql, MObj.list (L.map V.int)), (qt, MObj.list ([row base 0, row base 1].map V.str))], x.1 ≠ m5.length := fun x hx => Nat.ne_of_lt (aT (H5.has (.tail _ hx)))
 have lt6 : m5.length < (m5 ++ [MObj.dict [] 0]).length := by rw [List.length_append]; exact Nat.lt_succ_self _
 generalize m5 ++ [MObj.dict [] 0] = m6 at H6 lt6 ⊢
 have es : dI (.scr ns) (.int 3) (.int 23) .none m6 = alloc (.list ((cut ns (some 3) (some 23)).map V.int)) m6 := by
  show (match cG (ns.map V.int) (.int 3) (.int 23) .none with | some l => alloc (.list l) m6 | Option.none => .bad) = _
  have : cG (ns.map V.int) (.int 3) (.int 23) .none = some ((cut ns (some 3) (some 23)).map V.int) := by
   show some (cut (ns.map V.int) (some 3) (some 23)) = _
   rw [cS7]
  rw [this]
 have zl := cS8 ns
 refine aH0 (cut ns (some 3) (some 23)) V.int (aF (aI (aC rfl (aI (aC rfl (aI (aC rfl (aI (aC rfl (aF8 es (aQ fun qz m7 l7 k7 g7 => aG (d9 k7 ?_))))))))))))
 have H7 := H6.new l7 k7 g7
 refine ⟨MI ns f p ql qt m4.length m5.length qz L [row base 0, row base 1] c (cut ns (some 3) (some 23)), rfl, ⟨0, _, [], (qz, .list ((cut ns (some 3) (some 23)).map V.int)) :: _, [], [], 0, 0, none, none, none, none, rfl, H7.sub fun x hx => ?_, ⟨.tail _ K4.li, .tail _ K4.ro, K4.len, K4.row, K4.ll⟩, .head _, cY1 c1 c12, rfl, Nat.le_refl _, by rw [Nat.zero_add]; exact zl, ⟨rfl, Nat.le_refl _, fun y_ y_ q => by cases q⟩, ⟨rfl, Nat.le_refl _, fun y_ y_ q => by cases q⟩, bF (Nat.ne_of_gt lt5) (bF ?_ nr5), bF ?_ ng6⟩, ?_, ?_, ?_⟩
 ·rcases List.mem_cons.mp hx with rfl | hx
  ·exact .tail _ (.head _)
  ·rcases List.mem_cons.mp hx with rfl | hx
   ·exact .tail _ (.tail _ (.head _))
   ·rcases List.mem_cons.mp hx with rfl | hx
    ·exact .head _
    ·exact .tail _ (.tail _ (.tail _ hx))
 ·exact Nat.ne_of_gt (Nat.lt_of_lt_of_le (Nat.lt_trans lt5 lt6) g7)
 ·exact Nat.ne_of_gt (Nat.lt_of_lt_of_le lt6 g7)
 ·rintro zs r m' ⟨k, t, Ns, B, dr, dg, er, eg, x8, x9, x10, x11, er', H, K, hz, I, ec, nl, kl, w, g, nr, ng⟩
  exact cI (H.has (.tail _ (.tail _ hz)))
 ·intro z zs r m' J
  refine wp_mono (bY8 n c1 c7 hL few J) (fun r' m' q => wp_mono q (fun p_1 m' q => ?_) fun y_ y_ q => q) fun y_ y_ q => q
  rcases p_1 with ⟨f, r1⟩
  cases f with
  | ret v => exact q.elim
  | next => exact q
  | cont => exact q
 ·exact fun r m' y_ => bA (aC rfl rfl)
end
end P11
end Mini
open PySem PySem.W PyProof.Rows
namespace Mini
noncomputable def keep11 : List Nat := [1, 2, 3, 4, 5, 6, 7, 8, 10, 11, 12, 13, 14, 16, 17, 18, 19, 20, 21, 22, 24, 26, 28, 30, 31, 32, 33, 34, 35, 36, 37, 38, 39, 40, 41, 42]
noncomputable def as11 : List Nat := [3, 23, 24, 36, 37, 48, 49, 60, 61, 72, 73, 84, 85, 96, 97, 108, 109, 117, 118, 124, 125, 131, 132, 138, 139, 145, 146, 152, 153, 159, 160, 166, 167, 180, 181, 187, 188, 192, 193, 199, 200, 204, 205, 211, 212, 218, 219, 225, 226, 232, 233, 235, 236, 253, 254, 260, 261, 267, 268, 272, 273, 275, 276, 293, 294, 300, 301, 307, 308, 314, 315, 321, 322, 328, 329, 335, 336, 342, 343, 349, 350, 356, 357, 363, 364, 366, 367, 377, 378, 384, 385, 389, 390, 396, 397, 403, 404, 408, 409, 415, 416, 420, 421, 427, 428, 432, 433, 437, 438, 444, 445, 449, 450]
noncomputable def chk11 (K : Frag) : Bool := chkA C11.sig [] 37 K && chkB C11.sig [] 37 44 K
theorem said11 : PySem.Challenge.rw_uf030037_11.wellSaid = true := by kernel_rfl
theorem run11a : ∀ w os, (cG6 PySem.Challenge.rw_uf030037_11.prog 4000 w os).map (fun s => staticsOk (importedModules PySem.Challenge.rw_uf030037_11.prog.main.body) (boot_heap w.params) s.abs.heap && namesBound PySem.Challenge.rw_uf030037_11.prog s.abs.heap && gensDone s.abs && laidKept (boot_heap w.params) s.abs.heap) = some true := by intro w os; kernel_rfl
theorem run11b : ∀ w os, (cG6 PySem.Challenge.rw_uf030037_11.prog 4000 w os).map (fun s => Fast.tw4187177175401517315 (view PySem.Challenge.rw_uf030037_11.prog keep11) [] (importedModules PySem.Challenge.rw_uf030037_11.prog.main.body) (xtOf (view PySem.Challenge.rw_uf030037_11.prog keep11) PySem.Challenge.rw_uf030037_11.row.records) true s.abs) = some (openGood (view PySem.Challenge.rw_uf030037_11.prog keep11) []) := by intro w os; kernel_rfl
theorem run11c : ∀ w os, (cG6 PySem.Challenge.rw_uf030037_11.prog 4000 w os).map (fun s => chkA C11.sig [] 37 (aI4 as11 s.abs.heap)) = some true := by intro w os; kernel_rfl
theorem run11d : ∀ w os, (cG6 PySem.Challenge.rw_uf030037_11.prog 4000 w os).map (fun s => chkB C11.sig [] 37 44 (aI4 as11 s.abs.heap)) = some true := by intro w os; kernel_rfl
theorem run11 : ∀ w os, (cG6 PySem.Challenge.rw_uf030037_11.prog 4000 w os).map (fun s => bE8 PySem.Challenge.rw_uf030037_11.prog (view PySem.Challenge.rw_uf030037_11.prog keep11) PySem.Challenge.rw_uf030037_11.row.records (fun h => chk11 (aI4 as11 h)) w s.abs) = some (true, openGood (view PySem.Challenge.rw_uf030037_11.prog keep11) [], true) := fun w os => cA5 (run11a w os) (run11b w os) (run11c w os) (run11d w os) fun y_ => rfl
end Mini
open PySem PySem.W PyProof.Rows Mini
namespace Mini
set_option tactic.hygienic true in
theorem t11 : PySem.Challenge.rw_uf030037_11.Holds := by
 refine cB2 (keep := keep11) (as := as11) (chk := chk11) (N := 4000) (d := ((defOf (view PySem.Challenge.rw_uf030037_11.prog keep11) PySem.Challenge.rw_uf030037_11.row.name).get (by kernel_rfl)).1) (kwd := []) said11 (by kernel_rfl) (by decide +kernel) (fun s => rfl) run11 (by kernel_rfl) (by kernel_rfl) (by kernel_rfl) (by kernel_rfl) (by kernel_rfl) ⟨rfl, rfl, rfl, rfl, rfl, by kernel_rfl⟩ ⟨[.list []], by decide +kernel, by decide +kernel⟩ ?_
 intro w s₀ s₁ mg mb G Y fa o pm cd doc dV kV ho hd hcd hD hmg hg args vals as hpre hlay hrd hwl hlo
 rcases Y with ⟨K, KX, hck⟩
 refine Ground.open G ?_
 intro T B D TE TW
 have hmg' : mg (Str.ofString "law") = some (.ref fa) := hmg
 clear hd hcd hD hmg ho
 wrow_args hpre hlay hrd hwl hlo
 rename_i ns _ _ _ _ _ _ _ l vs _ hL _ _ _ hI _ hlen _
 refine glue (S := C11.sig) (qok := []) (k := 44) (n := 10) (d := _) T (by kernel_rfl) KX hg (dC0 hck rfl) rfl hmg' hL hI (by omega) (by decide) (P11.law_holds 0 ns (by omega)) ?_ ?_
 ·intro cls; rfl
 ·wrow_post
end Mini
theorem PySem.Challenge.cw_uf030037_11_holds : PySem.Challenge.rw_uf030037_11.Holds :=
 Mini.t11
