import PyProof.Rows.All
import PyProof.Meets
import PyProof.Ns1
import PyProof.ListIndex
import PyProof.ForAny
import PyProof.CallRoads
import PyProof.CallType
import PyProof.Cells
import PyProof.PlainList
import PyProof.StrWalks
import PyProof.CompFree
import PyProof.PureInt
import PyProof.MeetsSeq
import PyProof.DictKinds
import PyProof.MeetsDictList
import PyProof.DictStraight
import PyProof.TupleKey
import PyProof.DictWalks
import PyProof.EnumFor
import PyProof.EnumStmt
import PyProof.EnumMake
import PyProof.EqAt
import PyProof.EqKinds
import PyProof.P3Statements
import PyProof.ExcClass
import PyProof.RaisesMany
import PyProof.StationsW
import PyProof.StrBlockL
import PyProof.RangeIter
import PyProof.WalksMore
import PyProof.RangeFor
import PyProof.InstLoad
import PyProof.InstStoreFacts
import PyProof.IsiHeapPairs
import PyProof.IsiPairs
import PyProof.IsiSeqPairs
import PyProof.ListIndexNeg
import PyProof.ObjNew
import PyProof.Rows.AttrNodeAny
import PyProof.RulesAssignMore
import PyProof.Rows.SortShell
import PyProof.Rows.SortWalk
import PyProof.Rows.Range3
import PyProof.Rows.SetFrom
import OpenK.KCall
import OpenK.KMake
import OpenK.TopRead
import OpenK.KWalk
import OpenK.KLine
import KE.KPop
import KE.KDictList
import KE.KDictSum
import KE.KEqDict
import Wide.Txt2
import Wide.All
import OpenK.AllK
import Wide.FinOn
import PySem.Challenge.RW_uf030037_12
set_option Elab.async false
set_option maxRecDepth 100000
set_option maxHeartbeats 8000000
set_option autoImplicit false
set_option linter.all false
set_option genSizeOf false
set_option genInjectivity false
set_option bootstrap.genMatcherCode false
set_option compiler.extract_closed false
set_option tactic.hygienic false
namespace Mini
open PySem
inductive V where
 | none | bool (b:Bool) | int (i:Int) | str (s:Str) | tup (xs:List V) | ref (n:Nat) | scr (ns:List Int)
inductive Ky where
 | int (i:Int) | str (s:Str) | tup (ks:List (Sum Int Str))
 deriving DecidableEq
inductive MObj where
 | list (xs:List V)
 | dict (kvs:List (Ky×V)) (e:Nat)
 | inst (c:Nat) (fs:List (Nat×V))
noncomputable abbrev MH:=List MObj
inductive Res (α:Type) where
 | ok (a:α) (m:MH)
 | exc (c:Nat) (m:MH)
 | bad
noncomputable abbrev Mn (α:Type):=MH->Res α
noncomputable def Res.bind {α β:Type} (r:Res α) (f:α->Mn β):Res β:=match r with
 | .ok a m=>f a m
 | .exc c m=>.exc c m
 | .bad=>.bad
noncomputable def Res.nox {α:Type} (r:Res α):Res α:=match r with
 | .exc _ _=>.bad
 | r=>r
noncomputable def ret {α:Type} (a:α):Mn α:=fun m=>.ok a m
noncomputable def bad {α:Type}:Mn α:=fun y_=>.bad
noncomputable def bnd {α β:Type} (x:Mn α) (f:α->Mn β):Mn β:=fun m=>(x m).bind f
noncomputable def ofO {α:Type}:Option α->Mn α
 | some a=>ret a
 | Option.none=>bad
noncomputable def Ky.val:Ky->V
 | .int i=>.int i
 | .str s=>.str s
 | .tup ks=>.tup (ks.map fun x=>match x with | .inl i=>.int i | .inr s=>.str s)
noncomputable def Ky.sort:Ky->Nat
 | .int _=>0
 | .str _=>1
 | .tup _=>2
noncomputable def fR {α β:Type} (g:α->Option β):List α->Option (List β)
 | []=>some []
 | x::xs=>match g x,fR g xs with
  | some d,some ds=>some (d::ds)
  | _,_=>Option.none
noncomputable def rd:Nat->MH->V->Option PyData
 | 0,_,_=>Option.none
 | f+1,m,v=>match v with
  | .none=>some .none
  | .bool b=>some (.bool b)
  | .int i=>some (.int i)
  | .str s=>some (.str s)
  | .tup xs=>(fR (rd f m) xs).map .tuple
  | .ref n=>match m[n]? with
   | some (.list xs)=>(fR (rd f m) xs).map .list
   | _=>Option.none
  | _=>Option.none
noncomputable def atom:V->Option (Sum Int Str)
 | .int i=>some (.inl i)
 | .str s=>some (.inr s)
 | _=>Option.none
noncomputable def dN:V->Option Ky
 | .int i=>some (.int i)
 | .tup xs=>(fR atom xs).map .tup
 | _=>Option.none
noncomputable def eY:Nat:=12
noncomputable def bP (k:Ky):List (Ky×V)->Option V
 | []=>Option.none
 | (k',v)::r=>if k'=k then some v else bP k r
noncomputable def aD6 (m:MH) (ls:List (Ky×V)):List (Ky×V)->Option Bool
 | []=>some true
 | (k,v)::r=>match bP k ls with
  | Option.none=>some false
  | some u=>match rd eY m v with
   | some x=>match rd eY m u with
    | some y=>match aD6 m ls r with
     | some b=>some (PyData.eqv x y&&b)
     | Option.none=>Option.none
    | Option.none=>Option.none
   | Option.none=>Option.none
noncomputable def aJ5 (kvs:List (Ky×V)):Bool:=kvs.all fun p=>p.1.sort == 0
noncomputable def eqN (m:MH) (a b:V):Option Bool:=match a with
 | .ref p=>match b with
  | .ref q=>match m[p]? with
   | some (.dict ks _)=>match m[q]? with
    | some (.dict ls _)=>if p≠q /\ ks.length=ls.length /\ (aJ5 ks&&aJ5 ls)=true then aD6 m ls ks else Option.none
    | _=>Option.none
   | _=>Option.none
  | _=>Option.none
 | _=>Option.none
noncomputable def eqV (a b:V):Mn Bool:=fun m=>match rd eY m a with
 | some x=>match rd eY m b with
  | some y=>.ok (PyData.eqv x y) m
  | Option.none=>.bad
 | Option.none=>match eqN m a b with
  | some c=>.ok c m
  | Option.none=>.bad
noncomputable def at_ {α:Type} (xs:List α) (i:Int):Option α:=
 if 0 <= i then xs[i.toNat]? else if 0 <= i+xs.length then xs[(i+xs.length).toNat]? else Option.none
noncomputable def eE (n:Nat) (i:Int):Nat:=if 0 <= i then min i.toNat n else (i+n).toNat
noncomputable def cut {α:Type} (xs:List α) (lo hi:Option Int):List α:=
 let a:=match lo with | some i=>eE xs.length i | Option.none=>0
 let b:=match hi with | some i=>eE xs.length i | Option.none=>xs.length
 (xs.take b).drop a
noncomputable def put (k:Ky) (v:V):List (Ky×V)->List (Ky×V)
 | []=>[(k,v)]
 | (k',v')::r=>if k'=k then (k',v)::r else (k',v')::put k v r
noncomputable def eX (k:Ky):List (Ky×V)->List (Ky×V)
 | []=>[]
 | (k',v')::r=>if k'=k then r else (k',v')::eX k r
noncomputable def aJ (k:Ky) (kvs:List (Ky×V)):Bool:=kvs.all fun p=>p.1.sort == k.sort
noncomputable def aJ6 (i:Nat):List (Nat×V)->Option V
 | []=>Option.none
 | (j,v)::r=>if j=i then some v else aJ6 i r
noncomputable def eH (i:Nat) (v:V):List (Nat×V)->List (Nat×V)
 | []=>[(i,v)]
 | (j,v')::r=>if j=i then (j,v)::r else (j,v')::eH i v r
inductive Bi where
 | len | abs | int | str | list | tuple | dict | sorted | max2 | min2 | max1 | lenset
inductive Sm where
 | append | pop | clear | get | join | split | count | index
 deriving DecidableEq
inductive Ty where
 | int | bool | str | list | tuple | dict | cls (c:Nat)
 deriving DecidableEq
inductive IK where
 | expr | range | enum
inductive CT where
 | one (i:Nat) | many (is:List Nat)
 deriving DecidableEq
set_option genCtorIdx false in
inductive Lt where
 | none | bool (b:Bool) | int (i:Int) | str (s:Str)
noncomputable def Lt.val:Lt->V
 | .none=>.none
 | .bool b=>.bool b
 | .int i=>.int i
 | .str s=>.str s
set_option genCtorIdx false in
mutual
inductive CE where
 | cnst (v:Lt)
 | var (i:Nat)
 | glob (i:Nat)
 | fnv (k:Nat)
 | bin (op:Operator) (a b:CE)
 | neg (a:CE)
 | not (a:CE)
 | boolop (isAnd:Bool) (as:List CE)
 | cmp (a:CE) (ops:List CmpOp) (bs:List CE)
 | ite (c:CB) (a b:CE)
 | tup (as:List CE)
 | list (as:List CE)
 | dict (ks:List Str) (vs:List CE)
 | idx (a i:CE)
 | slice (a lo hi st:CE)
 | attr (a:CE) (n:Nat)
 | call (k:Nat) (as:List CE)
 | callv (f:CE) (as:List CE)
 | new (c:Nat) (as:List CE)
 | meth (o:CE) (n:Nat) (as:List CE)
 | smeth (o:CE) (n:Sm) (as:List CE)
 | bi (b:Bi) (as:List CE)
 | listrange (as:List CE)
 | isi (a:CE) (t:Ty)
 | comp (elt:CE) (t:CT) (nl:Nat) (k:IK) (src:List CE) (ifs:List CB)
inductive CB where
 | not (b:CB)
 | all (isAnd:Bool) (bs:List CB)
 | val (e:CE)
end
set_option genCtorIdx false in
inductive CTgt where
 | one (t:CT) | attr (o:CE) (n:Nat) | idx (o i:CE) | idx2 (o i o' i':CE)
set_option genCtorIdx false in
inductive CS where
 | asg (t:CTgt) (e:CE)
 | exp (e:CE)
 | ite (c:CB) (a b:List CS)
 | for_ (k:IK) (t:CT) (src:List CE) (body:List CS)
 | wh (c:CB) (body:List CS)
 | ret (e:CE)
 | rse (c:Nat) (msg:Str)
 | try_ (body:List CS) (c:Nat) (nm:Option Nat) (h:CE)
 | cont
 | pass
structure FnD where
 name:Str
 np:Nat
 names:List Str
 body:List CS
structure ClsD where
 name:Str
 init:Option Nat
 meths:List (Nat×Nat)
 exc:Bool
 supers:List Nat
structure Sig where
 fns:List FnD
 cls:List ClsD
 attrs:List Str
 globs:List (Str×Lt)
noncomputable abbrev Lo:=List (Option V)
noncomputable def lid:Nat:=4194304
noncomputable def fB (v:V):Mn Bool:=fun m=>match v with
 | .none=>.ok false m
 | .bool b=>.ok b m
 | .int i=>.ok (i != 0) m
 | .str s=>if s.length <= lid then .ok (s.length != 0) m else .bad
 | .tup xs=>if xs.length <= lid then .ok (!xs.isEmpty) m else .bad
 | .ref n=>match m[n]? with
  | some (.list xs)=>.ok (!xs.isEmpty) m
  | _=>.bad
 | _=>.bad
noncomputable def alloc (o:MObj):Mn V:=fun m=>.ok (.ref m.length) (m++[o])
noncomputable def bK4 (op:Operator) (a b:V):Mn V:=fun m=>match op,a,b with
 | .Add,.int i,.int j=>.ok (.int (i+j)) m
 | .Sub,.int i,.int j=>.ok (.int (i - j)) m
 | .Mult,.int i,.int j=>if i.natAbs < 1073741824 \/ j.natAbs < 1073741824 then .ok (.int (i * j)) m else .bad
 | .FloorDiv,.int i,.int j=>if 0 < j /\ j.natAbs < 1073741824 then .ok (.int (i / j)) m else .bad
 | .Mod,.int i,.int j=>if 0 < j then .ok (.int (i % j)) m else .bad
 | .Add,.str x,.str y=>if x.length+y.length <= lid then .ok (.str (x++y)) m else .bad
 | .Add,.ref p,.ref q=>match m[p]?,m[q]? with
  | some (.list x),some (.list y)=>if x.length+y.length <= lid then alloc (.list (x++y)) m else .bad
  | _,_=>.bad
 | _,_,_=>.bad
noncomputable def inV (x c:V):Mn Bool:=fun m=>match c with
 | .tup ys=>match fR (rd eY m) ys,rd eY m x with
  | some ds,some d=>.ok (ds.any fun e=>PyData.eqv e d) m
  | _,_=>.bad
 | .str y=>match x with
  | .str s=>match s.cps.toList with
   | [c]=>.ok (decide (c∈y.cps.toList)) m
   | _=>.bad
  | _=>.bad
 | .ref n=>match m[n]? with
  | some (.list ys)=>match fR (rd eY m) ys,rd eY m x with
   | some ds,some d=>.ok (ds.any fun e=>PyData.eqv e d) m
   | _,_=>.bad
  | some (.dict kvs _)=>match dN x with
   | some k=>if aJ k kvs then .ok (bP k kvs).isSome m else .bad
   | Option.none=>.bad
  | _=>.bad
 | _=>.bad
noncomputable def aI9 (op:CmpOp) (a b:V):Mn Bool:=match op with
 | .Eq=>eqV a b
 | .NotEq=>bnd (eqV a b) fun c=>ret (!c)
 | .In=>inV a b
 | .NotIn=>bnd (inV a b) fun c=>ret (!c)
 | .Is=>bad
 | .IsNot=>bad
 | .Lt=>match a,b with | .int i,.int j=>ret (decide (i < j)) | _,_=>bad
 | .LtE=>match a,b with | .int i,.int j=>ret (decide (i <= j)) | _,_=>bad
 | .Gt=>match a,b with | .int i,.int j=>ret (decide (i > j)) | _,_=>bad
 | .GtE=>match a,b with | .int i,.int j=>ret (decide (i ≥ j)) | _,_=>bad
noncomputable def aQ9 (a i:V):Mn V:=fun m=>match a with
 | .tup xs=>match i with
  | .int k=>if k.natAbs < 2 ^ 60 then ofO (at_ xs k) m else .bad
  | _=>.bad
 | .str s=>match i with
  | .int k=>if k.natAbs < 2 ^ 60 then ofO ((at_ s.cps.toList k).map fun c=>.str ⟨#[c]⟩) m else .bad
  | _=>.bad
 | .ref n=>match m[n]? with
  | some (.list xs)=>match i with
   | .int k=>if k.natAbs < 2 ^ 60 then ofO (at_ xs k) m else .bad
   | _=>.bad
  | some (.dict kvs _)=>match dN i with
   | some k=>if aJ k kvs then ofO (bP k kvs) m else .bad
   | Option.none=>.bad
  | _=>.bad
 | .scr ns=>match i with
  | .int k=>if 0 <= k then ofO ((ns[k.toNat]?).map .int) m else .bad
  | _=>.bad
 | _=>.bad
noncomputable def aC8 (v:V):Option (Option Int):=match v with
 | .none=>some Option.none
 | .int i=>if i.natAbs < 2 ^ 60 then some (some i) else Option.none
 | _=>Option.none
noncomputable def cX {α:Type} (xs:List α) (lo hi st:V):Option (List α):=
 match st with
 | .none=>match aC8 lo,aC8 hi with
  | some a,some b=>some (cut xs a b)
  | _,_=>Option.none
 | .int k=>match lo,hi with
  | .none,.none=>if k=1 then some xs else if k=-1 then some xs.reverse else Option.none
  | _,_=>Option.none
 | _=>Option.none
noncomputable def dT (a lo hi st:V):Mn V:=fun m=>match a with
 | .str s=>match st with
  | .none=>if s.length <= lid then ofO ((cX s.cps.toList lo hi .none).map fun l=>.str ⟨l.toArray⟩) m else .bad
  | _=>.bad
 | .ref n=>match m[n]? with
  | some (.list xs)=>match cX xs lo hi st with
   | some l=>alloc (.list l) m
   | Option.none=>.bad
  | _=>.bad
 | .scr ns=>match st with
  | .none=>match cX (ns.map V.int) lo hi .none with
   | some l=>alloc (.list l) m
   | Option.none=>.bad
  | _=>.bad
 | _=>.bad
noncomputable def aB7 (a:V) (n:Nat):Mn V:=fun m=>match a with
 | .ref p=>match m[p]? with
  | some (.inst _ fs)=>ofO (aJ6 n fs) m
  | _=>.bad
 | _=>.bad
noncomputable def aB3:List V->Option (List Int)
 | []=>some []
 | .int i::r=>(aB3 r).map (i::·)
 | _::_=>Option.none
noncomputable def fI:List (Ky×V)->Option (List Int)
 | []=>some []
 | (.int i,_)::r=>(fI r).map (i::·)
 | _::_=>Option.none
noncomputable def insI (i:Int):List Int->List Int
 | []=>[i]
 | j::r=>if i <= j then i::j::r else j::insI i r
noncomputable def sortI:List Int->List Int
 | []=>[]
 | i::r=>insI i (sortI r)
noncomputable def aG3 (lo hi:Int):List V:=(List.range (hi - lo).toNat).map fun (k:Nat)=>V.int (lo+k)
noncomputable def dU:List V->Option (List V)
 | [.int n]=>if n.natAbs < 2 ^ 30 then some (aG3 0 n) else Option.none
 | _=>Option.none
noncomputable def cS3 (i:Int):Str:=Str.ofString (toString i)
noncomputable def bO4 (c:Nat):List Nat->List (List Nat)
 | []=>[[]]
 | x::l=>if x=c then []::bO4 c l else match bO4 c l with
  | []=>[[x]]
  | p::ps=>(x::p)::ps
noncomputable def biV (b:Bi) (as:List V):Mn V:=fun m=>match b,as with
 | .len,[.str s]=>if s.length <= lid then .ok (.int s.length) m else .bad
 | .len,[.tup xs]=>if xs.length <= lid then .ok (.int xs.length) m else .bad
 | .len,[.scr ns]=>.ok (.int ns.length) m
 | .len,[.ref n]=>match m[n]? with
  | some (.list xs)=>.ok (.int xs.length) m
  | _=>.bad
 | .abs,[.int i]=>.ok (.int (if i < 0 then -i else i)) m
 | .int,[.bool c]=>.ok (.int (if c then 1 else 0)) m
 | .str,[.int i]=>if i.natAbs < 1000000 then .ok (.str (cS3 i)) m else .bad
 | .list,[.ref n]=>match m[n]? with
  | some (.list xs)=>alloc (.list xs) m
  | some (.dict kvs _)=>alloc (.list (kvs.map fun p=>p.1.val)) m
  | _=>.bad
 | .tuple,[.ref n]=>match m[n]? with
  | some (.list xs)=>.ok (.tup xs) m
  | _=>.bad
 | .dict,[.ref n]=>match m[n]? with
  | some (.dict kvs _)=>if aJ5 kvs then alloc (.dict kvs 0) m else .bad
  | _=>.bad
 | .sorted,[.ref n]=>match m[n]? with
  | some (.list xs)=>match aB3 xs with
   | some is=>if is.length < 64 then alloc (.list ((sortI is).map .int)) m else .bad
   | Option.none=>.bad
  | some (.dict kvs _)=>match fI kvs with
   | some is=>if is.length < 64 \/ is.Pairwise (· < ·) then alloc (.list ((sortI is).map .int)) m else .bad
   | Option.none=>.bad
  | _=>.bad
 | .max2,[.int i,.int j]=>.ok (.int (if j > i then j else i)) m
 | .min2,[.int i,.int j]=>.ok (.int (if j < i then j else i)) m
 | _,_=>.bad
noncomputable def aQ8 (S:Sig) (a:V) (t:Ty):Mn Bool:=fun m=>match t,a with
 | .cls _,_=>.bad
 | .int,.int _=>.ok true m
 | .int,.bool _=>.ok true m
 | .bool,.bool _=>.ok true m
 | .str,.str _=>.ok true m
 | .tuple,.tup _=>.ok true m
 | t,.ref n=>match m[n]? with
  | some (.list _)=>.ok (t == .list) m
  | some (.dict _ _)=>.ok (t == .dict) m
  | _=>.bad
 | _,.scr _=>.bad
 | _,_=>.ok false m
noncomputable def dY:List V->Option (List Str)
 | []=>some []
 | .str x::r=>(dY r).map (x::·)
 | _::_=>Option.none
noncomputable def aZ5:List V->Option (List Bool)
 | []=>some []
 | .bool x::r=>(aZ5 r).map (x::·)
 | _::_=>Option.none
noncomputable def aJ3 (sep:Str):List Str->Str
 | []=>Str.empty
 | x::r=>r.foldl (fun acc p=>acc++sep++p) x
noncomputable def fG (sep:Str) (l:List Str):Nat:=l.foldl (fun k x=>k+x.length+sep.length) 0
noncomputable def smK (o:V) (m:MH):Option Nat:=match o with
 | .ref p=>match m[p]? with
  | some (.list _)=>some 0
  | some (.dict _ _)=>some 1
  | _=>Option.none
 | .str _=>some 2
 | _=>Option.none
noncomputable def smH (k:Nat) (n:Sm):Bool:=match k,n with
 | 0,.append=>true
 | 0,.pop=>true
 | 1,.pop=>true
 | 1,.get=>true
 | 2,.join=>true
 | _,_=>false
noncomputable def bS0 (p:Nat) (xs:List V) (n:Sm) (as:List V):Mn V:=fun m=>match n with
 | .append=>(match as with | [v]=>(if xs.length < lid then .ok .none (m.set p (.list (xs++[v]))) else .bad) | _=>.bad)
 | .pop=>(match as with
  | [i]=>(match i with
   | .int k=>if 0 <= k then (match xs[k.toNat]? with
     | some v=>if k.natAbs < 2 ^ 60 then .ok v (m.set p (.list (xs.eraseIdx k.toNat))) else .bad
     | Option.none=>.bad)
    else .bad
   | _=>.bad)
  | _=>.bad)
 | .clear=>(match as with | []=>.ok .none (m.set p (.list [])) | _=>.bad)
 | .count=>(match as with
  | [i]=>(match i with
   | .bool b=>(match aZ5 xs with | some bs=>.ok (.int (bs.count b)) m | Option.none=>.bad)
   | _=>.bad)
  | _=>.bad)
 | .index=>(match as with
  | [i]=>(match i with
   | .bool b=>(match aZ5 xs with | some bs=>if bs.contains b then .ok (.int (bs.idxOf b)) m else .bad | Option.none=>.bad)
   | _=>.bad)
  | _=>.bad)
 | _=>.bad
noncomputable def aI3 (p:Nat) (kvs:List (Ky×V)) (e:Nat) (n:Sm) (as:List V):Mn V:=fun m=>match n with
 | .get=>(match as with
  | [k,d]=>(match k with
   | .int i=>if aJ (.int i) kvs then .ok ((bP (.int i) kvs).getD d) m else .bad
   | _=>.bad)
  | _=>.bad)
 | .pop=>(match as with
  | [k]=>(match k with
   | .int i=>if aJ (.int i) kvs then (match bP (.int i) kvs with
     | some v=>.ok v (m.set p (.dict (eX (.int i) kvs) (e+1)))
     | Option.none=>.bad)
    else .bad
   | _=>.bad)
  | _=>.bad)
 | .clear=>(match as with | []=>(if aJ5 kvs then .ok .none (m.set p (.dict [] (e+1))) else .bad) | _=>.bad)
 | _=>.bad
noncomputable def strM (s:Str) (n:Sm) (as:List V):Mn V:=fun m=>match n with
 | .join=>(match as with
  | [v]=>(match v with
   | .ref p=>(match m[p]? with
    | some (.list xs)=>(match dY xs with
     | some l=>if fG s l <= lid then .ok (.str (aJ3 s l)) m else .bad
     | Option.none=>.bad)
    | _=>.bad)
   | _=>.bad)
  | _=>.bad)
 | .split=>(match as with
  | [v]=>(match v with
   | .str sep=>(match sep.cps.toList with
    | [c]=>if s.length <= 4000 then alloc (.list ((bO4 c s.cps.toList).map fun l=>.str ⟨l.toArray⟩)) m else .bad
    | _=>.bad)
   | _=>.bad)
  | _=>.bad)
 | _=>.bad
noncomputable def dH (k:Nat) (o:V) (n:Sm) (as:List V):Mn V:=fun m=>match k with
 | 0=>(match o with
  | .ref p=>(match m[p]? with | some (.list xs)=>bS0 p xs n as m | _=>.bad)
  | _=>.bad)
 | 1=>(match o with
  | .ref p=>(match m[p]? with | some (.dict kvs e)=>aI3 p kvs e n as m | _=>.bad)
  | _=>.bad)
 | 2=>(match o with
  | .str s=>strM s n as m
  | _=>.bad)
 | _=>.bad
mutual
noncomputable def V.same:V->V->Bool
 | .none,y=>match y with | .none=>true | _=>false
 | .bool a,y=>match y with | .bool b=>a == b | _=>false
 | .int a,y=>match y with | .int b=>a == b | _=>false
 | .str a,y=>match y with | .str b=>a == b | _=>false
 | .tup xs,y=>match y with | .tup ys=>V.sames xs ys | _=>false
 | .ref a,y=>match y with | .ref b=>a == b | _=>false
 | .scr a,y=>match y with | .scr b=>a == b | _=>false
noncomputable def V.sames:List V->List V->Bool
 | [],ys=>ys.isEmpty
 | x::xs,ys=>match ys with
  | []=>false
  | y::ys=>V.same x y&&V.sames xs ys
end
mutual
theorem bP5:∀ v:V,V.same v v=true
 | .none=>rfl
 | .bool b=>beq_self_eq_true b
 | .int i=>beq_self_eq_true i
 | .str s=>beq_self_eq_true s
 | .tup xs=>e8 xs
 | .ref n=>beq_self_eq_true n
 | .scr n=>beq_self_eq_true n
theorem e8:∀ xs:List V,V.sames xs xs=true
 | []=>rfl
 | x::xs=>by show (V.same x x&&V.sames xs xs)=true;rw [bP5 x,e8 xs];rfl
end
set_option genCtorIdx false in
inductive Gd where
 | none | list (n:Nat) (xs:List V) | dict (n:Nat) (e:Nat)
noncomputable def Gd.stays (g:Gd) (m:MH):Bool:=match g with
 | .none=>true
 | .list n xs=>match m[n]? with
  | some (.list ys)=>V.sames xs ys
  | _=>false
 | .dict n e=>match m[n]? with
  | some (.dict _ e')=>e == e'
  | _=>false
noncomputable def eD (v:V):Mn (List V×Gd):=fun m=>match v with
 | .str s=>.ok (s.cps.toList.map fun c=>.str ⟨#[c]⟩,.none) m
 | .ref n=>match m[n]? with
  | some (.list xs)=>.ok (xs,.list n xs) m
  | some (.dict kvs e)=>.ok (kvs.map fun p=>p.1.val,.dict n e) m
  | _=>.bad
 | _=>.bad
noncomputable def aV9:Nat->List V->List V
 | _,[]=>[]
 | k,x::xs=>.tup [.int k,x]::aV9 (k+1) xs
noncomputable def cT9 (v:V):Mn (List V×Gd):=fun m=>match v with
 | .ref n=>match m[n]? with
  | some (.list xs)=>.ok (aV9 0 xs,.list n xs) m
  | _=>.bad
 | _=>.bad
noncomputable def fC (k:IK) (vs:List V):Mn (List V×Gd):=match k,vs with
 | .expr,[v]=>eD v
 | .range,vs=>match dU vs with
  | some l=>ret (l,.none)
  | Option.none=>bad
 | .enum,[v]=>cT9 v
 | _,_=>bad
noncomputable def cA:List Nat->List V->Lo->Option Lo
 | [],[],r=>some r
 | i::is,v::vs,r=>cA is vs (r.set i (some v))
 | _,_,_=>Option.none
noncomputable def aE1 (t:CT) (v:V) (r:Lo):Mn Lo:=fun m=>match t with
 | .one i=>.ok (r.set i (some v)) m
 | .many is=>match v with
  | .tup vs=>ofO (cA is vs r) m
  | _=>.bad
noncomputable def dO (o:V) (n:Nat) (v:V):Mn Unit:=fun m=>match o with
 | .ref p=>match m[p]? with
  | some (.inst c fs)=>.ok () (m.set p (.inst c (eH n v fs)))
  | _=>.bad
 | _=>.bad
noncomputable def dJ (o i v:V):Mn Unit:=fun m=>match o with
 | .ref p=>match m[p]? with
  | some (.dict kvs e)=>match dN i with
   | some k=>if aJ k kvs&&kvs.length < lid then .ok () (m.set p (.dict (put k v kvs) (e+1))) else .bad
   | Option.none=>.bad
  | _=>.bad
 | _=>.bad
inductive Fl where
 | next | cont | ret (v:V)
noncomputable def aM0 (g:Gd) (step:V->Lo->Mn (Fl×Lo)):List V->Lo->Mn (Fl×Lo)
 | [],r=>fun m=>if g.stays m then .ok (.next,r) m else .bad
 | v::vs,r=>fun m=>if g.stays m then (step v r m).bind (fun p=>match p.1 with
   | .ret x=>ret (.ret x,p.2)
   | _=>aM0 g step vs p.2) else .bad
noncomputable def d9 (o:Option V) (r:List V):List V:=match o with
 | some x=>x::r
 | Option.none=>r
noncomputable def bH (g:Gd) (step:V->Mn (Option V)):List V->Mn (List V)
 | []=>fun m=>if g.stays m then .ok [] m else .bad
 | v::vs=>fun m=>if g.stays m then (step v m).nox.bind (fun o=>bnd (bH g step vs) fun r=>ret (d9 o r)) else .bad
noncomputable def aE9 (c:Lo->Mn Bool) (body:Lo->Mn (Fl×Lo)):Nat->Lo->Mn (Fl×Lo)
 | 0,_=>bad
 | n+1,r=>bnd (fun m=>(c r m).nox) fun b=>if b then bnd (fun m=>(body r m).nox) fun p=>match p.1 with
   | .ret x=>ret (.ret x,p.2)
   | _=>aE9 c body n p.2
  else ret (.next,r)
noncomputable def cT2:Nat:=1000000
noncomputable abbrev Fns:=Nat->List V->Mn V
noncomputable def dF6 (F:Fns) (N:Nat) (as:Mn (List V)) (x:V):Mn V:=match x with
 | _=>bad
noncomputable def dB2 (v u:V):Mn V:=match u with
 | .none=>ret v
 | _=>bad
noncomputable def cQ7 (S:Sig) (F:Fns) (c:Nat) (vs:List V):Mn V:=match S.cls[c]? with
 | some d=>if d.exc then bad else match d.init with
  | some k=>bnd (alloc (.inst c [])) fun x=>bnd (F k (x::vs)) (dB2 x)
  | Option.none=>bad
 | Option.none=>bad
noncomputable def fE (S:Sig) (n:Nat) (x:V):Mn Nat:=fun m=>match x with
 | .ref p=>match m[p]? with
  | some (.inst c fs)=>match S.cls[c]? with
   | some d=>match aJ6 n fs with
    | Option.none=>ofO (d.meths.lookup n) m
    | some y_=>.bad
   | Option.none=>.bad
  | _=>.bad
 | _=>.bad
mutual
noncomputable def ev (S:Sig) (F:Fns):CE->Lo->Mn V
 | .cnst v,_=>ret v.val
 | .var i,r=>match r[i]? with
  | some (some v)=>ret v
  | _=>bad
 | .glob i,_=>match S.globs[i]? with
  | some p=>ret p.2.val
  | Option.none=>bad
 | .fnv _,_=>bad
 | .bin op a b,r=>bnd (ev S F a r) fun x=>bnd (ev S F b r) fun y=>bK4 op x y
 | .neg a,r=>bnd (ev S F a r) fun x=>match x with
  | .int i=>ret (.int (-i))
  | _=>bad
 | .not a,r=>bnd (ev S F a r) fun x=>bnd (fB x) fun b=>ret (.bool (!b))
 | .boolop c as,r=>evB S F c as r
 | .cmp a ops bs,r=>bnd (ev S F a r) fun x=>evC S F x ops bs r
 | .ite c a b,r=>bnd (evT S F c r) fun t=>if t then ev S F a r else ev S F b r
 | .tup as,r=>bnd (evs S F as r) fun vs=>ret (.tup vs)
 | .list as,r=>bnd (evs S F as r) fun vs=>alloc (.list vs)
 | .dict ks vs,r=>bnd (evs S F vs r) fun us=>alloc (.dict ((ks.map Ky.str).zip us) 0)
 | .idx a i,r=>bnd (ev S F a r) fun x=>bnd (ev S F i r) fun y=>aQ9 x y
 | .slice a lo hi st,r=>bnd (ev S F a r) fun x=>bnd (ev S F lo r) fun l=>bnd (ev S F hi r) fun h=>bnd (ev S F st r) fun t=>dT x l h t
 | .attr a n,r=>bnd (ev S F a r) fun x=>aB7 x n
 | .call k as,r=>bnd (evs S F as r) fun vs=>F k vs
 | .callv f as,r=>bnd (ev S F f r) fun x=>dF6 F S.fns.length (evs S F as r) x
 | .new c as,r=>bnd (evs S F as r) fun vs=>cQ7 S F c vs
 | .meth o n as,r=>bnd (ev S F o r) fun x=>bnd (fE S n x) fun k=>bnd (evs S F as r) fun vs=>F k (x::vs)
 | .smeth o n as,r=>bnd (ev S F o r) fun x=>fun m=>match smK x m with
  | some k=>if smH k n then bnd (evs S F as r) (fun vs=>dH k x n vs) m else .bad
  | Option.none=>.bad
 | .bi b as,r=>bnd (evs S F as r) fun vs=>biV b vs
 | .listrange as,r=>bnd (evs S F as r) fun vs=>match dU vs with
  | some l=>if l.length <= lid then alloc (.list l) else bad
  | Option.none=>bad
 | .isi a t,r=>bnd (ev S F a r) fun x=>bnd (aQ8 S x t) fun b=>ret (.bool b)
 | .comp elt t nl k src ifs,r=>bnd (evs S F src r) fun vs=>bnd (fC k vs) fun p=>
   bnd (bH p.2 (fun v=>bnd (aE1 t v (r++List.replicate nl Option.none)) fun r'=>bnd (bK3 S F ifs r') fun b=>
    if b then bnd (ev S F elt r') fun x=>ret (some x) else ret Option.none) p.1) fun l=>if l.length <= lid then alloc (.list l) else bad
noncomputable def evT (S:Sig) (F:Fns):CB->Lo->Mn Bool
 | .not a,r=>bnd (evT S F a r) fun b=>ret (!b)
 | .all c as,r=>bK2 S F c as r
 | .val e,r=>bnd (ev S F e r) fB
noncomputable def bK2 (S:Sig) (F:Fns) (c:Bool):List CB->Lo->Mn Bool
 | [],_=>ret c
 | a::as,r=>bnd (evT S F a r) fun b=>if b == c then bK2 S F c as r else ret b
noncomputable def bK3 (S:Sig) (F:Fns):List CB->Lo->Mn Bool
 | [],_=>ret true
 | a::as,r=>bnd (evT S F a r) fun b=>if b then bK3 S F as r else ret false
noncomputable def evs (S:Sig) (F:Fns):List CE->Lo->Mn (List V)
 | [],_=>ret []
 | a::as,r=>bnd (ev S F a r) fun x=>bnd (evs S F as r) fun xs=>ret (x::xs)
noncomputable def evB (S:Sig) (F:Fns) (c:Bool):List CE->Lo->Mn V
 | [],_=>bad
 | a::as,r=>match as with
  | []=>ev S F a r
  | _::_=>bnd (ev S F a r) fun x=>bnd (fB x) fun b=>if b == c then evB S F c as r else ret x
noncomputable def evC (S:Sig) (F:Fns) (x:V) (ops:List CmpOp):List CE->Lo->Mn V
 | [],_=>bad
 | a::as,r=>match ops with
  | []=>bad
  | op::ops'=>bnd (ev S F a r) fun y=>bnd (aI9 op x y) fun b=>match as with
   | []=>(match ops' with | []=>ret (.bool b) | _=>bad)
   | _::_=>if b then evC S F y ops' as r else ret (.bool false)
end
noncomputable def asgT (S:Sig) (F:Fns) (t:CTgt) (v:V) (r:Lo):Mn Lo:=match t with
 | .one t=>aE1 t v r
 | .attr o n=>bnd (ev S F o r) fun x=>bnd (dO x n v) fun y_=>ret r
 | .idx o i=>bnd (ev S F o r) fun x=>bnd (ev S F i r) fun y=>bnd (dJ x y v) fun y_=>ret r
 | .idx2 o i o' i'=>match v with
  | .tup [a,b]=>bnd (ev S F o r) fun x=>bnd (ev S F i r) fun y=>bnd (dJ x y a) fun y_=>
    bnd (ev S F o' r) fun x'=>bnd (ev S F i' r) fun y'=>bnd (dJ x' y' b) fun y_=>ret r
  | _=>bad
noncomputable def exR (nm:Option Nat) (d:Nat) (r:Lo):Lo:=match nm with
 | some y_=>r
 | Option.none=>r
noncomputable def exN (nm:Option Nat) (r:Lo):Lo:=match nm with
 | some i=>r.set i Option.none
 | Option.none=>r
noncomputable def tryX (S:Sig) (c:Nat) (nm:Option Nat) (h:Lo->Mn V) (r:Lo) (d:Nat):Mn (Fl×Lo):=fun m=>
 if ((S.cls[d]?).any fun k=>k.supers.contains c)=true then ((h (exR nm d r) m).nox).bind fun v=>ret (.ret v,exN nm r) else .bad
noncomputable def tryD (S:Sig) (x:Mn (Fl×Lo)) (c:Nat) (nm:Option Nat) (h:Lo->Mn V) (r:Lo):Mn (Fl×Lo):=fun m=>match x m with
 | .ok a m'=>.ok a m'
 | .exc d m'=>tryX S c nm h r d m'
 | .bad=>.bad
mutual
noncomputable def ex (S:Sig) (F:Fns):CS->Lo->Mn (Fl×Lo)
 | .asg t e,r=>bnd (ev S F e r) fun v=>bnd (asgT S F t v r) fun r'=>ret (.next,r')
 | .exp e,r=>bnd (ev S F e r) fun y_=>ret (.next,r)
 | .ite c a b,r=>bnd (evT S F c r) fun t=>if t then exs S F a r else exs S F b r
 | .for_ k t src body,r=>bnd (evs S F src r) fun vs=>bnd (fC k vs) fun p=>aM0 p.2 (fun v r'=>bnd (aE1 t v r') fun r''=>exs S F body r'') p.1 r
 | .wh c body,r=>aE9 (fun r'=>evT S F c r') (fun r'=>exs S F body r') cT2 r
 | .ret e,r=>bnd (ev S F e r) fun v=>ret (.ret v,r)
 | .rse _ _,_=>bad
 | .try_ body c nm h,r=>tryD S (exs S F body r) c nm (fun r'=>ev S F h r') r
 | .cont,r=>ret (.cont,r)
 | .pass,r=>ret (.next,r)
noncomputable def exs (S:Sig) (F:Fns):List CS->Lo->Mn (Fl×Lo)
 | [],r=>ret (.next,r)
 | s::ss,r=>bnd (ex S F s r) fun p=>match p.1 with
  | .next=>exs S F ss p.2
  | f=>ret (f,p.2)
end
noncomputable def finF (p:Fl×Lo):Mn V:=match p.1 with
 | .ret v=>ret v
 | .next=>ret .none
 | .cont=>bad
noncomputable def bB1 (S:Sig) (F:Fns) (k:Nat) (vs:List V):Mn V:=match S.fns[k]? with
 | some d=>if vs.length=d.np then bnd (exs S F d.body (vs.map some++List.replicate (d.names.length - d.np) Option.none)) finF else bad
 | Option.none=>bad
noncomputable def run (S:Sig):Nat->Fns
 | 0=>fun y_ y_=>bad
 | n+1=>bB1 S (run S n)
theorem dC0 {a b:Int} (h:Ky.int a=Ky.int b):a=b:=by injection h
theorem ky_t {a b:List (Sum Int Str)} (h:Ky.tup a=Ky.tup b):a=b:=by injection h
theorem some_e {α:Type} {a b:α} {C:Prop} (h:some a=some b) (k:a=b->C):C:=k (Option.some.inj h)
theorem ok_e {α:Type} {a b:α} {m m':MH} {C:Prop} (h:Res.ok a m=Res.ok b m') (k:a=b->m=m'->C):C:=by injection h with e1 e2;exact k e1 e2
end Mini
namespace Mini
open PySem
theorem hide {C:Prop} (h:∀ G:Prop,(C->G)->G):C:=h C id
set_option hygiene false in
local macro_rules
 | `(tactic| obtain $p:rcasesPatMed:=$e:term)=>`(tactic| (refine hide fun G_ g_=>?_;rcases $e:term with $p:rcasesPatMed;refine g_ ?_;clear g_ G_))
structure Wd where
 prog:Program
 w:World
 S:Sig
 fa:Nat->Addr
 ca:Nat->Addr
 base:Heap
noncomputable abbrev Io:=List (Addr×Addr)
noncomputable def dG (io:Io) (b:Addr):Prop:=∃ p∈io,b=p.1 \/ b=p.2
theorem d8 {io new:Io} {b:Addr} (x:dG (io++new) b):dG io b \/ dG new b:=by
 obtain ⟨p,hp,e⟩:=x
 rcases List.mem_append.mp hp with h | h
 ·exact .inl ⟨p,h,e⟩
 ·exact .inr ⟨p,h,e⟩
noncomputable def IntsR:List Int->List Value->Prop
 | [],us=>us=[]
 | i::ns,us=>∃ t vs,us=.int i t::vs /\ IntsR ns vs
theorem IntsR.nil:IntsR [] []:=rfl
theorem IntsR.cons (i:Int) (t:Tok) {ns:List Int} {vs:List Value} (h:IntsR ns vs):IntsR (i::ns) (.int i t::vs):=⟨t,vs,rfl,h⟩
noncomputable abbrev cW2 (vs:Array Value) (n:Nat):Obj:={ cls:=.type "tuple",data:=.seq vs n }
noncomputable abbrev fH (vs:Array Value) (n:Nat):Obj:={ cls:=.type "list",data:=.seq vs n }
mutual
noncomputable def VR (W:Wd) (h:Heap) (io:Io):V->Value->Prop
 | .none,u=>u=.none
 | .bool b,u=>u=.bool b
 | .int i,u=>∃ t,u=.int i t
 | .str s,u=>∃ t,u=.str s t /\ PyData.strOk s=true
 | .tup xs,u=>∃ a vs n,u=.ref a /\ h.get? a=some (cW2 vs n) /\ VRs W h io xs vs.toList
 | .ref n,u=>∃ a d,u=.ref a /\ io[n]?=some (a,d)
 | .scr ns,u=>∃ l o vs n,u=.ref l /\ W.base.get? l=some o /\ o.cls=.type "list" /\ o.data=.seq vs n /\ IntsR ns vs.toList /\ ns.length <= lid
noncomputable def VRs (W:Wd) (h:Heap) (io:Io):List V->List Value->Prop
 | [],us=>us=[]
 | x::xs,us=>∃ v vs,us=v::vs /\ VR W h io x v /\ VRs W h io xs vs
end
section
variable {W:Wd} {h:Heap} {io:Io}
theorem VR.none:VR W h io .none .none:=rfl
theorem VR.bool (b:Bool):VR W h io (.bool b) (.bool b):=rfl
theorem VR.int (i:Int) (t:Tok):VR W h io (.int i) (.int i t):=⟨t,rfl⟩
theorem VR.str (s:Str) (t:Tok) (k:PyData.strOk s=true):VR W h io (.str s) (.str s t):=⟨t,rfl,k⟩
theorem VR.tup {a:Addr} {vs:Array Value} {n:Nat} {xs:List V} (h1:h.get? a=some (cW2 vs n)) (h2:VRs W h io xs vs.toList):VR W h io (.tup xs) (.ref a):=⟨a,vs,n,rfl,h1,h2⟩
theorem VR.ref {n:Nat} {a d:Addr} (h1:io[n]?=some (a,d)):VR W h io (.ref n) (.ref a):=⟨a,d,rfl,h1⟩
theorem VR.scr {ns:List Int} {l:Addr} {o:Obj} {vs:Array Value} {n:Nat} (h1:W.base.get? l=some o) (h2:o.cls=.type "list") (h3:o.data=.seq vs n) (h4:IntsR ns vs.toList) (h5:ns.length <= lid):VR W h io (.scr ns) (.ref l):=⟨l,o,vs,n,rfl,h1,h2,h3,h4,h5⟩
theorem VRs.nil:VRs W h io [] []:=rfl
theorem VRs.cons {x:V} {v:Value} {xs:List V} {vs:List Value} (h1:VR W h io x v) (h2:VRs W h io xs vs):VRs W h io (x::xs) (v::vs):=⟨v,vs,rfl,h1,h2⟩
end
section
variable {W:Wd} {h:Heap} {io:Io} {u:Value} {C:Value->Prop}
@[elab_as_elim] theorem VR.dNone (k:VR W h io .none u) (c:C .none):C u:=Eq.symm (show u=_ from k)▸c
@[elab_as_elim] theorem VR.dBool {b:Bool} (k:VR W h io (.bool b) u) (c:C (.bool b)):C u:=Eq.symm (show u=_ from k)▸c
@[elab_as_elim] theorem VR.dInt {i:Int} (k:VR W h io (.int i) u) (c:∀ t,C (.int i t)):C u:=by rcases k with ⟨t,rfl⟩;exact c t
@[elab_as_elim] theorem VR.dStr {s:Str} (k:VR W h io (.str s) u) (c:∀ t,PyData.strOk s=true->C (.str s t)):C u:=by rcases k with ⟨t,rfl,k⟩;exact c t k
@[elab_as_elim] theorem VR.dTup {xs:List V} (k:VR W h io (.tup xs) u) (c:∀ a vs n,h.get? a=some (cW2 vs n)->VRs W h io xs vs.toList->C (.ref a)):C u:=by rcases k with ⟨a,vs,n,rfl,h1,h2⟩;exact c a vs n h1 h2
@[elab_as_elim] theorem VR.dRef {n:Nat} (k:VR W h io (.ref n) u) (c:∀ a d,io[n]?=some (a,d)->C (.ref a)):C u:=by rcases k with ⟨a,d,rfl,h1⟩;exact c a d h1
@[elab_as_elim] theorem VR.dScr {ns:List Int} (k:VR W h io (.scr ns) u) (c:∀ l o vs n,W.base.get? l=some o->o.cls=.type "list"->o.data=.seq vs n->IntsR ns vs.toList->ns.length <= lid->C (.ref l)):C u:=by rcases k with ⟨l,o,vs,n,rfl,h1,h2,h3,h4,h5⟩;exact c l o vs n h1 h2 h3 h4 h5
theorem VR.elim {C:(v:V)->(u:Value)->VR W h io v u->Prop} (none:C .none .none .none) (bool:∀ b,C (.bool b) (.bool b) (.bool b)) (int:∀ i t,C (.int i) (.int i t) (.int i t)) (str:∀ s t k,C (.str s) (.str s t) (.str s t k))
  (tup:∀ {a:Addr} {vs:Array Value} {n:Nat} {xs:List V} (h1:h.get? a=some (cW2 vs n)) (h2:VRs W h io xs vs.toList),C (.tup xs) (.ref a) (.tup h1 h2)) (ref:∀ {n:Nat} {a d:Addr} (h1:io[n]?=some (a,d)),C (.ref n) (.ref a) (.ref h1))
  (scr:∀ {ns:List Int} {l:Addr} {o:Obj} {vs:Array Value} {n:Nat} (h1:W.base.get? l=some o) (h2:o.cls=.type "list") (h3:o.data=.seq vs n) (h4:IntsR ns vs.toList) (h5:ns.length <= lid),C (.scr ns) (.ref l) (.scr h1 h2 h3 h4 h5))
  {v:V} {u:Value} (k:VR W h io v u):C v u k:=by
 cases v with
 | none=>obtain rfl:u=.none:=k;exact none
 | bool b=>obtain rfl:u=.bool b:=k;exact bool b
 | int i=>rcases k with ⟨t,rfl⟩;exact int i t
 | str s=>rcases k with ⟨t,rfl,k⟩;exact str s t k
 | tup xs=>rcases k with ⟨a,vs,n,rfl,h1,h2⟩;exact tup h1 h2
 | ref n=>rcases k with ⟨a,d,rfl,h1⟩;exact ref h1
 | scr ns=>rcases k with ⟨l,o,vs,n,rfl,h1,h2,h3,h4,h5⟩;exact scr h1 h2 h3 h4 h5
theorem VRs.cc {x:V} {v:Value} {xs:List V} {vs:List Value} (k:VRs W h io (x::xs) (v::vs)):VR W h io x v /\ VRs W h io xs vs:=by rcases k with ⟨y_,y_,e,h1,h2⟩;injection e with e1 e2;subst e1;subst e2;exact ⟨h1,h2⟩
theorem VRs.elim {C:(xs:List V)->(us:List Value)->VRs W h io xs us->Prop} (nil:C [] [] .nil) (cons:∀ {x:V} {v:Value} {xs:List V} {vs:List Value} (h1:VR W h io x v) (h2:VRs W h io xs vs),C (x::xs) (v::vs) (.cons h1 h2)) {xs:List V} {us:List Value} (k:VRs W h io xs us):C xs us k:=by
 cases xs with
 | nil=>obtain rfl:us=[]:=k;exact nil
 | cons x xs=>rcases k with ⟨v,vs,rfl,h1,h2⟩;exact cons h1 h2
variable {us:List Value} {D:List Value->Prop}
@[elab_as_elim] theorem VRs.dNil (k:VRs W h io [] us) (c:D []):D us:=Eq.symm (show us=_ from k)▸c
@[elab_as_elim] theorem VRs.dCons {x:V} {xs:List V} (k:VRs W h io (x::xs) us) (c:∀ v vs,VR W h io x v->VRs W h io xs vs->D (v::vs)):D us:=by rcases k with ⟨v,vs,rfl,h1,h2⟩;exact c v vs h1 h2
@[elab_as_elim] theorem VRs.d1 {x:V} (k:VRs W h io [x] us) (c:∀ v,VR W h io x v->D [v]):D us:=VRs.dCons k fun v y_ h1 h2=>VRs.dNil h2 (c v h1)
@[elab_as_elim] theorem VRs.d2 {x y:V} (k:VRs W h io [x,y] us) (c:∀ v w,VR W h io x v->VR W h io y w->D [v,w]):D us:=VRs.dCons k fun v y_ h1 h2=>VRs.d1 h2 fun w=>c v w h1
end
end Mini
local macro_rules
 | `(tactic| cases $h:ident)=>`(tactic| first | (injection $h:ident;done) | (refine Mini.some_e $h fun z_1=>?_;clear $h;cases z_1) | (refine Mini.ok_e $h fun z_1 z_2=>?_;clear $h;cases z_1;cases z_2) | subst $h:ident | refine Mini.VR.dInt $h fun y_=>?_ | cases ($h))
namespace Mini
open PySem
noncomputable def bW7 (w:World):Sum Int Str->Int
 | .inl i=>hashInt i
 | .inr s=>hashStr w s
noncomputable def aT8 (w:World):Ky->Int
 | .int i=>hashInt i
 | .str s=>hashStr w s
 | .tup ks=>reduceHash (Builtin.Tuple.tupleHashOf (ks.map (bW7 w)))
noncomputable def ERs (W:Wd) (h:Heap) (io:Io):List (Ky×V)->List DictEntry->Prop
 | [],es=>es=[]
 | p::kvs,es=>∃ key u es',es=⟨aT8 W.w p.1,key,u⟩::es' /\ VR W h io p.1.val key /\ VR W h io p.2 u /\ ERs W h io kvs es'
theorem ERs.nil {W:Wd} {h:Heap} {io:Io}:ERs W h io [] []:=rfl
theorem ERs.cons {W:Wd} {h:Heap} {io:Io} {k:Ky} {v:V} {key u:Value} {kvs:List (Ky×V)} {es:List DictEntry} (h1:VR W h io k.val key) (h2:VR W h io v u) (h3:ERs W h io kvs es):ERs W h io ((k,v)::kvs) (⟨aT8 W.w k,key,u⟩::es):=⟨key,u,es,rfl,h1,h2,h3⟩
theorem ERs.ind {W:Wd} {h:Heap} {io:Io} {C:(kvs:List (Ky×V))->(es:List DictEntry)->ERs W h io kvs es->Prop} (nil:C [] [] .nil)
  (cons:∀ {k:Ky} {v:V} {key u:Value} {kvs:List (Ky×V)} {es:List DictEntry} (h1:VR W h io k.val key) (h2:VR W h io v u) (h3:ERs W h io kvs es),C kvs es h3->C ((k,v)::kvs) (⟨aT8 W.w k,key,u⟩::es) (.cons h1 h2 h3)) {kvs:List (Ky×V)} {es:List DictEntry} (x:ERs W h io kvs es):C kvs es x:=by
 induction kvs generalizing es with
 | nil=>obtain rfl:es=[]:=x;exact nil
 | cons p kvs ih=>rcases x with ⟨key,u,es',rfl,h1,h2,h3⟩;exact cons h1 h2 h3 (ih h3)
@[elab_as_elim] theorem ERs.dCons {W:Wd} {h:Heap} {io:Io} {es:List DictEntry} {D:List DictEntry->Prop} {p:Ky×V} {kvs:List (Ky×V)} (k:ERs W h io (p::kvs) es) (c:∀ key u es',VR W h io p.1.val key->VR W h io p.2 u->ERs W h io kvs es'->D (⟨aT8 W.w p.1,key,u⟩::es')):D es:=by rcases k with ⟨key,u,es',rfl,h1,h2,h3⟩;exact c key u es' h1 h2 h3
noncomputable def FEs (W:Wd) (h:Heap) (io:Io) (fs:List (Nat×V)) (mA:Str->Option Value):Prop:=
 (∀ x u,mA x=some u->∃ i v,W.S.attrs[i]?=some x /\ aJ6 i fs=some v /\ VR W h io v u) /\ (∀ i v,aJ6 i fs=some v->∃ x u,W.S.attrs[i]?=some x /\ mA x=some u /\ VR W h io v u)
structure ClsOk (W:Wd) (c:Nat) (D:ClsD) (N:Addr) (mN:Str->Option Value):Prop where
 dat:W.S.cls[c]?=some D
 exc:D.exc=false
 obj:∃ nm q bs sn sub col dd k0 k1 k2 k3 k5,W.base.get? (W.ca c)=some (excClassObj nm q (W.ca c) N bs [.type "object"] true sn sub false col dd k0 k1 k2 k3 k5 "object.__new__")
 ns:W.base.Ns N mN
 ga:mN "__getattribute__"=none
 gh:mN "__getattr__"=none
 sa:mN "__setattr__"=none
 has:∀ (i:Nat) (x:Str),W.S.attrs[i]?=some x->mN x=(D.meths.lookup i).map fun k=>.ref (W.fa k)
 low:∀ (i:Nat) (x:Str),W.S.attrs[i]?=some x->typeLookup (.type "object") x=pure none
 uniq:∀ (i j:Nat) (x:Str),W.S.attrs[i]?=some x->W.S.attrs[j]?=some x->i=j
 few:W.S.attrs.length <= 1000
 mlt:∀ (i k:Nat),D.meths.lookup i=some k->k < W.S.fns.length
noncomputable abbrev cS4 (C dx:Addr):Obj:={ cls:=.ref C,dict:=some dx,data:=.plain }
noncomputable abbrev dF1 (es:List DictEntry) (n:Nat):Obj:={ cls:=.type "dict",data:=.dict es.toArray n }
inductive ORl (W:Wd) (h:Heap) (io:Io) (a d:Addr) (xs:List V):Prop
 | mk (e:a=d) (vs:Array Value) (n:Nat) (h1:h.get? a=some (fH vs n)) (h2:VRs W h io xs vs.toList) (h3:xs.length <= lid)
inductive ORd (W:Wd) (h:Heap) (io:Io) (a d:Addr) (kvs:List (Ky×V)):Prop
 | mk (e:a=d) (o:Obj) (es:Array DictEntry) (n:Nat) (h1:h.get? a=some o) (h2:o.ExactDict) (h3:o.data=.dict es n) (h4:ERs W h io kvs es.toList) (h5:(kvs.map (·.1)).Nodup /\ kvs.length <= lid)
inductive ORi (W:Wd) (h:Heap) (io:Io) (a d:Addr) (c:Nat) (fs:List (Nat×V)):Prop
 | mk (e:a≠d) (mA:Str->Option Value) (h1:h.get? a=some (cS4 (W.ca c) d)) (h2:h.Ns1 d mA) (h3:FEs W h io fs mA) (h4:∃ D N mN,ClsOk W c D N mN)
noncomputable def OR (W:Wd) (h:Heap) (io:Io) (a d:Addr):MObj->Prop
 | .list xs=>ORl W h io a d xs
 | .dict kvs _=>ORd W h io a d kvs
 | .inst c fs=>ORi W h io a d c fs
structure HR (W:Wd) (h:Heap) (io:Io) (m:MH):Prop where
 keep:W.base.StaysIn h
 len:io.length=m.length
 obj:∀ (n:Nat) (p:Addr×Addr) (o:MObj),io[n]?=some p->m[n]?=some o->OR W h io p.1 p.2 o
 fresh:∀ b,dG io b->W.base.get? b=none
 apart:∀ (i j:Nat) (p q:Addr×Addr),i≠j->io[i]?=some p->io[j]?=some q->p.1≠q.1 /\ p.1≠q.2 /\ p.2≠q.2
noncomputable def c9 (o:Obj):Prop:=(o.cls=.type "tuple" /\ ∃ vs n,o.data=.seq vs n) \/ (∃ C vs,o.cls=.ref C /\ o.data=.fields vs)
structure Step (own fr:List Addr) (h:Heap) (io:Io) (m:MH) (h':Heap) (io':Io) (m':MH):Prop where
 alive:∀ b o,h.get? b=some o->∃ o',h'.get? b=some o'
 solid:∀ b o,h.get? b=some o->c9 o->h'.get? b=some o
 keep:∀ b o,h.get? b=some o->¬ dG io b->b∉own->b∉fr->h'.get? b=some o
 slots:∀ b o,h.get? b=some o->¬ dG io b->b∉own->∃ sl,h'.get? b=some { o with slots:=sl }
 grow:∃ new,io'=io++new /\ ∀ p∈new,h.get? p.1=none /\ h.get? p.2=none
 dicts:∀ (n:Nat) (p:Addr×Addr) (kvs:List (Ky×V)) (e:Nat),io[n]?=some p->m[n]?=some (.dict kvs e)->∃ (kvs':List (Ky×V)) (e':Nat),m'[n]?=some (.dict kvs' e') /\ e <= e' /\ (e'=e->h'.get? p.1=h.get? p.1 /\ kvs'=kvs)
section
variable {W:Wd} {h h' h'':Heap} {io io' io'':Io} {m m' m'':MH} {own fr:List Addr}
theorem Step.refl:Step own fr h io m h io m where
 alive:=fun y_ o e=>⟨o,e⟩
 solid:=fun y_ y_ e y_=>e
 keep:=fun y_ y_ e y_ y_ y_=>e
 slots:=fun y_ o e y_ y_=>⟨o.slots,e⟩
 grow:=⟨[],by simp,fun y_ hp=>nomatch hp⟩
 dicts:=fun y_ y_ kvs e y_ hm=>⟨kvs,e,hm,Nat.le_refl _,fun y_=>⟨rfl,rfl⟩⟩
theorem Step.nofoot (x:Step own fr h io m h' io' m') {b:Addr} {o:Obj} (hb:h.get? b=some o) (hf:¬ dG io b):¬ dG io' b:=by
 obtain ⟨new,rfl,hn⟩:=x.grow
 intro q
 rcases d8 q with q | ⟨p,hp,e⟩
 ·exact hf q
 ·rcases e with e | e
  ·rw [e,(hn p hp).1] at hb;cases hb
  ·rw [e,(hn p hp).2] at hb;cases hb
theorem Step.trans (x:Step own fr h io m h' io' m') (y:Step own fr h' io' m' h'' io'' m''):Step own fr h io m h'' io'' m'' where
 alive:=fun b o e=>let ⟨o',e'⟩:=x.alive b o e;y.alive b o' e'
 solid:=fun b o e s=>y.solid b o (x.solid b o e s) s
 keep:=fun b o e f1 f2 f3=>y.keep b o (x.keep b o e f1 f2 f3) (x.nofoot e f1) f2 f3
 slots:=fun b o e f1 f2=>by
  rcases x.slots b o e f1 f2 with ⟨sl,e'⟩
  rcases y.slots b _ e' (x.nofoot e f1) f2 with ⟨sl',e''⟩
  exact ⟨sl',e''⟩
 grow:=by
  refine hide fun G_ g_=>?_
  rcases x.grow with ⟨n1,rfl,h1⟩
  rcases y.grow with ⟨n2,rfl,h2⟩
  refine g_ ?_
  clear g_ G_
  refine ⟨n1++n2,by simp,fun p hp=>?_⟩
  rcases List.mem_append.mp hp with hp | hp
  ·exact h1 p hp
  ·have back:∀ b,h'.get? b=none->h.get? b=none:=fun b e=>by
    cases q:h.get? b with
    | none=>rfl
    | some o=>rcases x.alive b o q with ⟨o',e'⟩;rw [e] at e';cases e'
   exact ⟨back _ (h2 p hp).1,back _ (h2 p hp).2⟩
 dicts:=fun n p kvs e hi hm=>by
  refine hide fun G_ g_=>?_
  rcases x.dicts n p kvs e hi hm with ⟨k1,e1,hm1,l1,s1⟩
  have hi':io'[n]?=some p:=by
   obtain ⟨new,rfl,y_⟩:=x.grow
   rw [List.getElem?_append_left (by exact (List.getElem?_eq_some_iff.mp hi).1)];exact hi
  rcases y.dicts n p k1 e1 hi' hm1 with ⟨k2,e2,hm2,l2,s2⟩
  refine g_ ?_
  clear g_ G_
  refine ⟨k2,e2,hm2,Nat.le_trans l1 l2,fun q=>?_⟩
  have q1:e1=e:=by lia
  have q2:e2=e1:=by lia
  exact ⟨(s2 q2).1.trans (s1 q1).1,(s2 q2).2.trans (s1 q1).2⟩
theorem Step.io_get (x:Step own fr h io m h' io' m') {n:Nat} {p:Addr×Addr} (hi:io[n]?=some p):io'[n]?=some p:=by
 obtain ⟨new,rfl,y_⟩:=x.grow
 rw [List.getElem?_append_left (List.getElem?_eq_some_iff.mp hi).1];exact hi
theorem VR.both (x:∀ b o,h.get? b=some o->c9 o->h'.get? b=some o) (y:∀ (n:Nat) (p:Addr×Addr),io[n]?=some p->io'[n]?=some p):(∀ (v:V) (u:Value),VR W h io v u->VR W h' io' v u) /\ (∀ (v:List V) (u:List Value),VRs W h io v u->VRs W h' io' v u):=by
 have key:∀ v:V,∀ u:Value,VR W h io v u->VR W h' io' v u:=fun v=>V.rec (motive_1:=fun v=>∀ u,VR W h io v u->VR W h' io' v u) (motive_2:=fun v=>∀ u,VRs W h io v u->VRs W h' io' v u) (fun y_ k=>k) (fun y_ y_ k=>k) (fun y_ y_ k=>k) (fun y_ y_ k=>k)
  (fun y_ ih y_ k=>k.imp fun y_ k=>k.imp fun y_ k=>k.imp fun y_ k=>⟨k.1,x _ _ k.2.1 (.inl ⟨rfl,_,_,rfl⟩),ih _ k.2.2⟩) (fun y_ y_ k=>k.imp fun y_ k=>k.imp fun y_ k=>⟨k.1,y _ _ k.2⟩) (fun y_ y_ k=>k) (fun y_ k=>k) (fun y_ y_ i1 i2 y_ k=>k.imp fun y_ k=>k.imp fun y_ k=>⟨k.1,i1 _ k.2.1,i2 _ k.2.2⟩) v
 exact ⟨key,fun v=>List.rec (motive:=fun v=>∀ u,VRs W h io v u->VRs W h' io' v u) (fun y_ k=>k) (fun a y_ ih y_ k=>k.imp fun y_ k=>k.imp fun y_ k=>⟨k.1,key a _ k.2.1,ih _ k.2.2⟩) v⟩
theorem VR.mono (x:∀ b o,h.get? b=some o->c9 o->h'.get? b=some o) (y:∀ (n:Nat) (p:Addr×Addr),io[n]?=some p->io'[n]?=some p) {v:V} {u:Value} (k:VR W h io v u):VR W h' io' v u:=(VR.both x y).1 v u k
theorem VRs.mono (x:∀ b o,h.get? b=some o->c9 o->h'.get? b=some o) (y:∀ (n:Nat) (p:Addr×Addr),io[n]?=some p->io'[n]?=some p) {v:List V} {u:List Value} (k:VRs W h io v u):VRs W h' io' v u:=(VR.both x y).2 v u k
theorem ERs.mono (x:∀ b o,h.get? b=some o->c9 o->h'.get? b=some o) (y:∀ (n:Nat) (p:Addr×Addr),io[n]?=some p->io'[n]?=some p) {kvs:List (Ky×V)} {es:List DictEntry} (e:ERs W h io kvs es):ERs W h' io' kvs es:=
 List.rec (motive:=fun kvs=>∀ es,ERs W h io kvs es->ERs W h' io' kvs es) (fun y_ k=>k) (fun y_ y_ ih y_ k=>k.imp fun y_ k=>k.imp fun y_ k=>k.imp fun y_ k=>⟨k.1,k.2.1.mono x y,k.2.2.1.mono x y,ih _ k.2.2.2⟩) kvs es e
theorem FEs.mono (x:∀ b o,h.get? b=some o->c9 o->h'.get? b=some o) (y:∀ (n:Nat) (p:Addr×Addr),io[n]?=some p->io'[n]?=some p) {fs:List (Nat×V)} {mA:Str->Option Value} (e:FEs W h io fs mA):FEs W h' io' fs mA:=
 ⟨fun z u q=>(e.1 z u q).imp fun y_ q=>q.imp fun y_ q=>⟨q.1,q.2.1,q.2.2.mono x y⟩,fun i v q=>(e.2 i v q).imp fun y_ q=>q.imp fun y_ q=>⟨q.1,q.2.1,q.2.2.mono x y⟩⟩
theorem VR.step (x:Step own fr h io m h' io' m') {v:V} {u:Value} (k:VR W h io v u):VR W h' io' v u:=k.mono x.solid fun y_ y_=>x.io_get
theorem VRs.step (x:Step own fr h io m h' io' m') {v:List V} {u:List Value} (k:VRs W h io v u):VRs W h' io' v u:=k.mono x.solid fun y_ y_=>x.io_get
theorem ERs.step (x:Step own fr h io m h' io' m') {kvs:List (Ky×V)} {es:List DictEntry} (e:ERs W h io kvs es):ERs W h' io' kvs es:=e.mono x.solid fun y_ y_=>x.io_get
theorem FEs.step (x:Step own fr h io m h' io' m') {fs:List (Nat×V)} {mA:Str->Option Value} (e:FEs W h io fs mA):FEs W h' io' fs mA:=e.mono x.solid fun y_ y_=>x.io_get
theorem VRs.length {xs:List V} {vs:List Value} (x:VRs W h io xs vs):vs.length=xs.length:=by
 induction xs generalizing vs with
 | nil=>rw [x];rfl
 | cons y ys ih=>rcases x with ⟨y_,y_,rfl,y_,r⟩;exact congrArg Nat.succ (ih r)
theorem VRs.get {xs:List V} {vs:List Value} (x:VRs W h io xs vs) {k:Nat} {v:V} (hk:xs[k]?=some v):∃ u,vs[k]?=some u /\ VR W h io v u:=by
 induction xs generalizing vs k with
 | nil=>cases hk
 | cons y ys ih=>
  rcases x with ⟨y_,y_,rfl,h1,r⟩
  cases k with
  | zero=>cases hk;exact ⟨_,rfl,h1⟩
  | succ k=>exact ih r hk
theorem VRs.append {xs ys:List V} {vs us:List Value} (x:VRs W h io xs vs) (y:VRs W h io ys us):VRs W h io (xs++ys) (vs++us):=by
 induction xs generalizing vs with
 | nil=>rw [x];exact y
 | cons z zs ih=>rcases x with ⟨y_,y_,rfl,h1,r⟩;exact .cons h1 (ih r)
theorem VRs.snoc {xs:List V} {vs:List Value} {v:V} {u:Value} (x:VRs W h io xs vs) (y:VR W h io v u):VRs W h io (xs++[v]) (vs++[u]):=x.append (.cons y .nil)
theorem VRs.take {xs:List V} {vs:List Value} (x:VRs W h io xs vs) (k:Nat):VRs W h io (xs.take k) (vs.take k):=by
 induction xs generalizing vs k with
 | nil=>rw [x,List.take_nil,List.take_nil];exact .nil
 | cons z zs ih=>rcases x with ⟨y_,y_,rfl,h1,r⟩;cases k with
  | zero=>exact .nil
  | succ k=>exact .cons h1 (ih r k)
theorem VRs.drop {xs:List V} {vs:List Value} (x:VRs W h io xs vs) (k:Nat):VRs W h io (xs.drop k) (vs.drop k):=by
 induction xs generalizing vs k with
 | nil=>rw [x,List.drop_nil,List.drop_nil];exact .nil
 | cons z zs ih=>rcases x with ⟨y_,y_,rfl,h1,r⟩;cases k with
  | zero=>exact .cons h1 r
  | succ k=>exact ih r k
theorem VRs.eraseIdx {xs:List V} {vs:List Value} (x:VRs W h io xs vs) (k:Nat):VRs W h io (xs.eraseIdx k) (vs.eraseIdx k):=by
 induction xs generalizing vs k with
 | nil=>rw [x];exact .nil
 | cons z zs ih=>rcases x with ⟨y_,y_,rfl,h1,r⟩;cases k with
  | zero=>exact r
  | succ k=>exact .cons h1 (ih r k)
theorem VRs.reverse {xs:List V} {vs:List Value} (x:VRs W h io xs vs):VRs W h io xs.reverse vs.reverse:=by
 induction xs generalizing vs with
 | nil=>rw [x];exact .nil
 | cons z zs ih=>rcases x with ⟨y_,y_,rfl,h1,r⟩;rw [List.reverse_cons,List.reverse_cons];exact (ih r).snoc h1
theorem IntsR.length {ns:List Int} {vs:List Value} (x:IntsR ns vs):vs.length=ns.length:=by
 induction ns generalizing vs with
 | nil=>rw [x];rfl
 | cons i ns ih=>rcases x with ⟨y_,y_,rfl,r⟩;exact congrArg Nat.succ (ih r)
theorem IntsR.vrs {ns:List Int} {vs:List Value} (x:IntsR ns vs):VRs W h io (ns.map .int) vs:=by
 induction ns generalizing vs with
 | nil=>exact x
 | cons i ns ih=>rcases x with ⟨t,y_,rfl,r⟩;exact .cons (.int i t) (ih r)
theorem OR.step_same (x:Step own fr h io m h' io' m') {a d:Addr} {o:MObj} (k:OR W h io a d o) (ha:∀ o,h.get? a=some o->h'.get? a=some o) (hd:∀ o,h.get? d=some o->h'.get? d=some o):OR W h' io' a d o:=by
 cases o with
 | list xs=>
  obtain ⟨e,vs,n,h1,h4,h5⟩:=k
  exact ⟨e,vs,n,ha _ h1,h4.step x,h5⟩
 | dict kvs ep=>
  obtain ⟨e,o,es,n,h1,h2,h3,h4,h5⟩:=k
  exact ⟨e,o,es,n,ha _ h1,h2,h3,h4.step x,h5⟩
 | inst c fs=>
  obtain ⟨e,mA,h1,h2,h3,h4⟩:=k
  exact ⟨e,mA,ha _ h1,h2.at hd,h3.step x,h4⟩
theorem HR.foot {b:Addr} (x:HR W h io m) (f:dG io b):∃ o,h.get? b=some o /\ ¬ c9 o /\ (∀ v,o.data≠.cell v) /\ (∀ vs,o.data≠.fields vs) /\ (∀ f,o.data≠.func f):=by
 obtain ⟨p,hp,e⟩:=f
 rcases List.getElem?_of_mem hp with ⟨n,hn⟩
 have hlt:n < m.length:=by rw [<- x.len];exact (List.getElem?_eq_some_iff.mp hn).1
 have hm:m[n]?=some m[n]:=List.getElem?_eq_getElem hlt
 have k:=x.obj n p _ hn hm
 have sd:∀ o:Obj,o.ExactDict->∀ es ep,o.data=.dict es ep->¬ c9 o:=by
  rintro o hx es ep hd (⟨hc,vs,n,hs⟩ | ⟨C,vs,hc,hs⟩)
  ·rw [hd] at hs;cases hs
  ·rw [hd] at hs;cases hs
 cases hq:m[n] with
 | list xs=>
  rw [hq] at k
  obtain ⟨e',vs,n',h1,y_⟩:=k
  refine ⟨fH vs n',?_,?_,?_,?_,?_⟩
  ·rcases e with e | e
   ·rw [e];exact h1
   ·rw [e,<- e'];exact h1
  ·rintro (⟨hc,y_⟩ | ⟨C,ws,hc,hs⟩)
   ·simp at hc
   ·cases hs
  all_goals (intro v q;cases q)
 | dict kvs ep=>
  rw [hq] at k
  obtain ⟨e',o,es,n',h1,h2,h3,y_⟩:=k
  refine ⟨o,?_,sd o h2 _ _ h3,?_,?_,?_⟩
  ·rcases e with e | e
   ·rw [e];exact h1
   ·rw [e,<- e'];exact h1
  ·intro v q;rw [h3] at q;cases q
  ·intro v q;rw [h3] at q;cases q
  ·intro v q;rw [h3] at q;cases q
 | inst c fs=>
  rw [hq] at k
  obtain ⟨e',mA,h1,⟨od,es,n',h2,h3,y_⟩,y_⟩:=k
  rcases e with e | e
  ·refine ⟨_,by rw [e];exact h1,?_,?_,?_,?_⟩
   ·rintro (⟨hc,y_⟩ | ⟨C,ws,hc,hs⟩)
    ·cases hc
    ·cases hs
   all_goals (intro v q;cases q)
  ·refine ⟨_,by rw [e];exact h2,?_,?_,?_,?_⟩
   ·rintro (⟨y_,vs,n,hs⟩ | ⟨C,vs,hc,hs⟩)
    ·rw [h3] at hs;cases hs
    ·rw [h3] at hs;cases hs
   all_goals (intro v q;rw [h3] at q;cases q)
theorem HR.nofoot_of_solid {b:Addr} {o:Obj} (x:HR W h io m) (hb:h.get? b=some o) (hs:c9 o):¬ dG io b:=fun f=>by
 obtain ⟨o',h1,h2,y_⟩:=x.foot f
 rw [hb] at h1;cases h1;exact h2 hs
theorem HR.nofoot_of_cell {b:Addr} {o:Obj} {v:Option Value} (x:HR W h io m) (hb:h.get? b=some o) (hs:o.data=.cell v):¬ dG io b:=fun f=>by
 obtain ⟨o',h1,y_,h2,y_⟩:=x.foot f
 rw [hb] at h1;cases h1;exact h2 _ hs
theorem HR.there {n:Nat} {p:Addr×Addr} (x:HR W h io m) (hn:io[n]?=some p):∃ o,h.get? p.1=some o:=by
 obtain ⟨o,ho,y_⟩:=x.foot ⟨p,List.mem_of_getElem? hn,.inl rfl⟩
 exact ⟨o,ho⟩
theorem Step.of_keeps (x:HR W h io m) (hk:∀ b o,h.get? b=some o->h'.get? b=some o):Step own fr h io m h' io m where
 alive:=fun b o e=>⟨o,hk b o e⟩
 solid:=fun b o e y_=>hk b o e
 keep:=fun b o e y_ y_ y_=>hk b o e
 slots:=fun b o e y_ y_=>⟨o.slots,hk b o e⟩
 grow:=⟨[],by simp,fun y_ hp=>nomatch hp⟩
 dicts:=fun n p kvs e hi hm=>⟨kvs,e,hm,Nat.le_refl _,fun y_=>⟨by
  rcases x.there hi with ⟨o,ho⟩
  rw [ho];exact hk _ _ ho,rfl⟩⟩
theorem HR.of_keeps (x:HR W h io m) (hk:∀ b o,h.get? b=some o->h'.get? b=some o):HR W h' io m where
 keep:=fun b o e=>hk b o (x.keep b o e)
 len:=x.len
 obj:=fun n p o hi hm=>(x.obj n p o hi hm).step_same (Step.of_keeps (own:=[]) (fr:=[]) x hk) (hk _) (hk _)
 fresh:=x.fresh
 apart:=x.apart
theorem HR.of_foot (x:HR W h io m) (st:Step own fr h io m h' io m) (hf:∀ b o,dG io b->h.get? b=some o->h'.get? b=some o) (hb:W.base.StaysIn h'):HR W h' io m where
 keep:=hb
 len:=x.len
 obj:=fun n p o hi hm=>(x.obj n p o hi hm).step_same st (fun o e=>hf _ o ⟨p,List.mem_of_getElem? hi,.inl rfl⟩ e) (fun o e=>hf _ o ⟨p,List.mem_of_getElem? hi,.inr rfl⟩ e)
 fresh:=x.fresh
 apart:=x.apart
theorem fU {L:Addr} (x:HR W h io m) (hL:L∈own) (hk:∀ b o,b≠L->h.get? b=some o->h'.get? b=some o) (hs:∀ o,h.get? L=some o->¬ c9 o /\ ∃ o',h'.get? L=some o') (hf:¬ dG io L) :
  Step own fr h io m h' io m where
 alive:=fun b o e=>by
  by_cases q:b=L
  ·subst q;exact (hs o e).2
  ·exact ⟨o,hk b o q e⟩
 solid:=fun b o e so=>by
  by_cases q:b=L
  ·subst q;exact absurd so (hs o e).1
  ·exact hk b o q e
 keep:=fun b o e y_ ho y_=>hk b o (fun q=>ho (q▸hL)) e
 slots:=fun b o e y_ ho=>⟨o.slots,hk b o (fun q=>ho (q▸hL)) e⟩
 grow:=⟨[],by simp,fun y_ hp=>nomatch hp⟩
 dicts:=fun n p kvs e hi hm=>⟨kvs,e,hm,Nat.le_refl _,fun y_=>⟨by
  rcases x.there hi with ⟨o,ho⟩
  rw [ho];exact hk _ _ (fun q=>hf ⟨p,List.mem_of_getElem? hi,.inl q.symm⟩) ho,rfl⟩⟩
theorem HR.ofOwn {L:Addr} (x:HR W h io m) (hL:L∈own) (hk:∀ b o,b≠L->h.get? b=some o->h'.get? b=some o) (hs:∀ o,h.get? L=some o->¬ c9 o /\ ∃ o',h'.get? L=some o') (hf:¬ dG io L) (hb:W.base.get? L=none) :
  HR W h' io m:=x.of_foot (fr:=[]) (fU x hL hk hs hf) (fun b o f e=>hk b o (fun q=>hf (q▸f)) e) fun b o e=>hk b o (fun q=>by rw [q,hb] at e;cases e) (x.keep b o e)
theorem eZ (x:HR W h io m) {a d:Addr} {o:MObj} (hk:∀ b o,h.get? b=some o->h'.get? b=some o) (ha:h.get? a=none) (hd:h.get? d=none) :
  Step own fr h io m h' (io++[(a,d)]) (m++[o]) where
 alive:=fun b o e=>⟨o,hk b o e⟩
 solid:=fun b o e y_=>hk b o e
 keep:=fun b o e y_ y_ y_=>hk b o e
 slots:=fun b o e y_ y_=>⟨o.slots,hk b o e⟩
 grow:=⟨[(a,d)],rfl,fun p hp=>by rw [List.mem_singleton.mp hp];exact ⟨ha,hd⟩⟩
 dicts:=fun n p kvs e hi hm=>⟨kvs,e,by rw [List.getElem?_append_left (List.getElem?_eq_some_iff.mp hm).1];exact hm,Nat.le_refl _,fun y_=>⟨by
  rcases x.there hi with ⟨o,ho⟩
  rw [ho];exact hk _ _ ho,rfl⟩⟩
theorem HR.alloc (x:HR W h io m) {a d:Addr} {o:MObj} (hk:∀ b o,h.get? b=some o->h'.get? b=some o) (ha:h.get? a=none) (hd:h.get? d=none)
  (k:OR W h' (io++[(a,d)]) a d o):HR W h' (io++[(a,d)]) (m++[o]) where
 keep:=fun b o e=>hk b o (x.keep b o e)
 len:=by simp [x.len]
 obj:=fun n p o' hi hm=>by
  by_cases q:n < io.length
  ·rw [List.getElem?_append_left q] at hi
   rw [List.getElem?_append_left (x.len▸q)] at hm
   exact (x.obj n p o' hi hm).step_same (eZ (own:=[]) (fr:=[]) (o:=o) x hk ha hd) (hk _) (hk _)
  ·have q1:n=io.length:=by
    have:=(List.getElem?_eq_some_iff.mp hi).1
    simp at this;lia
   subst q1
   rw [List.getElem?_append_right (Nat.le_refl _)] at hi
   rw [x.len,List.getElem?_append_right (Nat.le_refl _)] at hm
   simp at hi hm
   subst hi hm
   exact k
 fresh:=fun b f=>by
  rcases d8 f with f | ⟨p,hp,e⟩
  ·exact x.fresh b f
  ·rw [List.mem_singleton.mp hp] at e
   cases q:W.base.get? b with
   | none=>rfl
   | some o=>
    have:=x.keep b o q
    rcases e with e | e <;> subst e
    ·rw [ha] at this;cases this
    ·rw [hd] at this;cases this
 apart:=fun i j p q hij hi hj=>by
  have lo:∀ (n:Nat) (p:Addr×Addr),(io++[(a,d)])[n]?=some p->(n < io.length /\ io[n]?=some p) \/ (n=io.length /\ p=(a,d)):=fun n p hn=>by
   by_cases q:n < io.length
   ·rw [List.getElem?_append_left q] at hn;exact .inl ⟨q,hn⟩
   ·have q1:n=io.length:=by
     have:=(List.getElem?_eq_some_iff.mp hn).1
     simp at this;lia
    subst q1
    rw [List.getElem?_append_right (Nat.le_refl _)] at hn
    simp at hn
    exact .inr ⟨rfl,hn.symm⟩
  have off:∀ (n:Nat) (p:Addr×Addr),io[n]?=some p->p.1≠a /\ p.1≠d /\ p.2≠a /\ p.2≠d:=fun n p hn=>by
   refine hide fun G_ g_=>?_
   rcases x.foot ⟨p,List.mem_of_getElem? hn,.inl rfl⟩ with ⟨o1,h1,y_⟩
   rcases x.foot ⟨p,List.mem_of_getElem? hn,.inr rfl⟩ with ⟨o2,h2,y_⟩
   refine g_ ?_
   clear g_ G_
   refine ⟨fun e=>?_,fun e=>?_,fun e=>?_,fun e=>?_⟩
   ·rw [e,ha] at h1;cases h1
   ·rw [e,hd] at h1;cases h1
   ·rw [e,ha] at h2;cases h2
   ·rw [e,hd] at h2;cases h2
  rcases lo i p hi with ⟨_,hi⟩ | ⟨ei,rfl⟩ <;> rcases lo j q hj with ⟨_,hj⟩ | ⟨ej,rfl⟩
  ·exact x.apart i j p q hij hi hj
  ·obtain ⟨h1,h2,h3,h4⟩:=off i p hi
   exact ⟨h1,h2,h4⟩
  ·obtain ⟨h1,h2,h3,h4⟩:=off j q hj
   exact ⟨Ne.symm h1,Ne.symm h3,Ne.symm h4⟩
  ·exact absurd (ei.trans ej.symm) hij
theorem aE0 (x:HR W h io m) {n:Nat} {p:Addr×Addr} {o o1:MObj} (hi:io[n]?=some p) (hm:m[n]?=some o) (hk:∀ b o,b≠p.1->b≠p.2->h.get? b=some o->h'.get? b=some o)
  (h1:∃ o',h'.get? p.1=some o') (h2:∃ o',h'.get? p.2=some o') (hd:∀ kvs e,o=.dict kvs e->∃ kvs' e',o1=.dict kvs' e' /\ e < e'):Step own fr h io m h' io (m.set n o1) where
 alive:=fun b o e=>by
  by_cases q:b=p.1
  ·subst q;exact h1
  ·by_cases q2:b=p.2
   ·subst q2;exact h2
   ·exact ⟨o,hk b o q q2 e⟩
 solid:=fun b o e s=>hk b o (fun q=>x.nofoot_of_solid e s ⟨p,List.mem_of_getElem? hi,.inl q⟩) (fun q=>x.nofoot_of_solid e s ⟨p,List.mem_of_getElem? hi,.inr q⟩) e
 keep:=fun b o e f y_ y_=>hk b o (fun q=>f ⟨p,List.mem_of_getElem? hi,.inl q⟩) (fun q=>f ⟨p,List.mem_of_getElem? hi,.inr q⟩) e
 slots:=fun b o e f y_=>⟨o.slots,hk b o (fun q=>f ⟨p,List.mem_of_getElem? hi,.inl q⟩) (fun q=>f ⟨p,List.mem_of_getElem? hi,.inr q⟩) e⟩
 grow:=⟨[],by simp,fun y_ hp=>nomatch hp⟩
 dicts:=fun k q kvs e hq hmk=>by
  by_cases z:k=n
  ·subst z
   rw [hm] at hmk;cases hmk
   obtain ⟨kvs',e',rfl,hlt⟩:=hd kvs e rfl
   refine ⟨kvs',e',by simp [(List.getElem?_eq_some_iff.mp hm).1],by lia,fun w=>by lia⟩
  ·refine ⟨kvs,e,by rw [List.getElem?_set_ne (Ne.symm z)];exact hmk,Nat.le_refl _,fun y_=>⟨?_,rfl⟩⟩
   rcases x.there hq with ⟨o,ho⟩
   obtain ⟨a1,a2,a3⟩:=x.apart k n q p z hq hi
   rw [ho];exact hk _ _ a1 a2 ho
theorem HR.set (x:HR W h io m) {n:Nat} {p:Addr×Addr} {o o1:MObj} (hi:io[n]?=some p) (hm:m[n]?=some o) (hk:∀ b o,b≠p.1->b≠p.2->h.get? b=some o->h'.get? b=some o)
  (hd:∀ kvs e,o=.dict kvs e->∃ kvs' e',o1=.dict kvs' e' /\ e < e') (h1:∃ o',h'.get? p.1=some o') (h2:∃ o',h'.get? p.2=some o') (k:OR W h' io p.1 p.2 o1):HR W h' io (m.set n o1) where
 keep:=fun b o e=>hk b o (fun q=>by rw [x.fresh b ⟨p,List.mem_of_getElem? hi,.inl q⟩] at e;cases e) (fun q=>by rw [x.fresh b ⟨p,List.mem_of_getElem? hi,.inr q⟩] at e;cases e) (x.keep b o e)
 len:=by simp [x.len]
 obj:=fun j q o' hj hmj=>by
  by_cases z:j=n
  ·subst z
   rw [hi] at hj;cases hj
   rw [List.getElem?_set_self (List.getElem?_eq_some_iff.mp hm).1] at hmj;cases hmj
   exact k
  ·rw [List.getElem?_set_ne (Ne.symm z)] at hmj
   refine hide fun G_ g_=>?_
   rcases x.apart j n q p z hj hi with ⟨a1,a2,a3⟩
   rcases x.apart n j p q (Ne.symm z) hi hj with ⟨b1,b2,b3⟩
   refine g_ ?_
   clear g_ G_
   exact (x.obj j q o' hj hmj).step_same (aE0 (own:=[]) (fr:=[]) x hi hm hk h1 h2 hd) (fun o e=>hk _ o a1 a2 e) (fun o e=>hk _ o (Ne.symm b2) a3 e)
 fresh:=x.fresh
 apart:=x.apart
end
end Mini
namespace Mini
open PySem PySem.Calls
section
variable {prog:Program} {w:World} {A:Around} {E:Value->Shared->Prop} {s:Shared}
end
end Mini
namespace Mini
open PySem
noncomputable def frs (fs:List Env):List Addr:=fs.filterMap (·.frame)
structure FR (W:Wd) (h:Heap) (io:Io) (env:Env) (vis:List (Option Str)) (r:Lo):Prop where
 kind:env.scope.kind=.function
 glob:env.globals=mainGlobals
 blt:env.builtins=builtinsNs
 nofoot:¬ dG io env.locals
 fresh:W.base.get? env.locals=none
 loc:∃ mp,h.Ns env.locals mp /\ ∀ (i:Nat) (x:Str) (v:V),vis[i]?=some (some x)->r[i]?=some (some v)->env.kindOf x=some .local->∃ u,mp x=some u /\ VR W h io v u
 cel:∀ (i:Nat) (x:Str) (v:V),vis[i]?=some (some x)->r[i]?=some (some v)->(env.kindOf x=some .cell \/ env.kindOf x=some .free)->∃ c u,env.cells.lookup x=some c /\ h.IsCell c (some u) /\ VR W h io v u
 cells:∀ (x:Str) (c:Addr),env.cells.lookup x=some c->(∃ o,h.IsCell c o) /\ W.base.get? c=none /\ c≠env.locals
 celex:∀ (i:Nat) (x:Str),vis[i]?=some (some x)->(env.kindOf x=some .cell \/ env.kindOf x=some .free)->∃ c,env.cells.lookup x=some c
 apart:∀ (x y:Str) (c:Addr),env.cells.lookup x=some c->env.cells.lookup y=some c->x=y
 inj:∀ (i j:Nat) (x:Str),vis[i]?=some (some x)->vis[j]?=some (some x)->i=j
 len:r.length=vis.length
noncomputable def FF (W:Wd) (h:Heap) (io:Io) (fs:List Env):Prop:=
 ∀ env∈fs,env.scope.kind≠.module /\ ∃ L o es n,env.frame=some L /\ W.base.get? L=none /\ ¬ dG io L /\ h.get? L=some o /\ o.data=.dict es n
structure AR (A:Around) (fs:List Env) (n:Nat):Prop where
 frames:A.frames=some fs
 depth:A.depth+4 * n <= 900
 units:A.units+40 * n+400 <= 9000
noncomputable def Same (s s':Shared):Prop:=s'.gens=s.gens /\ s'.os=s.os
theorem Same.refl (s:Shared):Same s s:=⟨rfl,rfl⟩
theorem Same.trans {a b c:Shared} (x:Same a b) (y:Same b c):Same a c:=⟨y.1.trans x.1,y.2.trans x.2⟩
inductive NP (W:Wd) (own fr:List Addr) (s:Shared) (io:Io) (m:MH) {α β:Type} (P:Heap->Io->α->β->Prop) (R:Res α) (u:β) (s':Shared):Prop
 | mk (v:α) (m':MH) (io':Io) (e:R=.ok v m') (st:Step own fr s.heap io m s'.heap io' m') (hr:HR W s'.heap io' m') (p:P s'.heap io' v u) (sm:Same s s')
noncomputable def NX:Value->Shared->Prop:=fun y_ y_=>False
noncomputable abbrev VP (W:Wd):Heap->Io->V->Value->Prop:=fun h io v u=>VR W h io v u
noncomputable abbrev VsP (W:Wd):Heap->Io->List V->List Value->Prop:=fun h io v u=>VRs W h io v u
noncomputable abbrev BP:Heap->Io->Bool->Bool->Prop:=fun y_ y_ b c=>b=c
section
variable {W:Wd} {h h':Heap} {io io':Io} {m m':MH} {own fr:List Addr} {env:Env} {vis:List (Option Str)} {r:Lo} {fs:List Env} {s s':Shared}
theorem cB3 {h h':Heap} {L:Addr} {mp:Str->Option Value} (x:h.Ns L mp) (k:∀ o,h.get? L=some o->∃ sl,h'.get? L=some { o with slots:=sl }):h'.Ns L mp:=by
 obtain ⟨o,es,ep,ho,hd,r⟩:=x
 rcases k o ho with ⟨sl,e⟩
 exact ⟨_,es,ep,e,hd,r⟩
theorem aM4 {h h':Heap} {c:Addr} {v:Option Value} (x:h.IsCell c v) (k:∀ o,h.get? c=some o->∃ sl,h'.get? c=some { o with slots:=sl }):h'.IsCell c v:=by
 obtain ⟨o,ho,hd⟩:=x
 rcases k o ho with ⟨sl,e⟩
 exact ⟨_,e,hd⟩
theorem FR.step (F:FR W h io env vis r) (H:HR W h io m) (x:Step own fr h io m h' io' m') (hL:env.locals∉own) (hc:∀ y c,env.cells.lookup y=some c->c∉own):FR W h' io' env vis r:=by
 have sc:∀ y c,env.cells.lookup y=some c->∀ o,h.get? c=some o->∃ sl,h'.get? c=some { o with slots:=sl }:=fun y c hy o ho=>by
  obtain ⟨⟨v,oc,hoc,hd⟩,y_⟩:=F.cells y c hy
  refine x.slots c o ho ?_ (hc y c hy)
  exact H.nofoot_of_cell hoc hd
 refine hide fun G_ g_=>?_
 rcases F.loc with ⟨mp,hn,hl⟩
 rcases id hn with ⟨oL,y_,y_,hoL,y_⟩
 refine g_ ?_
 clear g_ G_
 refine ⟨F.kind,F.glob,F.blt,x.nofoot hoL F.nofoot,F.fresh,⟨mp,cB3 hn fun o ho=>x.slots _ o ho F.nofoot hL,fun i y v h1 h2 h3=>?_⟩,fun i y v h1 h2 h3=>?_,fun y c hy=>?_,F.celex,F.apart,F.inj,F.len⟩
 ·obtain ⟨u,e,k⟩:=hl i y v h1 h2 h3
  exact ⟨u,e,k.step x⟩
 ·obtain ⟨c,u,e,k1,k2⟩:=F.cel i y v h1 h2 h3
  exact ⟨c,u,e,aM4 k1 (sc y c e),k2.step x⟩
 ·obtain ⟨⟨o,k1⟩,k2,k3⟩:=F.cells y c hy
  exact ⟨⟨o,aM4 k1 (sc y c hy)⟩,k2,k3⟩
theorem FR.step0 (F:FR W h io env vis r) (H:HR W h io m) (x:Step [] fr h io m h' io' m'):FR W h' io' env vis r:=F.step H x (fun q=>nomatch q) fun y_ y_ y_ q=>nomatch q
theorem FF.step (F:FF W h io fs) (x:Step own fr h io m h' io' m') (ho:∀ L∈frs fs,L∉own):FF W h' io' fs:=by
 intro env he
 obtain ⟨hk,L,o,es,n,h1,h2,h3,h4,h5⟩:=F env he
 rcases x.slots L o h4 h3 (ho L (List.mem_filterMap.mpr ⟨env,he,h1⟩)) with ⟨sl,e⟩
 exact ⟨hk,L,_,es,n,h1,h2,x.nofoot h4 h3,e,h5⟩
theorem FF.step0 (F:FF W h io fs) (x:Step [] fr h io m h' io' m'):FF W h' io' fs:=F.step x fun y_ y_ q=>nomatch q
theorem AR.cline {A:Around} {n:Nat} (x:AR A fs n):A.units+400 < cLine:=by have:=x.units;simp only [cLine];lia
theorem NP.mono {α β:Type} {P:Heap->Io->α->β->Prop} {R:Res α} {u:β} {s₁:Shared} {io₁:Io} {m₁:MH} (x:NP W own fr s₁ io₁ m₁ P R u s') (st:Step own fr s.heap io m s₁.heap io₁ m₁) (sm:Same s s₁):NP W own fr s io m P R u s':=by
 obtain ⟨v,m',io',rfl,h2,h3,h4,h5⟩:=x
 exact ⟨v,m',io',rfl,st.trans h2,h3,h4,sm.trans h5⟩
noncomputable def Si (W:Wd) (own:List Addr) (A:Around) (fs:List Env) {α β:Type} (P:Heap->Io->α->β->Prop) (t:Sem β) (s:Shared) (io:Io) (m:MH) (R:Res α):Prop:=
 R≠.bad->wpAny (model W.prog W.w) A t (NP W own (frs fs) s io m P R) NX s
section
variable {α α' β β' γ:Type} {A:Around} {P:Heap->Io->α->β->Prop} {P':Heap->Io->α'->β'->Prop}
theorem Res.bind_ne {R:Res α} {f:α->Mn α'} (h:R.bind f≠.bad):R≠.bad:=fun q=>h (by rw [q];rfl)
theorem Si.bind {t:Sem β} {k:β->Sem β'} {R:Res α} {f:α->Mn α'} (x:Si W own A fs P t s io m R)
  (y:∀ u s₁ io₁ m₁ v,R=.ok v m₁->Step own (frs fs) s.heap io m s₁.heap io₁ m₁->HR W s₁.heap io₁ m₁->P s₁.heap io₁ v u->Same s s₁->Si W own A fs P' (k u) s₁ io₁ m₁ (f v m₁)) :
  Si W own A fs P' (t >>= k) s io m (R.bind f):=by
 intro hne
 refine wpAny_bind (wpAny_mono (x (Res.bind_ne hne)) (fun u s₁ hp=>?_) fun y_ y_ hp=>hp)
 obtain ⟨v,m₁,io₁,rfl,st,hr,hp,sm⟩:=hp
 exact wpAny_mono (y u s₁ io₁ m₁ v rfl st hr hp sm hne) (fun y_ y_ z=>z.mono st sm) fun y_ y_ z=>z
theorem Si.pure {u:β} {v:α} (H:HR W s.heap io m) (p:P s.heap io v u):Si W own A fs P (Pure.pure u) s io m (.ok v m):=
 fun y_=>wpAny_pure ⟨v,m,io,rfl,.refl,H,p,.refl _⟩
theorem Si.bad {t:Sem β}:Si W own A fs P t s io m .bad:=fun h=>absurd rfl h
theorem Si.standAt {pos:Pos} {k:Unit->Sem β} {R:Res α} (x:Si W own A fs P (k ()) s io m R):Si W own A fs P (PySem.standAt pos >>= k) s io m R:=
 fun h=>wpAny_bind (wpAny_standAt (x h))
theorem Si.holding {vs:List Value} {t:Sem β} {R:Res α} (x:Si W own A fs P t s io m R):Si W own A fs P (holding vs t) s io m R:=fun h=>wpAny_holding (x h)
theorem aM9 {M:Model} {A:Around} {E:Value->Shared->Prop} {s:Shared} {vs:List Value} {t:Sem Value} {Q:Value->Shared->Prop} (h:wpAny M A t Q E s):wpAny M A (operate vs t) Q E s:=
 fun Γ p hΓ=>by rw [Sem.wp_operate];exact h Γ p hΓ
theorem Si.operate {vs:List Value} {t:Sem Value} {P:Heap->Io->α->Value->Prop} {R:Res α} (x:Si W own A fs P t s io m R):Si W own A fs P (operate vs t) s io m R:=fun h=>aM9 (x h)
end
end
end Mini
namespace Mini
open PySem
theorem aT6:lid=4194304:=rfl
section
variable {W:Wd} {own:List Addr} {A:Around} {fs:List Env} {s:Shared} {io:Io} {m:MH} {n:Nat}
theorem aW9 {α β:Type} {g:α->Option β} {x:α} {xs:List α} {ds:List β} (h:fR g (x::xs)=some ds):∃ d r,ds=d::r /\ g x=some d /\ fR g xs=some r:=by
 have h:(match g x,fR g xs with | some d,some ds=>some (d::ds) | _,_=>none)=some ds:=h
 cases h1:g x with
 | none=>rw [h1] at h;cases h
 | some d=>
  cases h2:fR g xs with
  | none=>rw [h1,h2] at h;cases h
  | some r=>rw [h1,h2] at h;cases h;exact ⟨d,r,rfl,rfl,rfl⟩
theorem dC {f:Nat} (one:∀ (v:V) (u:Value) (d:PyData),rd f m v=some d->VR W s.heap io v u->(∃ as,Reads s.heap u d as) /\ d.canLay0=true /\ d.depth <= f):∀ (xs:List V) (us:List Value) (ds:List PyData),fR (rd f m) xs=some ds->VRs W s.heap io xs us->(∃ as,ReadsAll s.heap us ds as) /\ PyData.canLayAll0 ds=true /\ PyData.depthAll ds <= f
 | [],us,ds,h,k=>by
  cases k
  have h:some []=some ds:=h
  cases h
  exact ⟨⟨_,.nil⟩,rfl,by simp [PyData.depthAll]⟩
 | x::xs,us,ds,h,k=>by
  obtain ⟨d,r,rfl,h1,h2⟩:=aW9 h
  refine VRs.dCons k fun y_ y_ k1 k2=>?_
  ·
   refine hide fun G_ g_=>?_
   rcases one x _ d h1 k1 with ⟨⟨as,r1⟩,c1,d1⟩
   rcases dC one xs _ r h2 k2 with ⟨⟨bs,r2⟩,c2,d2⟩
   refine g_ ?_
   clear g_ G_
   exact ⟨⟨_,.cons r1 r2⟩,by simp [PyData.canLayAll0,c1,c2],by simp only [PyData.depthAll];lia⟩
set_option tactic.hygienic true in
theorem bW (H:HR W s.heap io m):∀ (f:Nat) (v:V) (u:Value) (d:PyData),rd f m v=some d->VR W s.heap io v u->(∃ as,Reads s.heap u d as) /\ d.canLay0=true /\ d.depth <= f
 | 0,_,_,_,h,_=>nomatch (show none=some _ from h)
 | f+1,v,u,d,h,k=>by
  induction k using VR.elim with
  | none=>have h:some PyData.none=some d:=h;cases h;exact ⟨⟨_,.none⟩,rfl,by simp [PyData.depth]⟩
  | bool b=>have h:some (PyData.bool b)=some d:=h;cases h;exact ⟨⟨_,.bool b⟩,rfl,by simp [PyData.depth]⟩
  | int i t=>have h:some (PyData.int i)=some d:=h;cases h;exact ⟨⟨_,.int i t⟩,rfl,by simp [PyData.depth]⟩
  | str x t ok=>have h:some (PyData.str x)=some d:=h;cases h;exact ⟨⟨_,.str x t⟩,by simpa [PyData.canLay0] using ok,by simp [PyData.depth]⟩
  | tup h1 h4=>
   have h:=Option.map_eq_some_iff.mp (show (fR (rd f m) _).map PyData.tuple=some d from h)
   refine hide fun G_ g_=>?_
   rcases h with ⟨ds,hds,rfl⟩
   rcases dC (bW H f) _ _ ds hds h4 with ⟨⟨as,hr⟩,hc,hd⟩
   refine g_ ?_
   clear g_ G_
   exact ⟨⟨_,.tuple h1 rfl rfl hr⟩,by simpa [PyData.canLay0] using hc,by simp only [PyData.depth];lia⟩
  | ref h1=>
   rename_i k a d'
   have h:(match m[k]? with | some (.list xs)=>(fR (rd f m) xs).map PyData.list | _=>none)=some d:=h
   cases hx:m[k]? with
   | none=>rw [hx] at h;cases h
   | some ob=>
    rw [hx] at h
    cases ob with
    | list xs=>
     have h:=Option.map_eq_some_iff.mp (show (fR (rd f m) xs).map PyData.list=some d from h)
     refine hide fun G_ g_=>?_
     rcases h with ⟨ds,hds,rfl⟩
     rcases H.obj _ _ _ h1 hx with ⟨y_,vs,n',g1,g4,y_⟩
     rcases dC (bW H f) _ _ ds hds g4 with ⟨⟨as,hr⟩,hc,hd⟩
     refine g_ ?_
     clear g_ G_
     exact ⟨⟨_,.list g1 rfl rfl hr⟩,by simpa [PyData.canLay0] using hc,by simp only [PyData.depth];lia⟩
    | _=>cases h
  | scr y_ y_ y_ y_ y_=>exact nomatch (show none=some d from h)
noncomputable abbrev BV:Heap->Io->Bool->Value->Prop:=fun y_ y_ b u=>u=.bool b
theorem aY8 (k:Nat):((k:Int) != 0)=(k != 0):=by
 rw [Bool.eq_iff_iff];simp
theorem bF2 {xs:List V} {vs:Array Value} (e:vs.toList.length=xs.length):(!vs.isEmpty)=!xs.isEmpty:=by
 rw [Array.length_toList] at e
 cases xs with
 | nil=>have:vs=#[]:=Array.eq_empty_of_size_eq_zero e;subst this;rfl
 | cons x xs=>
  have:vs.isEmpty=false:=by
   rw [Array.isEmpty_eq_false_iff];intro q;subst q;simp at e
  rw [this];rfl
set_option tactic.hygienic true in
theorem aF2 (H:HR W s.heap io m) {v:V} {u:Value} (k:VR W s.heap io v u):Si W own A fs BP (truthy u) s io m (fB v m):=by
 induction k using VR.elim with
 | none=>exact fun y_=>wpAny_pure (a:=false) ⟨false,m,io,rfl,.refl,H,rfl,.refl _⟩
 | bool b=>exact fun y_=>wpAny_truthy_bool ⟨b,m,io,rfl,.refl,H,rfl,.refl _⟩
 | int i t=>exact fun y_=>P.truthy_int ⟨_,m,io,rfl,.refl,H,rfl,.refl _⟩
 | str x t ok=>
  simp only [fB]
  split
  ·rename_i hl
   exact fun y_=>P.truthy_str (by rw [aT6] at hl;lia) ⟨_,m,io,rfl,.refl,H,(aY8 _).symm,rfl,rfl⟩
  ·exact Si.bad
 | tup h1 h4=>
  simp only [fB]
  split
  ·rename_i hl
   have e:=h4.length
   exact fun y_=>PyProof.Rows.truthy_tuple ⟨_,h1,rfl,_,rfl⟩ (by rw [aT6] at hl;rw [Array.length_toList] at e;lia) ⟨_,m,io,rfl,.refl,H,(bF2 e).symm,rfl,rfl⟩
  ·exact Si.bad
 | ref h1=>
  simp only [fB]
  split
  ·rename_i xs hx
   obtain ⟨y_,vs,n',g1,g4,g5⟩:=H.obj _ _ _ h1 hx
   have e:=g4.length
   exact fun y_=>wpAny_truthy_list ⟨_,g1,rfl,_,rfl⟩ (by rw [aT6] at g5;rw [Array.length_toList] at e;lia) ⟨_,m,io,rfl,.refl,H,(bF2 e).symm,rfl,rfl⟩
  ·exact Si.bad
 | scr y_ y_ y_ y_ y_=>exact Si.bad
theorem aL {h:Heap} (o:Obj):∀ b o',h.get? b=some o'->(h.push o).get? b=some o':=fun y_ y_ e=>Heap.get?_push_of_some o e
theorem aQ (h:Heap):h.get? h.objs.size=none:=by
 cases q:h.get? h.objs.size with
 | none=>rfl
 | some o=>exact absurd (Heap.lt_size q) (Nat.lt_irrefl _)
theorem aC3 {fr:List Addr} (H:HR W s.heap io m) {vs:Array Value} {xs:List V} {k tk:Nat} (hv:VRs W s.heap io xs vs.toList) (hl:xs.length <= lid) :
  NP W own fr s io m (VP W) (alloc (.list xs) m) (.ref s.heap.objs.size) { s with heap:=s.heap.push (fH vs k),toks:=tk }:=by
 have st:Step own fr s.heap io m (s.heap.push (fH vs k)) (io++[(s.heap.objs.size,s.heap.objs.size)]) (m++[.list xs]):=eZ H (aL _) (aQ _) (aQ _)
 refine ⟨_,_,_,rfl,st,H.alloc (aL _) (aQ _) (aQ _) ⟨rfl,vs,k,Heap.get?_push_size _ rfl,hv.step st,hl⟩,.ref (d:=s.heap.objs.size) ?_,rfl,rfl⟩
 rw [<- H.len];simp
theorem dB0 {fr:List Addr} (H:HR W s.heap io m) {vs:Array Value} {xs:List V} {k tk:Nat} (hv:VRs W s.heap io xs vs.toList) :
  NP W own fr s io m (VP W) (.ok (.tup xs) m) (.ref s.heap.objs.size) { s with heap:=s.heap.push (cW2 vs k),toks:=tk }:=by
 have st:Step own fr s.heap io m (s.heap.push (cW2 vs k)) io m:=.of_keeps H (aL _)
 exact ⟨_,_,_,rfl,st,H.of_keeps (aL _),.tup (Heap.get?_push_size _ rfl) (hv.step st),rfl,rfl⟩
theorem bI {fr:List Addr} (H:HR W s.heap io m) {v:V} {u:Value} {tk:Nat} (hv:VR W s.heap io v u):NP W own fr s io m (VP W) (.ok v m) u { s with toks:=tk }:=
 ⟨v,m,io,rfl,.refl,H,hv,rfl,rfl⟩
theorem cQ2 {fr:List Addr} (H:HR W s.heap io m) {k tk:Nat} :
  NP W own fr s io m (VP W) (alloc (.dict [] 0) m) (.ref s.heap.objs.size) { s with heap:=s.heap.push (dF1 [] k),toks:=tk }:=by
 have st:Step own fr s.heap io m (s.heap.push (dF1 [] k)) (io++[(s.heap.objs.size,s.heap.objs.size)]) (m++[.dict [] 0]):=eZ H (aL _) (aQ _) (aQ _)
 refine ⟨_,_,_,rfl,st,H.alloc (aL _) (aQ _) (aQ _) ⟨rfl,_,_,k,Heap.get?_push_size _ rfl,⟨rfl,rfl,rfl⟩,rfl,.nil,.nil,by simp [lid]⟩,.ref (d:=s.heap.objs.size) ?_,rfl,rfl⟩
 rw [<- H.len];simp
theorem eJ {x y:Str} (hx:PyData.strOk x=true) (hy:PyData.strOk y=true):PyData.strOk (x++y)=true:=by
 unfold PyData.strOk at *
 rw [Str.cps_append]
 simp only [Array.all_append,hx,hy,Bool.and_self]
theorem aK {k:Nat} (h:k <= lid):k <= sizeLine:=by rw [aT6] at h;show k <= 2 ^ 24;lia
set_option tactic.hygienic true in
theorem aM6 {i:Int} (h:i.natAbs < 1073741824):Builtin.Int.intBits i <= 64:=by
 unfold Builtin.Int.intBits
 split
 ·lia
 ·rename_i h0
  have h1:i.natAbs≠0:=by
   intro q
   have:i=0:=by lia
   subst this;simp at h0
  have:=(Nat.log2_lt h1 (k:=30)).mpr (by lia)
  lia
theorem bV9 {Pr:Operator->V->V->Prop} (a1:∀ i j,Pr .Add (.int i) (.int j)) (a2:∀ i j,Pr .Sub (.int i) (.int j)) (a3:∀ i j,Pr .Mult (.int i) (.int j)) (a4:∀ i j,Pr .FloorDiv (.int i) (.int j)) (a5:∀ i j,Pr .Mod (.int i) (.int j))
  (a6:∀ x y,Pr .Add (.str x) (.str y)) (a8:∀ p q,Pr .Add (.ref p) (.ref q)) (bad:∀ op a b,bK4 op a b=(fun y_=>.bad)->Pr op a b) (op:Operator) (a b:V):Pr op a b:=by
 cases op <;> first | (exact bad _ _ _ rfl) | skip
 all_goals cases a <;> first | (exact bad _ _ _ rfl) | skip
 all_goals cases b <;> first | (exact a1 _ _) | (exact a2 _ _) | (exact a3 _ _) | (exact a4 _ _) | (exact a5 _ _) | (exact a6 _ _) | (exact a8 _ _) | (exact bad _ _ _ rfl)
set_option tactic.hygienic true in
theorem cV3 (H:HR W s.heap io m) {op:Operator} {v x:V} {u y:Value} (k:VR W s.heap io v u) (l:VR W s.heap io x y) :
  Si W own A fs (VP W) (binaryOp op u y) s io m (bK4 op v x m):=by
 revert k l
 refine bV9 (Pr:=fun op v x=>VR W s.heap io v u->VR W s.heap io x y->Si W own A fs (VP W) (binaryOp op u y) s io m (bK4 op v x m)) ?_ ?_ ?_ ?_ ?_ ?_ ?_ ?_ op v x
 ·intro i j k l;cases k;cases l;exact fun y_=>P.add_int (bI H (.int _ _))
 ·intro i j k l;cases k;cases l;exact fun y_=>P.sub_int (bI H (.int _ _))
 ·intro i j k l;cases k;cases l
  show Si W own A fs (VP W) _ s io m (if i.natAbs < 1073741824 \/ j.natAbs < 1073741824 then .ok (.int (i * j)) m else .bad)
  split
  ·rename_i hc
   intro y_
   refine P.mul_int (bI H (.int _ _)) ?_
   rcases hc with hc | hc
   ·exact IntMulOk.of_left (aM6 hc)
   ·exact IntMulOk.of_right (aM6 hc)
  ·exact Si.bad
 ·intro i j k l;cases k;cases l
  show Si W own A fs (VP W) _ s io m (if 0 < j /\ j.natAbs < 1073741824 then .ok (.int (i / j)) m else .bad)
  split
  ·rename_i hj
   rw [<- Int.fdiv_eq_ediv_of_nonneg _ (Int.le_of_lt hj.1)]
   exact fun y_=>PyProof.Rows.floordiv_int (Int.ne_of_gt hj.1) (bI H (.int _ _)) (.inl (PyProof.noPylong_small hj.2))
  ·exact Si.bad
 ·intro i j k l;cases k;cases l
  show Si W own A fs (VP W) _ s io m (if 0 < j then .ok (.int (i % j)) m else .bad)
  split
  ·rename_i hj
   rw [<- Int.fmod_eq_emod_of_nonneg _ (Int.le_of_lt hj)]
   exact fun y_=>PyProof.Rows.mod_int (Int.ne_of_gt hj) (bI H (.int _ _))
  ·exact Si.bad
 ·intro x y k l
  refine VR.dStr k fun y_ k1=>?_;refine VR.dStr l fun y_ l1=>?_
  show Si W own A fs (VP W) _ s io m (if x.length+y.length <= lid then .ok (.str (x++y)) m else .bad)
  split
  ·rename_i hl
   exact fun y_=>PyProof.Rows.add_str (fun t' tk=>bI H (.str _ _ (eJ k1 l1))) (aK hl)
  ·exact Si.bad
 ·intro p q k l
  refine VR.dRef k fun y_ y_ h1=>?_;refine VR.dRef l fun y_ y_ g1=>?_
  show Si W own A fs (VP W) _ s io m (match m[p]?,m[q]? with | some (.list x),some (.list y)=>if x.length+y.length <= lid then alloc (.list (x++y)) m else .bad | _,_=>.bad)
  split
  ·rename_i x y hx hy
   refine hide fun G_ g_=>?_
   rcases H.obj _ _ _ h1 hx with ⟨y_,vs,n',a1,a4,a5⟩
   rcases H.obj _ _ _ g1 hy with ⟨y_,ws,n2,b1,b4,b5⟩
   refine g_ ?_
   clear g_ G_
   split
   ·rename_i hl
    have e1:=a4.length
    have e2:=b4.length
    rw [Array.length_toList] at e1 e2
    exact fun y_=>P.add_list a1 b1 (aC3 H (by rw [Array.toList_append];exact a4.append b4) (by simpa using hl)) (aK (by lia))
   ·exact Si.bad
  ·exact Si.bad
 ·intro op a b e k l;rw [e];exact Si.bad
theorem fP {fr:List Addr} (H:HR W s.heap io m) {b:Bool} {tk:Nat}:NP W own fr s io m BV (.ok b m) (.bool b) { s with toks:=tk }:=⟨b,m,io,rfl,.refl,H,rfl,rfl,rfl⟩
theorem aY7 {M:Model} {A:Around} {E:Value->Shared->Prop} {s:Shared} {a b:Value} {Q:Value->Shared->Prop} (h:wpAny M A (compareOp .In a b) (fun v s'=>∃ c,v=.bool c /\ Q (.bool (!c)) s') E s) :
  wpAny M A (compareOp .NotIn a b) Q E s:=by
 intro Γ p hΓ
 have h1:=h Γ p hΓ
 show Sem.wp M Γ (contains b a >>= fun c=>pure (Value.bool (!c))) _ _ p s
 have h2:Sem.wp M Γ (contains b a >>= fun c=>pure (Value.bool c)) (fun v y_ s'=>∃ c,v=.bool c /\ Q (.bool (!c)) s') (fun e y_ s'=>E e s') p s:=h1
 rw [Sem.wp_bind'] at h2 ⊢
 refine Sem.wp_mono M Γ _ (fun c p' s' h'=>?_) (fun y_ y_ y_ x=>x) p s h2
 obtain ⟨c',e,q⟩:=h'
 cases e
 exact q
theorem Si.not {t t':Sem Value} {R:Res Bool} (x:Si W own A fs BV t s io m R)
  (k:∀ (E:Value->Shared->Prop) (Q:Value->Shared->Prop),wpAny (model W.prog W.w) A t (fun v s'=>∃ c,v=.bool c /\ Q (.bool (!c)) s') E s->wpAny (model W.prog W.w) A t' Q E s):Si W own A fs BV t' s io m (R.bind fun c=>ret (!c)):=by
 intro hne
 refine k _ _ (wpAny_mono (x (Res.bind_ne hne)) (fun u s' p=>?_) fun y_ y_ p=>p)
 obtain ⟨v,m',io',rfl,a1,a2,a3,a4⟩:=p
 exact ⟨v,a3,_,m',io',rfl,a1,a2,rfl,a4⟩
end
end Mini
namespace Mini
open PySem
noncomputable def aD5:Sum Int Str->Value->Bool
 | .inl i,v=>Value.isInt i v
 | .inr x,v=>Value.isStrOf x v
theorem bZ {k:Sum Int Str} {v:Value} (h:aD5 k v=true):(∃ i t,k=.inl i /\ v=.int i t) \/ (∃ x t,k=.inr x /\ v=.str x t):=by
 cases k with
 | inl j=>rcases Value.isInt_shape (k:=j) (v:=v) h with ⟨u,e⟩;exact .inl ⟨j,u,rfl,e⟩
 | inr x=>rcases Value.isStrOf_shape (x:=x) (v:=v) h with ⟨u,e⟩;exact .inr ⟨x,u,rfl,e⟩
theorem bI6 {prog:Program} {w:World} {A:Around} {E:Value->Shared->Prop} {s:Shared} {a b:Sum Int Str} {u v:Value} {Q:Bool->Shared->Prop} (hu:aD5 a u=true) (hv:aD5 b v=true) (h:Q (decide (a=b)) s) :
  wpAny (model prog w) A (PySem.eqBool u v) Q E s:=by
 rcases bZ hu with ⟨i,t,rfl,rfl⟩ | ⟨x,t,rfl,rfl⟩ <;> rcases bZ hv with ⟨j,t',rfl,rfl⟩ | ⟨y,t',rfl,rfl⟩
 ·have e:decide (Sum.inl (β:=Str) i=.inl j)=(i == j):=by
   by_cases q:i=j <;> simp [q]
  rw [e] at h
  exact wpAny_eqBool_int h
 ·have e:decide (Sum.inl (β:=Str) i=.inr y)=false:=by simp
  rw [e] at h
  unfold eqBool
  show wpAny _ _ (richCompare .Eq (Value.int i t) (Value.str y t') >>= truthOfDropped) Q E s
  exact wpAny_bind (EqMixed.eq_int_str (wpAny_truthy_bool h))
 ·have e:decide (Sum.inr (α:=Int) x=.inl j)=false:=by simp
  rw [e] at h
  unfold eqBool
  show wpAny _ _ (richCompare .Eq (Value.str x t) (Value.int j t') >>= truthOfDropped) Q E s
  exact wpAny_bind (EqMixed.eq_str_int (wpAny_truthy_bool h))
 ·have e:decide (Sum.inr (α:=Int) x=.inr y)=decide (x=y):=by
   by_cases q:x=y <;> simp [q]
  rw [e] at h
  exact wpAny_eqBool_str h
theorem cB9 {prog:Program} {w:World} {A:Around} {E:Value->Shared->Prop} {s:Shared} {k:Sum Int Str} {v:Value} {Q:Int->Shared->Prop} (hv:aD5 k v=true) (h:Q (bW7 w k) { s with toks:=s.toks+1 }) :
  wpAny (model prog w) A (PySem.pyHash v) Q E s:=by
 rcases bZ hv with ⟨i,t,rfl,rfl⟩ | ⟨x,t,rfl,rfl⟩
 ·exact wpAny_pyHash_int h
 ·exact wpAny_pyHash_str h
theorem cQ9 (v:Value) (a b:Sum Int Str) (ha:aD5 a v=true) (hb:aD5 b v=true):a=b:=by
 rcases bZ ha with ⟨i,t,rfl,rfl⟩ | ⟨x,t,rfl,rfl⟩ <;> rcases bZ hb with ⟨j,u,rfl,e⟩ | ⟨y,u,rfl,e⟩ <;> cases e <;> rfl
theorem aZ0 (k:Sum Int Str) (v:Value) (h:aD5 k v=true):carriedByValue v=true:=by
 rcases bZ h with ⟨i,t,rfl,rfl⟩ | ⟨x,t,rfl,rfl⟩ <;> rfl
theorem cB8 (k:Sum Int Str) (x:Str) (t:Tok) (v:Value) (h:aD5 k (.str x t)=true):aD5 k v=v.isStr x:=by
 rcases bZ h with ⟨i,u,rfl,e⟩ | ⟨y,u,rfl,e⟩
 ·cases e
 ·cases e;cases v <;> rfl
noncomputable def aG9 (prog:Program) (w:World):KeyKind prog w (Sum Int Str) where
 is:=aD5
 hash:=bW7 w
 inj:=cQ9
 byValue:=aZ0
 pyHash:=cB9
 eqBool:=bI6
 «strs»:=cB8
section
variable {W:Wd} {h:Heap} {io:Io}
theorem aZ4 {ks:List (Sum Int Str)} {vs:List Value} (x:VRs W h io (ks.map fun x=>match x with | .inl i=>V.int i | .inr s=>V.str s) vs):ItemsAre (aG9 W.prog W.w) ks vs:=by
 induction ks generalizing vs with
 | nil=>cases x;exact .nil
 | cons k ks ih=>
  refine VRs.dCons x fun y_ y_ h1 r=>?_
  ·
   refine .cons ?_ (ih r)
   cases k with
   | inl i=>cases h1;simp [aG9,aD5,Value.isInt]
   | inr s=>refine VR.dStr h1 fun y_ y_=>?_;simp [aG9,aD5,Value.isStrOf]
theorem fS {ks:List (Sum Int Str)} {u:Value} (x:VR W h io (Ky.tup ks).val u):∃ a,u=.ref a /\ IsTupleKey (aG9 W.prog W.w) h ks a:=by
 refine VR.dTup x fun y_ y_ y_ h1 h2=>?_
 ·exact ⟨_,rfl,_,_,_,h1,rfl,rfl,aZ4 h2⟩
section
variable {K:Type} [DecidableEq K] (knd:KeyKind W.prog W.w K) (emb:K->Ky)
structure Emb:Prop where
 inj:∀ a b,emb a=emb b->a=b
 is:∀ {h:Heap} {io:Io} k u,VR W h io (emb k).val u->knd.is k u=true
 hash:∀ k,aT8 W.w (emb k)=knd.hash k
 back:∀ {h h':Heap} {io:Io} k u,VR W h io (emb k).val u->VR W h' io (emb k).val u
variable {knd emb}
theorem ERs.keysOf (E:Emb knd emb) {kvs:List (Ky×V)} {es:List DictEntry} (x:ERs W h io kvs es) (hk:∀ p∈kvs,∃ k,p.1=emb k):∀ e∈es,∃ k,knd.is k e.key=true /\ e.hash=knd.hash k:=by
 induction x using ERs.ind with
 | nil=>intro e he;cases he
 | cons h1 h2 y_ ih=>
  intro e he
  cases he with
  | head=>
   rcases hk _ (.head _) with ⟨k,e⟩
   simp only at e
   subst e
   exact ⟨k,E.is k _ h1,E.hash k⟩
  | tail y_ he=>exact ih (fun p hp=>hk p (.tail _ hp)) e he
theorem ERs.find (E:Emb knd emb) {kvs:List (Ky×V)} {es:List DictEntry} (x:ERs W h io kvs es) (hk:∀ p∈kvs,∃ k,p.1=emb k) (k:K) :
  (∃ v u,bP (emb k) kvs=some v /\ (es.find? fun e=>knd.is k e.key).map (·.val)=some u /\ VR W h io v u) \/ (bP (emb k) kvs=none /\ (es.find? fun e=>knd.is k e.key).map (·.val)=none):=by
 induction x using ERs.ind with
 | nil=>exact .inr ⟨rfl,rfl⟩
 | @cons k' v key u kvs es h1 h2 y_ ih=>
  rcases hk _ (.head _) with ⟨j,e⟩
  simp only at e
  subst e
  have hj:=E.is j _ h1
  by_cases q:j=k
  ·subst q
   exact .inl ⟨v,u,by simp [bP],by simp [List.find?,hj],h2⟩
  ·have n1:¬ emb j=emb k:=fun z=>q (E.inj _ _ z)
   have n2:knd.is k key=false:=by
    cases z:knd.is k key with
    | false=>rfl
    | true=>exact absurd (knd.inj _ _ _ hj z) q
   simp only [bP,n1,if_false,List.find?_cons,n2]
   exact ih fun p hp=>hk p (.tail _ hp)
theorem ERs.mapOf (E:Emb knd emb) {kvs:List (Ky×V)} {a:Addr} {o:Obj} {es:Array DictEntry} {n:Nat} (h1:h.get? a=some o) (h2:o.ExactDict) (h3:o.data=.dict es n) (x:ERs W h io kvs es.toList) (hk:∀ p∈kvs,∃ k,p.1=emb k) :
  h.MapOf knd a (findBy knd.is es):=⟨o,es,n,h1,h2,h3,fun e he=>x.keysOf E hk e (Array.mem_toList_iff.mpr he),fun y_=>rfl⟩
theorem ERs.findBy (E:Emb knd emb) {kvs:List (Ky×V)} {es:Array DictEntry} (x:ERs W h io kvs es.toList) (hk:∀ p∈kvs,∃ k,p.1=emb k) (k:K) :
  (∃ v u,bP (emb k) kvs=some v /\ findBy knd.is es k=some u /\ VR W h io v u) \/ (bP (emb k) kvs=none /\ PySem.findBy knd.is es k=none):=by
 have:=x.find E hk k
 unfold PySem.findBy
 rcases es with ⟨l⟩
 rw [List.find?_toArray]
 exact this
theorem ERs.pairs (E:Emb knd emb) {kvs:List (Ky×V)} {es:List DictEntry} (x:ERs W h io kvs es) (hk:∀ p∈kvs,∃ k,p.1=emb k) :
  ∃ l:List (K×Value),Pairs knd es l /\ l.map (fun p=>emb p.1)=kvs.map (·.1) /\ VRs W h io (kvs.map (·.2)) (l.map (·.2)):=by
 induction x using ERs.ind with
 | nil=>exact ⟨[],.nil,rfl,.nil⟩
 | @cons k' v key u kvs es h1 h2 y_ ih=>
  rcases hk _ (.head _) with ⟨j,e⟩
  simp only at e
  subst e
  obtain ⟨l,p1,p2,p3⟩:=ih fun p hp=>hk p (.tail _ hp)
  exact ⟨(j,u)::l,.cons (E.is j _ h1) rfl p1,by simp [p2],.cons h2 p3⟩
end
set_option tactic.hygienic true in
theorem c8 {k:Ky} {v:V}:∀ {kvs:List (Ky×V)},bP k kvs=none->put k v kvs=kvs++[(k,v)]
 | [],_=>rfl
 | (k',v')::r,h=>by
  simp only [bP] at h
  split at h
  ·cases h
  ·rename_i q
   simp only [put,q,if_false,List.cons_append,c8 h]
set_option tactic.hygienic true in
theorem aT4 {k:Ky}:∀ {kvs:List (Ky×V)},bP k kvs=none->∀ p∈kvs,p.1≠k
 | [],_,_,hp=>nomatch hp
 | (k',v')::r,h,p,hp=>by
  simp only [bP] at h
  split at h
  ·cases h
  ·rename_i q
   cases hp with
   | head=>exact q
   | tail y_ hp=>exact aT4 h p hp
set_option tactic.hygienic true in
theorem cZ {k:Ky} {v:V}:∀ {kvs:List (Ky×V)} {u:V},bP k kvs=some u->(kvs.map (·.1)).Nodup->put k v kvs=kvs.map fun p=>if p.1=k then (p.1,v) else p
 | [],_,h,_=>by simp [bP] at h
 | (k',v')::r,u,h,hn=>by
  simp only [List.map_cons,List.nodup_cons] at hn
  simp only [bP] at h
  split at h
  ·rename_i q
   subst q
   simp only [put,if_true,List.map_cons]
   congr 1
   have e:∀ p∈r,(if p.1=k' then (p.1,v) else p)=p:=fun p hp=>by
    rw [if_neg];intro z;exact hn.1 (z▸List.mem_map_of_mem hp)
   rw [List.map_congr_left e,List.map_id']
  ·rename_i q
   simp only [put,q,if_false,List.map_cons,cZ h hn.2]
theorem bC9 {k:Ky} {v:V} {kvs:List (Ky×V)} (hn:(kvs.map (·.1)).Nodup):((put k v kvs).map (·.1)).Nodup:=by
 cases h:bP k kvs with
 | none=>
  rw [c8 h,List.map_append]
  refine List.nodup_append.mpr ⟨hn,by simp,?_⟩
  intro x hx y hy e
  obtain ⟨p,hp,rfl⟩:=List.mem_map.mp hx
  simp at hy
  subst hy
  exact aT4 h p hp e
 | some u=>
  rw [cZ h hn,List.map_map]
  have e:((fun x:Ky×V=>x.1) ∘ fun p:Ky×V=>if p.1=k then (p.1,v) else p)=fun p=>p.1:=by
   funext p;simp only [Function.comp];split <;> rfl
  rw [e];exact hn
theorem aL4 {k:Ky} {v:V}:∀ (kvs:List (Ky×V)),(put k v kvs).length <= kvs.length+1
 | []=>by simp [put]
 | (k',v')::r=>by
  simp only [put]
  split
  ·simp
  ·simpa using aL4 r
theorem aF3 {x:V} {k:Ky} (h:dN x=some k):k.val=x:=by
 cases x with
 | int i=>simp [dN] at h;subst h;rfl
 | tup xs=>
  simp only [dN,Option.map_eq_some_iff] at h
  obtain ⟨ks,hks,rfl⟩:=h
  refine congrArg V.tup ?_
  induction xs generalizing ks with
  | nil=>have hks:some []=some _:=hks;cases hks;rfl
  | cons x xs ih=>
   obtain ⟨d,r,rfl,h1,h2⟩:=aW9 hks
   simp only [List.map_cons,List.cons.injEq]
   refine ⟨?_,ih r h2⟩
   cases x <;> simp [atom] at h1 <;> subst h1 <;> rfl
 | _=>simp [dN] at h
theorem aF6 {k:Ky} {kvs:List (Ky×V)} (h:aJ k kvs=true):∀ p∈kvs,p.1.sort=k.sort:=fun p hp=>by
 have:=List.all_eq_true.mp h p hp
 simpa using this
theorem intEmb:Emb (W:=W) (intKind W.prog W.w) Ky.int where
 inj:=fun a b e=>dC0 e
 is:=fun k u x=>by cases x;simp [intKind,Value.isInt]
 hash:=fun y_=>rfl
 back:=fun k u x=>by cases x;exact .int _ _
theorem e7 {kvs:List (Ky×V)} {i:Int} (h:aJ (.int i) kvs=true):∀ p∈kvs,∃ k,p.1=Ky.int k:=fun p hp=>by
 have:=aF6 h p hp
 cases q:p.1 with
 | int k=>exact ⟨k,rfl⟩
 | _=>rw [q] at this;simp [Ky.sort] at this
theorem aN7 {kvs:List (Ky×V)} {i:List (Sum Int Str)} (h:aJ (.tup i) kvs=true):∀ p∈kvs,∃ k,p.1=Ky.tup k:=fun p hp=>by
 have:=aF6 h p hp
 cases q:p.1 with
 | tup k=>exact ⟨k,rfl⟩
 | _=>rw [q] at this;simp [Ky.sort] at this
noncomputable abbrev TK:=List (Sum Int Str)×Addr×Value
noncomputable abbrev tkd (W:Wd):=tupleKind (aG9 W.prog W.w)
theorem ERs.heapKeys {kvs:List (Ky×V)} {es:List DictEntry} (x:ERs W h io kvs es) (hk:∀ p∈kvs,∃ k,p.1=Ky.tup k) :
  ∃ l:List TK,es=l.map (entryOfKey (tkd W)) /\ (∀ y∈l,(tkd W).is h y.1 y.2.1) /\ l.map (fun p=>Ky.tup p.1)=kvs.map (·.1) /\ VRs W h io (kvs.map (·.2)) (l.map (·.2.2)) /\ (∀ y∈l,VR W h io (Ky.tup y.1).val (.ref y.2.1)):=by
 induction x using ERs.ind with
 | nil=>exact ⟨[],rfl,(fun y_ h=>nomatch h),rfl,.nil,fun y_ h=>nomatch h⟩
 | @cons k' v key u kvs es h1 h2 y_ ih=>
  rcases hk _ (.head _) with ⟨j,e⟩
  simp only at e
  subst e
  refine hide fun G_ g_=>?_
  rcases ih fun p hp=>hk p (.tail _ hp) with ⟨l,p1,p2,p3,p4,p5⟩
  rcases fS h1 with ⟨a,rfl,ka⟩
  refine g_ ?_
  clear g_ G_
  refine ⟨(j,a,u)::l,by rw [p1];rfl,fun y hy=>?_,by simp [p3],.cons h2 p4,fun y hy=>?_⟩
  ·cases hy with
   | head=>exact ka
   | tail y_ hy=>exact p2 y hy
  ·cases hy with
   | head=>exact h1
   | tail y_ hy=>exact p5 y hy
theorem fA {k:List (Sum Int Str)}:∀ {l:List TK} {kvs:List (Ky×V)},l.map (fun p=>Ky.tup p.1)=kvs.map (·.1)->VRs W h io (kvs.map (·.2)) (l.map (·.2.2)) ->
  (∃ v a u,bP (.tup k) kvs=some v /\ atKey l k=some (a,u) /\ VR W h io v u) \/ (bP (.tup k) kvs=none /\ atKey l k=none)
 | [],kvs,e,_=>by
  have:kvs=[]:=by cases kvs with | nil=>rfl | cons=>simp at e
  subst this
  exact .inr ⟨rfl,rfl⟩
 | (j,a,u)::l,kvs,e,x=>by
  cases kvs with
  | nil=>simp at e
  | cons q kvs=>
   rcases q with ⟨k',v⟩
   simp only [List.map_cons,List.cons.injEq] at e
   rcases e with ⟨e1,e2⟩
   subst e1
   rcases VRs.cc x with ⟨x1,x2⟩
   ·
    by_cases z:j=k
    ·subst z
     exact .inl ⟨v,a,u,by simp [bP],by simp [atKey],x1⟩
    ·have z':¬ Ky.tup j=Ky.tup k:=fun w=>z (ky_t w)
     simp only [bP,z',if_false]
     have:atKey ((j,a,u)::l) k=atKey l k:=by simp [atKey,z]
     rw [this]
     exact fA e2 x2
theorem eP {l:List TK} {kvs:List (Ky×V)} (e:l.map (fun p=>Ky.tup p.1)=kvs.map (·.1)) (hn:(kvs.map (·.1)).Nodup):(l.map (·.1)).Nodup:=by
 rw [<- e] at hn
 have:(l.map (·.1)).map Ky.tup=l.map fun p=>Ky.tup p.1:=by rw [List.map_map];rfl
 rw [<- this] at hn
 exact List.Pairwise.of_map Ky.tup (fun a b h e=>h (congrArg _ e)) hn
end
structure WOk (W:Wd):Prop where
 sys:∃ o,W.base.get? sysModules=some o
 nolimit:W.base.NoLimit
section
variable {W:Wd} {own:List Addr} {A:Around} {fs:List Env} {s:Shared} {io:Io} {m:MH} {n:Nat}
theorem HR.notSys (ok:WOk W) (H:HR W s.heap io m) {b:Addr} (f:dG io b):(b == sysModules)=false:=by
 have h1:=H.fresh b f
 rcases ok.sys with ⟨o,ho⟩
 cases q:b == sysModules with
 | false=>rfl
 | true=>rw [beq_iff_eq.mp q,ho] at h1;cases h1
theorem cS7 {E:Value->Shared->Prop} {Q:Value->Shared->Prop} (ok:WOk W) (H:HR W s.heap io m) (R:AR A fs n) {i:Nat} {p:Addr×Addr} {kvs:List (Ky×V)} {e:Nat} (hi:io[i]?=some p) (hm:m[i]?=some (.dict kvs e)) {x:V} {u:Value} (hx:VR W s.heap io x u) {k:Ky} (hk:dN x=some k) (hs:aJ k kvs=true)
  (h:∀ tk,Q (.bool (bP k kvs).isSome) { s with toks:=tk }):wpAny (model W.prog W.w) A (compareOp .In u (.ref p.1)) Q E s:=by
 obtain ⟨y_,o,es,n',g1,g2,g3,g4,g5,y_⟩:=H.obj _ _ _ hi hm
 have ns:=H.notSys ok ⟨p,List.mem_of_getElem? hi,.inl rfl⟩
 have hv:=aF3 hk
 subst hv
 cases k with
 | int j=>
  have hh:=e7 hs
  refine wpAny_in_of (intEmb.is j u hx) ns (g4.mapOf intEmb g1 g2 g3 hh) ?_
  rcases g4.findBy intEmb hh j with ⟨v,u',e1,e2,_⟩ | ⟨e1,e2⟩
  ·rw [e2];have:=h (s.toks+1);rw [e1] at this;exact this
  ·rw [e2];have:=h (s.toks+1);rw [e1] at this;exact this
 | str j=>cases hk
 | tup j=>
  have hh:=aN7 hs
  refine hide fun G_ g_=>?_
  rcases g4.heapKeys hh with ⟨l,p1,p2,p3,p4,p5⟩
  rcases fS hx with ⟨a,rfl,ka⟩
  refine g_ ?_
  clear g_ G_
  refine wpAny_in_heap (knd:=tkd W) (xs:=l) (k:=j) (show A.in1.units < cLine by have:=R.cline;simp only [Around.in1_units];lia) ka ns ⟨o,es,n',g1,g2,g3,p1,p2,eP p3 g5⟩ ?_
  rcases fA (k:=j) p3 p4 with ⟨v,a',u',e1,e2,_⟩ | ⟨e1,e2⟩
  ·rw [e2];have:=h (s.toks+(tkd W).draws j);rw [e1] at this;exact this
  ·rw [e2];have:=h (s.toks+(tkd W).draws j);rw [e1] at this;exact this
theorem cE0 {E:Value->Shared->Prop} {Q:Value->Shared->Prop} (H:HR W s.heap io m) (R:AR A fs n) {i:Nat} {p:Addr×Addr} {kvs:List (Ky×V)} {e:Nat} (hi:io[i]?=some p) (hm:m[i]?=some (.dict kvs e)) {x:V} {u:Value} (hx:VR W s.heap io x u) {k:Ky} (hk:dN x=some k) (hs:aJ k kvs=true) {v:V} (hl:bP k kvs=some v)
  (h:∀ u' tk,VR W s.heap io v u'->Q u' { s with toks:=tk }):wpAny (model W.prog W.w) A (getItem (.ref p.1) u) Q E s:=by
 obtain ⟨y_,o,es,n',g1,g2,g3,g4,g5,y_⟩:=H.obj _ _ _ hi hm
 have hv:=aF3 hk
 subst hv
 cases k with
 | int j=>
  have hh:=e7 hs
  rcases g4.findBy intEmb hh j with ⟨v',u',e1,e2,e3⟩ | ⟨e1,e2⟩
  ·rw [hl] at e1;cases e1
   exact wpAny_getItem_of (intEmb.is j u hx) (g4.mapOf intEmb g1 g2 g3 hh) e2 (h _ _ e3)
  ·rw [hl] at e1;cases e1
 | str j=>cases hk
 | tup j=>
  have hh:=aN7 hs
  refine hide fun G_ g_=>?_
  rcases g4.heapKeys hh with ⟨l,p1,p2,p3,p4,p5⟩
  rcases fS hx with ⟨a,rfl,ka⟩
  refine g_ ?_
  clear g_ G_
  rcases fA (k:=j) p3 p4 with ⟨v',a',u',e1,e2,e3⟩ | ⟨e1,e2⟩
  ·rw [hl] at e1;cases e1
   exact wpAny_getItem_heap (knd:=tkd W) (xs:=l) (k:=j) (show A.in1.units < cLine by have:=R.cline;simp only [Around.in1_units];lia) ka ⟨o,es,n',g1,g2,g3,p1,p2,eP p3 g5⟩ e2 (h _ _ e3)
  ·rw [hl] at e1;cases e1
section
variable {h:Heap} {K:Type} [DecidableEq K] {knd:KeyKind W.prog W.w K} {emb:K->Ky}
theorem ERs.of_pairs (E:Emb knd emb) {es:List DictEntry} {l:List (K×Value)} {kvs:List (Ky×V)} (hk:∀ e∈es,∃ k,knd.is k e.key=true /\ e.hash=knd.hash k) (hp:Pairs knd es l) (e:kvs.map (·.1)=l.map (fun p=>emb p.1))
  (x:VRs W h io (kvs.map (·.2)) (l.map (·.2))) (hv:∀ k u,emb k∈kvs.map (·.1)->knd.is k u=true->VR W h io (emb k).val u):ERs W h io kvs es:=by
 induction hp generalizing kvs with
 | nil=>
  have:kvs=[]:=by cases kvs with | nil=>rfl | cons=>simp at e
  subst this;exact .nil
 | @cons en kv es l p1 p2 p3 ih=>
  cases kvs with
  | nil=>simp at e
  | cons q kvs=>
   rcases q with ⟨k',v⟩
   simp only [List.map_cons,List.cons.injEq] at e
   rcases e with ⟨e1,e2⟩
   obtain ⟨j,j1,j2⟩:=hk en (.head _)
   have:j=kv.1:=knd.inj _ _ _ j1 p1
   subst this
   rcases VRs.cc x with ⟨x1,x2⟩
   ·
    obtain ⟨hs,ky,vl⟩:=en
    simp only at j1 j2 p1 p2
    subst j2 p2
    subst e1
    rw [<- E.hash]
    exact .cons (hv _ _ (by simp) p1) x1 (ih (fun e he=>hk e (.tail _ he)) e2 x2 fun k u hm hi=>hv k u (by simp only [List.map_cons,List.mem_cons];exact .inr hm) hi)
theorem cV9 {l:List (K×Value)} {kvs:List (Ky×V)} (E:Emb knd emb) (e:kvs.map (·.1)=l.map fun p=>emb p.1) (k:K):l.any (fun kv=>decide (kv.1=k))=(bP (emb k) kvs).isSome:=by
 induction l generalizing kvs with
 | nil=>
  have:kvs=[]:=by cases kvs with | nil=>rfl | cons=>simp at e
  subst this;rfl
 | cons p l ih=>
  cases kvs with
  | nil=>simp at e
  | cons q kvs=>
   rcases q with ⟨k',v⟩
   simp only [List.map_cons,List.cons.injEq] at e
   rcases e with ⟨e1,e2⟩
   subst e1
   by_cases z:p.1=k
   ·simp [z,bP]
   ·have z':¬ emb p.1=emb k:=fun w=>z (E.inj _ _ w)
    simp only [List.any_cons,z,decide_false,Bool.false_or,bP,z',if_false]
    exact ih e2
theorem bH8 (E:Emb knd emb) {l:List (K×Value)} {kvs:List (Ky×V)} (e:kvs.map (·.1)=l.map fun p=>emb p.1) (x:VRs W h io (kvs.map (·.2)) (l.map (·.2))) (hn:(kvs.map (·.1)).Nodup) (k:K) {v:V} {u:Value} (y:VR W h io v u) :
  (put (emb k) v kvs).map (·.1)=(stored l k u).map (fun p=>emb p.1) /\ VRs W h io ((put (emb k) v kvs).map (·.2)) ((stored l k u).map (·.2)):=by
 unfold stored
 rw [cV9 E e k]
 cases q:bP (emb k) kvs with
 | none=>
  rw [c8 q,if_neg (by simp)]
  exact ⟨by simp [e],by simp only [List.map_append,List.map_cons,List.map_nil];exact x.snoc y⟩
 | some z=>
  rw [cZ q hn,if_pos (by rfl)]
  clear q hn
  induction l generalizing kvs with
  | nil=>
   have:kvs=[]:=by cases kvs with | nil=>rfl | cons=>simp at e
   subst this;exact ⟨rfl,.nil⟩
  | cons p l ih=>
   cases kvs with
   | nil=>simp at e
   | cons q kvs=>
    rcases q with ⟨k',v'⟩
    simp only [List.map_cons,List.cons.injEq] at e
    rcases e with ⟨e1,e2⟩
    subst e1
    rcases VRs.cc x with ⟨x1,x2⟩
    ·
     rcases ih e2 x2 with ⟨i1,i2⟩
     by_cases w:p.1=k
     ·have w':emb p.1=emb k:=by rw [w]
      simp only [List.map_cons,w,w',if_true]
      exact ⟨by rw [i1],.cons y i2⟩
     ·have w':¬ emb p.1=emb k:=fun c=>w (E.inj _ _ c)
      simp only [List.map_cons,w,w',if_false]
      exact ⟨by rw [i1],.cons x1 i2⟩
end
theorem aA4 {h h':Heap} {d:Addr} (hs:Heap.SameBut d h h'):∀ b o,b≠d->h.get? b=some o->h'.get? b=some o:=fun b y_ hb e=>(hs.2 b hb).trans e
theorem aC2 {fr:List Addr} (H:HR W s.heap io m) {i:Nat} {p:Addr×Addr} {kvs kvs':List (Ky×V)} {e:Nat} (hi:io[i]?=some p) (hm:m[i]?=some (.dict kvs e)) {h':Heap} {tk:Nat} (hs:Heap.SameBut p.1 s.heap h')
  {o':Obj} {es':Array DictEntry} {n':Nat} (h1:h'.get? p.1=some o') (h2:o'.ExactDict) (h3:o'.data=.dict es' n') (h4:Step own fr s.heap io m h' io (m.set i (.dict kvs' (e+1)))->ERs W h' io kvs' es'.toList) (h5:(kvs'.map (·.1)).Nodup) (h6:kvs'.length <= lid) :
  NP W own fr s io m (fun y_ y_ (_ _:Unit)=>True) (.ok () (m.set i (.dict kvs' (e+1)))) () { s with heap:=h',toks:=tk }:=by
 rcases H.obj _ _ _ hi hm with ⟨hpp,y_⟩
 have hk:∀ b o,b≠p.1->b≠p.2->s.heap.get? b=some o->h'.get? b=some o:=fun b o q y_ ho=>aA4 hs b o q ho
 have hd:∀ kv ep,MObj.dict kvs e=.dict kv ep->∃ kvs2 e2,MObj.dict kvs' (e+1)=.dict kvs2 e2 /\ ep < e2:=fun kv ep q=>by cases q;exact ⟨kvs',e+1,rfl,by lia⟩
 have st:Step own fr s.heap io m h' io (m.set i (.dict kvs' (e+1))):=aE0 H hi hm hk ⟨_,h1⟩ ⟨_,hpp▸h1⟩ hd
 exact ⟨(),_,io,rfl,st,H.set hi hm hk hd ⟨_,h1⟩ ⟨_,hpp▸h1⟩ ⟨hpp,o',es',n',h1,h2,h3,h4 st,h5,h6⟩,trivial,rfl,rfl⟩
theorem bL1 {h:Heap} {j:List (Sum Int Str)} {v:V} {y:Value} (hv:VR W h io v y):∀ {l:List TK} {kvs:List (Ky×V)},l.map (fun p=>Ky.tup p.1)=kvs.map (·.1)->VRs W h io (kvs.map (·.2)) (l.map (·.2.2)) ->
  VRs W h io ((kvs.map fun p=>if p.1=Ky.tup j then (p.1,v) else p).map (·.2)) ((l.map (putAt j y)).map (·.2.2)):=by
 intro l
 induction l with
 | nil=>intro kvs p3 _;have:kvs=[]:=by { cases kvs with | nil=>rfl | cons=>simp at p3 };subst this;exact .nil
 | cons q l ih=>
  intro kvs p3 p4
  cases kvs with
  | nil=>simp at p3
  | cons r kvs=>
   rcases r with ⟨k',v'⟩
   simp only [List.map_cons,List.cons.injEq] at p3
   rcases p3 with ⟨z1,z2⟩
   subst z1
   rcases VRs.cc p4 with ⟨x1,x2⟩
   ·
    simp only [List.map_cons]
    refine .cons ?_ (ih z2 x2)
    by_cases w:q.1=j
    ·simp only [w,if_true,putAt];exact hv
    ·have w':¬ Ky.tup q.1=Ky.tup j:=fun c=>w (ky_t c)
     simp only [w',if_false,putAt,w];exact x1
theorem cA2 (H:HR W s.heap io m) (R:AR A fs n) {i:Nat} {p:Addr×Addr} {kvs:List (Ky×V)} {e:Nat} (hi:io[i]?=some p) (hm:m[i]?=some (.dict kvs e)) {x v:V} {u y:Value} (hx:VR W s.heap io x u) (hv:VR W s.heap io v y) {k:Ky} (hk:dN x=some k) (hs:aJ k kvs=true) (hl:kvs.length < lid) :
  Si W own A fs (fun y_ y_ (_ _:Unit)=>True) (setItem (.ref p.1) u y) s io m (.ok () (m.set i (.dict (put k v kvs) (e+1)))):=by
 obtain ⟨y_,o,es,n',g1,g2,g3,g4,g5,g6⟩:=H.obj _ _ _ hi hm
 have hv':=aF3 hk
 subst hv'
 have hl':(put k v kvs).length <= lid:=Nat.le_trans (aL4 kvs) hl
 intro y_
 cases k with
 | int j=>
  have hh:=e7 hs
  obtain ⟨l,l1,l2,l3⟩:=g4.pairs intEmb hh
  have ll:l.length=kvs.length:=by have:=congrArg List.length l2;simpa using this
  refine wpAny_setItem_pairs (kvs:=l) (intEmb.is j u hx) ⟨o,es,n',g1,g2,g3,fun e he=>g4.keysOf intEmb hh e (Array.mem_toList_iff.mpr he),l1,?_⟩ (fun h' hd hsb=>?_) (aK (by lia))
  ·refine List.Pairwise.of_map (S:=(·≠·)) Ky.int (fun a b h e=>h (congrArg Ky.int e)) ?_
   rw [List.map_map]
   exact (by rw [<- l2] at g5;exact g5)
  ·obtain ⟨o',es',n2,d1,d2,d3,d4,d5,d6⟩:=hd
   refine aC2 H hi hm hsb d1 d2 d3 (fun st=>?_) (bC9 g5) hl'
   rcases bH8 (W:=W) intEmb l2.symm l3 g5 j hv with ⟨a1,a2⟩
   exact ERs.of_pairs intEmb (fun e he=>d4 e (Array.mem_toList_iff.mp he)) d5 a1 (a2.step st) fun k u y_ hi=>by
    rcases Value.isInt_shape (k:=k) (v:=u) hi with ⟨t,rfl⟩;exact .int _ _
 | str j=>cases hk
 | tup j=>
  have hh:=aN7 hs
  refine hide fun G_ g_=>?_
  rcases g4.heapKeys hh with ⟨l,p1,p2,p3,p4,p5⟩
  rcases fS hx with ⟨a,rfl,ka⟩
  refine g_ ?_
  clear g_ G_
  have ll:l.length=kvs.length:=by have:=congrArg List.length p3;simpa using this
  have lnd:=eP p3 g5
  refine wpAny_setItem_heap (knd:=tkd W) (xs:=l) (k:=j) (show A.in1.units < cLine by have:=R.cline;show A.units+1 < cLine;lia) ka ⟨o,es,n',g1,g2,g3,p1,p2,lnd⟩ (fun h' hd hsb=>?_) (aK (by lia))
  obtain ⟨o',es',n2,d1,d2,d3,d4,d5,d6⟩:=hd
  refine aC2 H hi hm hsb d1 d2 d3 (fun st=>?_) (bC9 g5) hl'
  rw [d4]
  have build:∀ {l:List TK} {kvs:List (Ky×V)},l.map (fun p=>Ky.tup p.1)=kvs.map (·.1)->VRs W h' io (kvs.map (·.2)) (l.map (·.2.2))->(∀ y∈l,VR W h' io (Ky.tup y.1).val (.ref y.2.1))->ERs W h' io kvs (l.map (entryOfKey (tkd W))):=by
   intro l
   induction l with
   | nil=>intro kvs e x _;have:kvs=[]:=by { cases kvs with | nil=>rfl | cons=>simp at e };subst this;exact .nil
   | cons q l ih=>
    intro kvs e x y
    cases kvs with
    | nil=>simp at e
    | cons r kvs=>
     rcases r with ⟨k',v'⟩
     simp only [List.map_cons,List.cons.injEq] at e
     rcases e with ⟨e1,e2⟩
     subst e1
     rcases VRs.cc x with ⟨x1,x2⟩
     ·exact .cons (y q (.head _)) x1 (ih e2 x2 fun z hz=>y z (.tail _ hz))
  rcases fA (k:=j) p3 p4 with ⟨v',a',u',e1,e2,e3⟩ | ⟨e1,e2⟩
  ·rw [storedH_old e2,cZ e1 g5]
   refine build ?_ ?_ ?_
   ·rw [List.map_map,List.map_map]
    have f1:((fun p:TK=>Ky.tup p.1) ∘ putAt j y)=fun p:TK=>Ky.tup p.1:=by funext q;simp only [Function.comp,putAt];split <;> rfl
    have f2:((fun p:Ky×V=>p.1) ∘ fun p:Ky×V=>if p.1=Ky.tup j then (p.1,v) else p)=fun p=>p.1:=by funext q;simp only [Function.comp];split <;> rfl
    rw [f1,f2];exact p3
   ·exact bL1 (hv.step st) p3 (p4.step st)
   ·intro y' hy'
    obtain ⟨z,hz,rfl⟩:=List.mem_map.mp hy'
    have:=(p5 z hz).step st
    unfold putAt;split <;> exact this
  ·rw [storedH_new e2,c8 e1]
   refine build (by simp [p3]) ?_ ?_
   ·simp only [List.map_append,List.map_cons,List.map_nil]
    exact (p4.step st).snoc (hv.step st)
   ·intro y' hy'
    rcases List.mem_append.mp hy' with hy' | hy'
    ·exact (p5 y' hy').step st
    ·rw [List.mem_singleton.mp hy'];exact hx.step st
end
end Mini
namespace Mini
open PySem PySem.W
theorem bR1 {α:Type} {a:α} {C:Prop} (h:(none:Option α)=some a):C:=by cases h
section
variable {W:Wd} {own:List Addr} {A:Around} {fs:List Env} {s:Shared} {io:Io} {m:MH} {n:Nat}
inductive EqN (m:MH) (b:Bool):V->V->Prop
 | dict {p q e e':Nat} {ks ls:List (Ky×V)}:m[p]?=some (.dict ks e)->m[q]?=some (.dict ls e')->p≠q->ks.length=ls.length->aJ5 ks=true->aJ5 ls=true->aD6 m ls ks=some b->EqN m b (.ref p) (.ref q)
theorem cK0 {v x:V} {b:Bool} (h:eqN m v x=some b):EqN m b v x:=by
 cases v with
 | ref p=>
  cases x with
  | ref q=>
   have h:(match m[p]? with | some (.dict ks _)=>(match m[q]? with | some (.dict ls _)=>(if p≠q /\ ks.length=ls.length /\ (aJ5 ks&&aJ5 ls)=true then aD6 m ls ks else none) | _=>none) | _=>none)=some b:=h
   cases mp:m[p]? with
   | none=>rw [mp] at h;cases h
   | some o=>
   rw [mp] at h
   cases o with
   | dict ks ep=>
    cases mq:m[q]? with
    | none=>rw [mq] at h;cases h
    | some o'=>
    rw [mq] at h
    cases o' with
    | dict ls ep'=>
     have h:(if p≠q /\ ks.length=ls.length /\ (aJ5 ks&&aJ5 ls)=true then aD6 m ls ks else none)=some b:=h
     by_cases e:p≠q /\ ks.length=ls.length /\ (aJ5 ks&&aJ5 ls)=true
     ·rw [if_pos e] at h;exact .dict mp mq e.1 e.2.1 (Bool.and_eq_true_iff.mp e.2.2).1 (Bool.and_eq_true_iff.mp e.2.2).2 h
     ·rw [if_neg e] at h;cases h
    | _=>cases h
   | _=>cases h
  | _=>exact bR1 h
 | _=>exact bR1 h
theorem bH4 {ls:List (Ky×V)}:∀ {kb:List (Int×Value)},kb.map (fun p=>Ky.int p.1)=ls.map (·.1)->VRs W s.heap io (ls.map (·.2)) (kb.map (·.2))->∀ k:Int,
  (∃ v u,bP (.int k) ls=some v /\ valueAt kb k=some u /\ VR W s.heap io v u) \/ (bP (.int k) ls=none /\ valueAt kb k=none):=by
 induction ls with
 | nil=>intro kb e x k;cases kb with
  | nil=>exact .inr ⟨rfl,rfl⟩
  | cons y_ y_=>cases e
 | cons q r ih=>
  intro kb e x k
  cases kb with
  | nil=>cases e
  | cons q' r'=>
   rcases q with ⟨k1,v1⟩
   rcases q' with ⟨k2,u2⟩
   have e1:Ky.int k2=k1:=(List.cons.inj e).1
   subst e1
   rcases VRs.cc x with ⟨x1,x2⟩
   by_cases hk:k2=k
   ·subst hk
    exact .inl ⟨v1,u2,by simp [bP],by simp [valueAt],x1⟩
   ·have hk':¬ Ky.int k2=Ky.int k:=fun e=>hk (dC0 e)
    have a1:bP (.int k) ((Ky.int k2,v1)::r)=bP (.int k) r:=if_neg hk'
    have a2:valueAt ((k2,u2)::r') k=valueAt r' k:=by simp [valueAt,List.find?_cons,hk]
    rw [a1,a2]
    exact ih (List.cons.inj e).2 x2 k
theorem bU8 (H:HR W s.heap io m) (hu:A.units+eY < cLine) {ls:List (Ky×V)} {kb:List (Int×Value)} (e:kb.map (fun p=>Ky.int p.1)=ls.map (·.1)) (hv:VRs W s.heap io (ls.map (·.2)) (kb.map (·.2))) :
  ∀ {ks:List (Ky×V)} {ka:List (Int×Value)} {b:Bool},ka.map (fun p=>Ky.int p.1)=ks.map (·.1)->VRs W s.heap io (ks.map (·.2)) (ka.map (·.2))->aD6 m ls ks=some b->KeqHits A s kb ka b:=by
 intro ks
 induction ks with
 | nil=>intro ka b e1 x h;cases ka with
  | nil=>cases h;exact .nil
  | cons y_ y_=>cases e1
 | cons q r ih=>
  intro ka b e1 x h
  cases ka with
  | nil=>cases e1
  | cons q' r'=>
   rcases q with ⟨k1,v1⟩
   rcases q' with ⟨k2,u2⟩
   have e2:Ky.int k2=k1:=(List.cons.inj e1).1
   subst e2
   rcases VRs.cc x with ⟨x1,x2⟩
   have h:(match bP (.int k2) ls with | none=>some false | some u=>(match rd eY m v1 with | some x=>(match rd eY m u with | some y=>(match aD6 m ls r with | some b=>some (PyData.eqv x y&&b) | none=>none) | none=>none) | none=>none))=some b:=h
   rcases bH4 e hv k2 with ⟨v,u,l1,l2,l3⟩ | ⟨l1,l2⟩
   ·rw [l1] at h
    dsimp only at h
    cases h1:rd eY m v1 with
    | none=>rw [h1] at h;cases h
    | some d1=>
     cases h2:rd eY m v with
     | none=>rw [h1,h2] at h;cases h
     | some d2=>
      cases h3:aD6 m ls r with
      | none=>rw [h1,h2,h3] at h;cases h
      | some c=>
       rw [h1,h2,h3] at h;cases h
       rcases bW H _ _ _ _ h1 x1 with ⟨⟨as,r1⟩,c1,p1⟩
       rcases bW H _ _ _ _ h2 l3 with ⟨⟨bs,r2⟩,c2,p2⟩
       refine .hit l2 (SeqAt.eqAt_reads _ _ _ _ _ _ _ _ r1 r2 c1 c2 ?_) (ih (List.cons.inj e1).2 x2 h3)
       have:min d1.depth d2.depth <= eY:=Nat.le_trans (Nat.min_le_left _ _) p1
       lia
   ·rw [l1] at h;cases h;exact .miss l2
theorem bQ7 {p p':Program} {w w':World} {es:List DictEntry} {l:List (Int×Value)} (h:Pairs (intKind p w) es l):Pairs (intKind p' w') es l:=by
 induction h with
 | nil=>exact .nil
 | cons h1 h2 y_ ih=>exact .cons h1 h2 ih
theorem aL8 (H:HR W s.heap io m) {k:Nat} {p:Addr×Addr} {kvs:List (Ky×V)} {e:Nat} (hi:io[k]?=some p) (hm:m[k]?=some (.dict kvs e)) (hk:aJ5 kvs=true) :
  ∃ l:List (Int×Value),(∀ prog w,s.heap.DictOf (intKind prog w) p.1 l) /\ l.map (fun p=>Ky.int p.1)=kvs.map (·.1) /\ VRs W s.heap io (kvs.map (·.2)) (l.map (·.2)):=by
 rcases H.obj _ _ _ hi hm with ⟨y_,o,es,c,h1,h2,h3,h4,h5,h6⟩
 have hall:=e7 (i:=0) hk
 rcases h4.pairs intEmb hall with ⟨l,p1,p2,p3⟩
 have nd:(l.map (·.1)).Nodup:=by
  have q:((l.map (·.1)).map Ky.int).Nodup:=by rw [List.map_map];exact (show List.map (fun p=>Ky.int p.1) l=_ from p2)▸h5
  exact (List.pairwise_map.mp q).imp fun h e=>h (congrArg Ky.int e)
 exact ⟨l,fun prog w=>⟨o,es,c,h1,h2,h3,fun e he=>h4.keysOf intEmb hall e (Array.mem_toList_iff.mpr he),bQ7 p1,nd⟩,p2,p3⟩
structure EqAll (A:Around) (s:Shared) (u y:Value) (b:Bool):Prop where
 eq:SeqAt.RcAt A s u y b
 ne:SeqAt.RcNeAt A s u y (!b)
theorem cJ9 (ok:WOk W) (H:HR W s.heap io m) (hu:A.units+1+eY < cLine)
  {v x:V} {u y:Value} {b:Bool} (k:VR W s.heap io v u) (l:VR W s.heap io x y) (h:EqN m b v x):EqAll A s u y b:=by
 have hA:A.units < cLine:=Nat.lt_of_le_of_lt (Nat.le_trans (Nat.le_succ _) (Nat.le_add_right _ _)) hu
 cases h with
 | dict mp mq e hl i1 i2 z=>
  refine VR.dRef k fun a d hp=>?_
  refine VR.dRef l fun a' d' hq=>?_
  have n1:=H.notSys ok ⟨_,List.mem_of_getElem? hp,.inl rfl⟩
  have n2:=H.notSys ok ⟨_,List.mem_of_getElem? hq,.inl rfl⟩
  refine hide fun G_ g_=>?_
  rcases aL8 H hp mp i1 with ⟨ka,d1,d2,d3⟩
  rcases aL8 H hq mq i2 with ⟨kb,e1,e2,e3⟩
  have la:ka.length=_:=(List.length_map (fun p=>Ky.int p.1)).symm.trans ((congrArg List.length d2).trans (List.length_map _))
  have lb:kb.length=_:=(List.length_map (fun p=>Ky.int p.1)).symm.trans ((congrArg List.length e2).trans (List.length_map _))
  have hits:=bU8 (A:=A.in1) H hu e2 e3 d2 d3 z
  have zz:(ka.length == kb.length&&b)=b:=by rw [la,lb,hl,beq_self_eq_true,Bool.true_and]
  exact g_ ⟨fun prog w E Q hQ=>keq_eq n1 n2 (d1 prog w) (e1 prog w) hA (fun y_=>hits) (zz.symm▸hQ),fun prog w E Q hQ=>keq_ne n1 n2 (d1 prog w) (e1 prog w) hA (fun y_=>hits) (zz.symm▸hQ)⟩
theorem aV6 (v x:V):(∃ d e,rd eY m v=some d /\ rd eY m x=some e /\ eqV v x m=.ok (PyData.eqv d e) m) \/ (∃ c,eqN m v x=some c /\ eqV v x m=.ok c m) \/ eqV v x m=.bad:=by
 have e:eqV v x m=(match rd eY m v with | some a=>(match rd eY m x with | some c=>.ok (PyData.eqv a c) m | none=>.bad) | none=>(match eqN m v x with | some c=>.ok c m | none=>.bad)):=rfl
 rw [e]
 cases h1:rd eY m v with
 | none=>
  cases eqN m v x with
  | none=>exact .inr (.inr rfl)
  | some c=>exact .inr (.inl ⟨c,rfl,rfl⟩)
 | some d=>
  cases h2:rd eY m x with
  | none=>exact .inr (.inr rfl)
  | some e=>exact .inl ⟨d,e,rfl,rfl,rfl⟩
theorem dE3 (ok:WOk W) (H:HR W s.heap io m) (R:AR A fs n) {v x:V} {u y:Value} (k:VR W s.heap io v u) (l:VR W s.heap io x y) :
  Si W own A fs BV (compareOp .Eq u y) s io m (aI9 .Eq v x m):=by
 show Si W own A fs BV (compareOp .Eq u y) s io m (eqV v x m)
 have hc:=R.cline
 rcases aV6 (m:=m) v x with ⟨d,e,h1,h2,q⟩ | ⟨c,h1,q⟩ | q
 ·rw [q]
  rcases bW H _ _ _ _ h1 k with ⟨⟨as,r1⟩,c1,d1⟩
  rcases bW H _ _ _ _ h2 l with ⟨⟨bs,r2⟩,c2,d2⟩
  intro y_
  refine SeqAt.compareEq_reads r1 r2 c1 c2 ?_ ⟨_,m,io,rfl,.refl,H,rfl,.refl _⟩
  have h3:min d.depth e.depth <= 12:=Nat.le_trans (Nat.min_le_left _ _) d1
  lia
 ·rw [q]
  intro y_
  exact (cJ9 (A:=A) ok H (by show A.units+1+12 < cLine;lia) k l (cK0 h1)).eq _ _ _ _ ⟨_,m,io,rfl,.refl,H,rfl,.refl _⟩
 ·rw [q];exact Si.bad
theorem dB3 (ok:WOk W) (H:HR W s.heap io m) (R:AR A fs n) {v x:V} {u y:Value} (k:VR W s.heap io v u) (l:VR W s.heap io x y) :
  Si W own A fs BV (compareOp .NotEq u y) s io m (aI9 .NotEq v x m):=by
 show Si W own A fs BV (compareOp .NotEq u y) s io m ((eqV v x m).bind fun c=>ret (!c))
 have hc:=R.cline
 rcases aV6 (m:=m) v x with ⟨d,e,h1,h2,q⟩ | ⟨c,h1,q⟩ | q
 ·rw [q]
  rcases bW H _ _ _ _ h1 k with ⟨⟨as,r1⟩,c1,d1⟩
  rcases bW H _ _ _ _ h2 l with ⟨⟨bs,r2⟩,c2,d2⟩
  intro y_
  refine SeqAt.compareNe_reads r1 r2 c1 c2 ?_ ⟨_,m,io,rfl,.refl,H,rfl,.refl _⟩
  have h3:min d.depth e.depth <= 12:=Nat.le_trans (Nat.min_le_left _ _) d1
  lia
 ·rw [q]
  intro y_
  exact (cJ9 (A:=A) ok H (by show A.units+1+12 < cLine;lia) k l (cK0 h1)).ne _ _ _ _ ⟨_,m,io,rfl,.refl,H,rfl,.refl _⟩
 ·rw [q];exact Si.bad
end
end Mini
namespace Mini
open PySem
section
variable {W:Wd} {h h':Heap} {fs:List Env} {s s':Shared} {io io':Io} {m m':MH} {own fr:List Addr} {A:Around} {n:Nat}
theorem dB9 {a b:Int} (h:Ky.int a=Ky.int b):a=b:=dC0 h
theorem aM1 {j:Int} {v:V}:∀ {l:List (Int×Value)} {kvs:List (Ky×V)},l.map (fun p=>Ky.int p.1)=kvs.map (·.1)->VRs W h io (kvs.map (·.2)) (l.map (·.2))->(kvs.map (·.1)).Nodup->bP (.int j) kvs=some v ->
  ∃ u,valueAt l j=some u /\ VR W h io v u /\ (eX (.int j) kvs).map (·.1)=(without l j).map (fun p=>Ky.int p.1) /\ VRs W h io ((eX (.int j) kvs).map (·.2)) ((without l j).map (·.2))
 | [],[],_,_,_,q=>by cases q
 | [],_::_,e,_,_,_=>by cases e
 | _::_,[],e,_,_,_=>by cases e
 | (i,u)::l,(k,w)::kvs,e,x,nd,q=>by
  simp only [List.map_cons,List.cons.injEq] at e
  rcases e with ⟨e1,e2⟩
  subst e1
  simp only [List.map_cons] at x nd
  rcases VRs.cc x with ⟨x1,x2⟩
  ·
   rcases List.nodup_cons.mp nd with ⟨n1,n2⟩
   have q':(if Ky.int i=Ky.int j then some w else bP (.int j) kvs)=some v:=q
   have ed:eX (.int j) ((Ky.int i,w)::kvs)=if Ky.int i=Ky.int j then kvs else (Ky.int i,w)::eX (.int j) kvs:=rfl
   by_cases z:i=j
   ·subst z
    rw [if_pos rfl] at q' ed
    cases q'
    have nm:i∉l.map (·.1):=fun hmem=>n1 (by
     rw [<- e2,List.mem_map]
     rcases List.mem_map.mp hmem with ⟨p,hp,rfl⟩
     exact ⟨p,hp,rfl⟩)
    have ew:without ((i,u)::l) i=l:=by
     unfold without
     rw [List.filter_cons_of_neg (by simp)]
     exact without_of_not_mem l i nm
    rw [ed,ew]
    exact ⟨u,by unfold valueAt;rw [List.find?_cons_of_pos (by simp)];rfl,x1,e2.symm,x2⟩
   ·have z':¬ Ky.int i=Ky.int j:=fun c=>z (dB9 c)
    rw [if_neg z'] at q' ed
    rcases aM1 e2 x2 n2 q' with ⟨u',a1,a2,a3,a4⟩
    have ew:without ((i,u)::l) j=(i,u)::without l j:=by
     unfold without
     rw [List.filter_cons_of_pos (by simp [z])]
    rw [ed,ew]
    refine ⟨u',?_,a2,?_,?_⟩
    ·unfold valueAt at a1 ⊢
     rw [List.find?_cons_of_neg (by simp [z])];exact a1
    ·rw [List.map_cons,List.map_cons,a3]
    ·exact .cons x1 a4
theorem bF3 {k:Ky}:∀ {kvs:List (Ky×V)},(eX k kvs).Sublist kvs
 | []=>.slnil
 | (k',v')::r=>by
  show List.Sublist (if k'=k then r else (k',v')::eX k r) _
  by_cases z:k'=k
  ·rw [if_pos z];exact List.sublist_cons_self _ _
  ·rw [if_neg z];exact (bF3 (kvs:=r)).cons_cons _
theorem cA7 (H:HR W s.heap io m) {i:Nat} {p:Addr×Addr} {kvs:List (Ky×V)} {e:Nat} (hi:io[i]?=some p) (hm:m[i]?=some (.dict kvs e)) {j:Int} {t:Tok} {v:V} (hs:aJ (.int j) kvs=true) (hl:bP (.int j) kvs=some v) :
    Si W own A fs (VP W) (call (.builtin "dict.pop") [.ref p.1,.int j t]) s io m (.ok v (m.set i (.dict (eX (.int j) kvs) (e+1)))):=by
  obtain ⟨y_,o,es,n',g1,g2,g3,g4,g5,g6⟩:=H.obj _ _ _ hi hm
  intro y_
  have hh:=e7 hs
  obtain ⟨l,l1,l2,l3⟩:=g4.pairs intEmb hh
  have ll:l.length=kvs.length:=by have:=congrArg List.length l2;simpa using this
  rcases aM1 l2 l3 g5 hl with ⟨u,a1,a2,a3,a4⟩
  have nd:(l.map (·.1)).Nodup:=by
    refine List.Pairwise.of_map (S:=(·≠·)) Ky.int (fun a b h e=>h (congrArg Ky.int e)) ?_
    rw [List.map_map]
    exact (by rw [<- l2] at g5;exact g5)
  refine call_meetsIn PySem.F.slot_dict_pop ⟨_,g1,g2.1⟩ PySem.F.entry_dict_pop (PySem.F.args_dict_pop_2 _ _) (meets_dict_pop_there (knd:=intKind W.prog W.w) (d:=p.1) (k:=j) (key:=.int j t) (hkey:=intEmb.is (io:=io) (h:=s.heap) j _ (.int j t)) (rest:=[]) (hrest:=.inl rfl) (hpart:=rfl)) ⟨l,u,⟨o,es,n',g1,g2,g3,fun e he=>g4.keysOf intEmb hh e (Array.mem_toList_iff.mpr he),l1,nd⟩,aK (by lia),a1,fun h' hd hsb=>?_⟩
  obtain ⟨o',es',n2,d1,d2,d3,d4,d5,d6⟩:=hd
  have sub:=bF3 (k:=.int j) (kvs:=kvs)
  have hk:(((eX (.int j) kvs)).map (·.1)).Nodup:=g5.sublist (sub.map _)
  rcases aC2 (own:=own) (fr:=frs fs) (tk:=s.toks+1) H hi hm hsb d1 d2 d3 (fun st=>ERs.of_pairs intEmb (fun e he=>d4 e (Array.mem_toList_iff.mp he)) d5 a3 (a4.step st) fun k u y_ hi=>by
        obtain ⟨t,rfl⟩:=Value.isInt_shape (k:=k) (v:=u) hi;exact .int _ _) hk (Nat.le_trans sub.length_le g6) with ⟨y_,m2,io2,e2,st,H2,y_,sm⟩
  cases e2
  exact ⟨v,_,_,rfl,st,H2,a2.step st,sm⟩
theorem aZ7 (ok:WOk W) (H:HR W s.heap io m) {i:Nat} {p:Addr×Addr} {kvs:List (Ky×V)} {e:Nat} (hi:io[i]?=some p) (hm:m[i]?=some (.dict kvs e)) {j:Int} {t:Tok} {x:V} {y:Value} (hs:aJ (.int j) kvs=true) (kx:VR W s.heap io x y) :
  Si W own A fs (VP W) (call (.builtin "dict.get") [.ref p.1,.int j t,y]) s io m (.ok ((bP (.int j) kvs).getD x) m):=by
 obtain ⟨y_,o,es,n',g1,g2,g3,g4,g5,y_⟩:=H.obj _ _ _ hi hm
 intro y_
 have hh:=e7 hs
 refine call_meetsIn PySem.F.slot_dict_get ⟨_,g1,g2.1⟩ PySem.F.entry_dict_get (PySem.F.args_dict_get_3 _ _ _) (meets_dict_get_default (intKind W.prog W.w) p.1 (intEmb.is (io:=io) (h:=s.heap) j _ (.int j t)) (H.notSys ok ⟨p,List.mem_of_getElem? hi,.inl rfl⟩) y) ⟨_,g4.mapOf intEmb g1 g2 g3 hh,?_⟩
 rcases g4.findBy intEmb hh j with ⟨v,u',e1,e2,e3⟩ | ⟨e1,e2⟩
 ·rw [e2]
  exact ⟨v,m,io,by rw [show bP (.int j) kvs=some v from e1];rfl,.refl,H,e3,rfl,rfl⟩
 ·rw [e2]
  exact ⟨x,m,io,by rw [show bP (.int j) kvs=none from e1];rfl,.refl,H,kx,rfl,rfl⟩
end
end Mini
namespace Mini
open PySem
section
variable {W:Wd} {own:List Addr} {A:Around} {fs:List Env} {s:Shared} {io:Io} {m:MH} {n:Nat}
theorem Si.res0' {α β:Type} {P:Heap->Io->α->β->Prop} {t:Sem β} {R R':Res α} (e:R'=R) (x:Si W own A fs P t s io m R):Si W own A fs P t s io m R':=e▸x
theorem dD0 {v:V} {q:Nat} {o:Option MObj} (h:m[q]?=o):inV v (.ref q) m=(match (generalizing:=false) o with
  | some (.list ys)=>match fR (rd eY m) ys,rd eY m v with
   | some ds,some d=>.ok (ds.any fun e=>PyData.eqv e d) m
   | _,_=>.bad
  | some (.dict kvs _)=>match dN v with
   | some k=>if aJ k kvs then .ok (bP k kvs).isSome m else .bad
   | Option.none=>.bad
  | _=>.bad):=by subst h;rfl
theorem cH6 {t:Sem Value} {o1:Option (List PyData)} {o2:Option PyData} {f:List PyData->PyData->Res Bool} (h:∀ a b,o1=some a->o2=some b->Si W own A fs BV t s io m (f a b)):Si W own A fs BV t s io m (match (generalizing:=false) o1,o2 with | some a,some b=>f a b | _,_=>.bad):=by
 cases o1 with
 | none=>exact Si.bad
 | some a=>
  cases o2 with
  | none=>exact Si.bad
  | some b=>exact h a b rfl rfl
theorem cJ2 (ok:WOk W) (H:HR W s.heap io m) (R:AR A fs n) {v x:V} {u y:Value} (k:VR W s.heap io v u) (l:VR W s.heap io x y) :
  Si W own A fs BV (compareOp .In u y) s io m (inV v x m):=by
 have hc:=R.cline
 induction l using VR.elim with
 | @tup a vs c xs g1 g2=>
  refine cH6 (o1:=fR (rd eY m) xs) (o2:=rd eY m v) (f:=fun ds d=>.ok (ds.any fun e=>PyData.eqv e d) m) fun ds d h1 h2=>?_
  refine hide fun G_ g_=>?_
  rcases dC (bW H _) _ _ _ h1 g2 with ⟨⟨as,r1⟩,c1,d1⟩
  rcases bW H _ _ _ _ h2 k with ⟨⟨bs,r2⟩,c2,d2⟩
  refine g_ ?_
  clear g_ G_
  intro y_
  refine SeqAt.in_tuple_reads (.tuple g1 rfl rfl r1) r2 c1 c2 ?_ ⟨_,m,io,rfl,.refl,H,rfl,.refl _⟩
  have h3:min (PyData.depthAll ds) d.depth <= 12:=Nat.le_trans (Nat.min_le_left _ _) d1
  lia
 | @str x t okk=>
  induction k using VR.elim with
  | @str z t' okz=>
   show Si W own A fs BV _ s io m (match z.cps.toList with | [c]=>.ok (decide (c∈x.cps.toList)) m | _=>.bad)
   cases hz:z.cps.toList with
   | nil=>exact Si.bad
   | cons c r=>
    cases r with
    | cons d r=>exact Si.bad
    | nil=>
     have e:z=⟨#[c]⟩:=by
      rcases z with ⟨⟨z'⟩⟩
      have hz:z'=[c]:=hz
      subst hz;rfl
     subst e
     intro y_
     refine P.in_str ?_
     rw [StrLaws.found_one]
     exact ⟨_,m,io,rfl,.refl,H,rfl,.refl _⟩
  | _=>exact Si.bad
 | @ref q a d g1=>
  cases hy:m[q]? with
  | none=>rw [dD0 hy];exact Si.bad
  | some ob=>
   rw [dD0 hy]
   cases ob with
   | list ys=>
    obtain ⟨y_,vs,n',a1,a2,y_⟩:=H.obj _ _ _ g1 hy
    refine cH6 (o1:=fR (rd eY m) ys) (o2:=rd eY m v) (f:=fun ds d=>.ok (ds.any fun e=>PyData.eqv e d) m) fun ds d h1 h2=>?_
    refine hide fun G_ g_=>?_
    rcases dC (bW H _) _ _ _ h1 a2 with ⟨⟨as,r1⟩,c1,d1⟩
    rcases bW H _ _ _ _ h2 k with ⟨⟨bs,r2⟩,c2,d2⟩
    refine g_ ?_
    clear g_ G_
    intro y_
    refine SeqAt.in_list_reads (.list a1 rfl rfl r1) r2 c1 c2 ?_ ⟨_,m,io,rfl,.refl,H,rfl,.refl _⟩
    have h3:min (PyData.depthAll ds) d.depth <= 12:=Nat.le_trans (Nat.min_le_left _ _) d1
    lia
   | dict kvs e=>
    show Si W own A fs BV _ s io m (match dN v with | some k=>if aJ k kvs then .ok (bP k kvs).isSome m else .bad | Option.none=>.bad)
    cases hk:dN v with
    | none=>exact Si.bad
    | some ky=>
     by_cases hs:aJ ky kvs=true
     ·exact .res0' (if_pos hs) fun y_=>cS7 ok H R g1 hy k hk hs fun tk=>⟨_,m,io,rfl,.refl,H,rfl,rfl,rfl⟩
     ·exact .res0' (if_neg hs) Si.bad
   | _=>exact Si.bad
 | _=>exact Si.bad
theorem aO1 {v x:V} {u y:Value} {t:Sem Value} {f:Int->Int->Bool} (k:VR W s.heap io v u) (l:VR W s.heap io x y) (h:∀ i j a b,u=.int i a->y=.int j b->Si W own A fs BV t s io m (.ok (f i j) m)):Si W own A fs BV t s io m ((match v,x with | .int i,.int j=>ret (f i j) | _,_=>bad) m):=by
 induction k using VR.elim with
 | int i a=>
  induction l using VR.elim with
  | int j b=>exact h i j a b rfl rfl
  | _=>exact Si.bad
 | _=>exact Si.bad
theorem aQ4 (ok:WOk W) (H:HR W s.heap io m) (R:AR A fs n) {op:CmpOp} {v x:V} {u y:Value} (k:VR W s.heap io v u) (l:VR W s.heap io x y) :
  Si W own A fs BV (compareOp op u y) s io m (aI9 op v x m):=by
 cases op with
 | Eq=>exact dE3 ok H R k l
 | NotEq=>exact dB3 ok H R k l
 | In=>exact cJ2 ok H R k l
 | NotIn=>exact (cJ2 ok H R k l).not fun y_ y_ h=>aY7 h
 | Is=>exact Si.bad
 | IsNot=>exact Si.bad
 | Lt=>exact aO1 k l fun i j a b e1 e2=>by subst e1 e2;exact fun y_=>P.lt_int ⟨_,m,io,rfl,.refl,H,rfl,rfl,rfl⟩
 | LtE=>exact aO1 k l fun i j a b e1 e2=>by subst e1 e2;exact fun y_=>P.le_int ⟨_,m,io,rfl,.refl,H,rfl,rfl,rfl⟩
 | Gt=>exact aO1 k l fun i j a b e1 e2=>by subst e1 e2;exact fun y_=>P.gt_int ⟨_,m,io,rfl,.refl,H,rfl,rfl,rfl⟩
 | GtE=>exact aO1 k l fun i j a b e1 e2=>by subst e1 e2;exact fun y_=>P.ge_int ⟨_,m,io,rfl,.refl,H,rfl,rfl,rfl⟩
theorem dC3 {k:Int} (h:k.natAbs < 2 ^ 60):k < 2 ^ 63:=Int.lt_of_le_of_lt Int.le_natAbs (Int.lt_trans (Int.ofNat_lt.mpr h) (by decide))
theorem ix_lo {k:Int} (h:k.natAbs < 2 ^ 60):-(2 ^ 63) <= k:=by
 have:=dC3 (k:=-k) (by rw [Int.natAbs_neg];exact h)
 exact Int.neg_le_of_neg_le (Int.le_of_lt this)
theorem ix_str {k:Int} (h:k.natAbs < 2 ^ 60):(decide (k < -(2 ^ 63:Int))||decide (k ≥ 2 ^ 63))=false:=by
 rw [decide_eq_false (Int.not_lt.mpr (ix_lo h)),decide_eq_false (Int.not_le.mpr (dC3 h))];rfl
set_option tactic.hygienic true in
theorem cL2 {α:Type} {xs:List α} {i:Int} {v:α} (h:at_ xs i=some v):∃ k,seqIndex? i xs.length=some k /\ xs[k]?=some v:=by
 unfold at_ at h
 unfold seqIndex?
 split at h
 ·rename_i h0
  have hlt:=(List.getElem?_eq_some_iff.mp h).1
  refine ⟨i.toNat,?_,h⟩
  simp only [show ¬ i < 0 by lia,if_false]
  rw [if_pos]
  simp only [Bool.and_eq_true,decide_eq_true_eq];lia
 ·split at h
  ·rename_i h0 h1
   have hlt:=(List.getElem?_eq_some_iff.mp h).1
   refine ⟨(i+xs.length).toNat,?_,h⟩
   simp only [show i < 0 by lia,if_true]
   rw [if_pos]
   simp only [Bool.and_eq_true,decide_eq_true_eq];lia
  ·cases h
set_option tactic.hygienic true in
theorem aY0 (slice:Expr) (o i:Value):∃ ops,subscripted slice false o i=operate ops (getItem o i):=by
 cases slice <;> first | (exact ⟨_,rfl⟩) | skip
 rename_i st _
 cases st <;> exact ⟨_,rfl⟩
theorem aB9 {value slice:Expr} {u y:Value} {T id:String} {α:Type} {P:Heap->Io->α->Value->Prop} {R:Res α} (x:Si W own A fs P (getItem u y) s io m R) (hT:s.TypeIs u T) (hl:typeLookup (.type T) "__getitem__"=pure (some (.builtin id))) :
  Si W own A fs P (PyProof.Rows.subscriptTail value slice u y) s io m R:=by
 intro hne
 rcases aY0 slice u y with ⟨ops,e⟩
 exact PyProof.Rows.tail_any hT hl (x hne) e
theorem VRs.get_arr {h:Heap} {xs:List V} {vs:Array Value} (x:VRs W h io xs vs.toList) {k:Nat} {v:V} (hk:xs[k]?=some v):∃ u,vs[k]?=some u /\ VR W h io v u:=by
 obtain ⟨u,e,r⟩:=x.get hk
 exact ⟨u,by rw [<- Array.getElem?_toList];exact e,r⟩
theorem VRs.size {h:Heap} {xs:List V} {vs:Array Value} (x:VRs W h io xs vs.toList):vs.size=xs.length:=by
 have:=x.length;rw [Array.length_toList] at this;exact this
theorem aR4 {x:Str} {c k:Nat} (ok:PyData.strOk x=true) (h:x.cps[k]?=some c):PyData.strOk ⟨#[c]⟩=true:=by
 unfold PyData.strOk at *
 have:=Array.all_eq_true.mp ok k (Array.getElem?_eq_some_iff.mp h).1
 rw [(Array.getElem?_eq_some_iff.mp h).2] at this
 simpa using this
theorem cJ3 {x:V} {q:Nat} {o:Option MObj} (h:m[q]?=o):aQ9 (.ref q) x m=(match (generalizing:=false) o with
  | some (.list xs)=>match x with
   | .int k=>if k.natAbs < 2 ^ 60 then ofO (at_ xs k) m else .bad
   | _=>.bad
  | some (.dict kvs _)=>match dN x with
   | some k=>if aJ k kvs then ofO (bP k kvs) m else .bad
   | Option.none=>.bad
  | _=>.bad):=by subst h;rfl
theorem bP2 {α β:Type} {P:Heap->Io->α->β->Prop} {t:Sem β} {c:Prop} [Decidable c] {R:Res α} (h:c->Si W own A fs P t s io m R):Si W own A fs P t s io m (if c then R else .bad):=by
 by_cases q:c
 ·rw [if_pos q];exact h q
 ·rw [if_neg q];exact Si.bad
theorem cA1 {α β:Type} {P:Heap->Io->α->β->Prop} {t:Sem β} {o:Option α} (h:∀ a,o=some a->Si W own A fs P t s io m (.ok a m)):Si W own A fs P t s io m (ofO o m):=by
 cases o with
 | none=>exact Si.bad
 | some a=>exact h a rfl
set_option tactic.hygienic true in
theorem cS9 (H:HR W s.heap io m) (R:AR A fs n) {value slice:Expr} {v x:V} {u y:Value} (k:VR W s.heap io v u) (l:VR W s.heap io x y) :
  Si W own A fs (VP W) (PyProof.Rows.subscriptTail value slice u y) s io m (aQ9 v x m):=by
 induction k using VR.elim with
 | @tup a vs n' xs g1 g2=>
  induction l using VR.elim with
  | int k t=>
   refine bP2 fun hk=>cA1 fun z q=>?_
   refine hide fun G_ g_=>?_
   rcases cL2 q with ⟨j,e1,e2⟩
   rcases g2.get_arr e2 with ⟨z',f1,f2⟩
   refine g_ ?_
   clear g_ G_
   refine aB9 (T:="tuple") (fun y_=>P.getItem_tuple g1 (by lia) (by lia) (by rw [g2.size];exact e1) f1 (bI (tk:=s.toks) H f2)) ⟨_,g1,rfl⟩ F.slot_tuple_getitem.lookup
  | _=>exact Si.bad
 | str z t okz=>
  induction l using VR.elim with
  | int k t=>
   refine bP2 fun hk=>?_
   cases q:at_ z.cps.toList k with
   | none=>exact Si.bad
   | some c=>
    obtain ⟨j,e1,e2⟩:=cL2 q
    rw [Array.getElem?_toList] at e2
    refine aB9 (T:="str") (fun y_=>P.getItem_str (c:=c) (by simp;lia) ?_ (bI H (.str _ _ (aR4 okz e2)))) rfl F.slot_str_getitem.lookup
    rw [Array.length_toList] at e1
    show (seqIndex? k z.cps.size).bind _=_
    rw [e1];exact e2
  | _=>exact Si.bad
 | @ref p a d g1=>
  cases hx:m[p]? with
  | none=>rw [cJ3 hx];exact Si.bad
  | some ob=>
   rw [cJ3 hx]
   cases ob with
   | list xs=>
    obtain ⟨y_,vs,n',a1,a2,a3⟩:=H.obj _ _ _ g1 hx
    induction l using VR.elim with
    | int k t=>
     refine bP2 fun hk=>cA1 fun z q=>?_
     refine aB9 (T:="list") (fun y_=>?_) ⟨_,a1,rfl⟩ slot_list_getitem.lookup
     unfold at_ at q
     split at q
     ·rename_i h0
      obtain ⟨z',f1,f2⟩:=a2.get_arr q
      exact wpAny_getItem_list ⟨_,a1,rfl,_,rfl⟩ h0 (by lia) f1 (bI (tk:=s.toks) H f2)
     ·split at q
      ·rename_i h0 h1
       obtain ⟨z',f1,f2⟩:=a2.get_arr q
       exact wpAny_getItem_list_neg ⟨_,a1,rfl,_,rfl⟩ (by lia) (by rw [a2.size];lia) (by lia) (by rw [a2.size];exact f1) (bI (tk:=s.toks) H f2)
      ·cases q
    | _=>exact Si.bad
   | dict kvs e=>
    obtain ⟨y_,o,es,n',a1,a2,a3,y_⟩:=H.obj _ _ _ g1 hx
    show Si W own A fs (VP W) _ s io m (match dN x with | some k=>if aJ k kvs then ofO (bP k kvs) m else .bad | Option.none=>.bad)
    cases hk:dN x with
    | none=>exact Si.bad
    | some ky=>exact bP2 fun hs=>cA1 fun z q=>aB9 (T:="dict") (fun y_=>cE0 H R g1 hx l hk hs q fun u' tk hu=>bI H hu) ⟨_,a1,a2.1⟩ slot_dict_getitem.lookup
   | _=>exact Si.bad
 | @scr ns l' o vs n' h1 h2 h3 h4 h5=>
  induction l using VR.elim with
  | int k t=>
   refine bP2 fun hk=>cA1 fun z q=>?_
   have q':(ns.map V.int)[k.toNat]?=some z:=by rw [List.getElem?_map];exact q
   obtain ⟨z',f1,f2⟩:=(h4.vrs (W:=W) (h:=s.heap) (io:=io)).get_arr q'
   have hlt:k.toNat < ns.length:=by have:=(List.getElem?_eq_some_iff.mp q').1;simpa using this
   refine aB9 (T:="list") (fun y_=>wpAny_getItem_list ⟨_,H.keep _ _ h1,h2,_,h3⟩ hk (by rw [aT6] at h5;lia) f1 (bI (tk:=s.toks) H f2)) ⟨_,H.keep _ _ h1,h2⟩ slot_list_getitem.lookup
  | _=>exact Si.bad
 | _=>exact Si.bad
end
end Mini
namespace Mini
open PySem
theorem bU9 {h l n:Nat} (e:h - l=n) (k:h <= n):l=0 /\ h=n \/ n=0:=by lia
theorem bD1 {α:Type} (xs:List α) (a:Nat):∀ c,(List.range c).filterMap (fun k=>xs[a+k]?)=(xs.drop a).take c:=by
 intro c
 induction c with
 | zero=>simp
 | succ c ih=>
  rw [List.range_succ,List.filterMap_append,ih,List.take_add_one]
  congr 1
  rw [List.getElem?_drop,List.filterMap_cons,List.filterMap_nil]
  cases xs[a+c]? <;> rfl
theorem bP6 {α:Type} (xs:List α) {a b:Nat} (hb:b <= xs.length):(List.range (b - a)).filterMap (fun k=>xs[a+k]?)=(xs.take b).drop a:=by
 rw [bD1,List.drop_take]
noncomputable def cI8 (n:Nat) (lo:Option Int):Nat:=match lo with | some i=>eE n i | Option.none=>0
noncomputable def aU2 (n:Nat) (hi:Option Int):Nat:=match hi with | some i=>eE n i | Option.none=>n
theorem aB6 {α:Type} (xs:List α) (lo hi:Option Int):cut xs lo hi=(xs.take (aU2 xs.length hi)).drop (cI8 xs.length lo):=rfl
theorem aP5 (n:Nat) (hi:Option Int):aU2 n hi <= n:=by
 cases hi with
 | none=>exact Nat.le_refl _
 | some i=>
  show eE n i <= n
  unfold eE
  by_cases h:0 <= i
  ·rw [if_pos h];exact Nat.min_le_right _ _
  ·rw [if_neg h]
   exact Int.toNat_le.mpr (Int.add_le_of_le_sub_right (by rw [Int.sub_self];exact Int.le_of_lt (Int.not_le.mp h)))
theorem cV0 (n:Nat) (i:Int):(max 0 (min (if i < 0 then i+n else i) (n:Int)))=(eE n i:Int):=by
 unfold eE
 by_cases h:0 <= i
 ·rw [if_neg (Int.not_lt.mpr h),if_pos h]
  rcases Int.le_total i (n:Int) with z | z
  ·rw [Int.min_eq_left z,Int.max_eq_right h,Nat.min_eq_left (Int.toNat_le.mpr z),Int.toNat_of_nonneg h]
  ·rw [Int.min_eq_right z,Int.max_eq_right (Int.natCast_nonneg n),Nat.min_eq_right ((Int.le_toNat h).mpr z)]
 ·have h':i < 0:=Int.not_le.mp h
  rw [if_pos h',if_neg h,Int.min_eq_left (Int.le_of_lt (by have:=Int.add_lt_add_right h' (n:Int);rwa [Int.zero_add] at this)),Int.toNat_eq_max,Int.max_comm]
theorem aW2 (lo hi:Option Int) (n:Nat):sliceBounds lo hi none n=((cI8 n lo:Int),(aU2 n hi:Int),1):=by
 unfold sliceBounds cI8 aU2
 cases lo <;> cases hi <;> simp [cV0]
theorem aR8 (a b:Nat):sliceRange (a:Int) (b:Int) 1=(List.range (b - a)).map fun k=>a+k:=by
 unfold sliceRange
 have e:(if (1:Int) > 0 then (if (a:Int) < b then ((b:Int) - a+1 - 1) / 1 else 0) else (if (a:Int) > b then ((a:Int) - b - 1 - 1) / (-1) else 0)).toNat=b - a:=by
  rw [if_pos (by decide)]
  by_cases h:(a:Int) < b
  ·rw [if_pos h,Int.ediv_one,Int.add_sub_cancel];exact Int.toNat_sub b a
  ·rw [if_neg h];exact (Nat.sub_eq_zero_of_le (Int.ofNat_le.mp (Int.not_lt.mp h))).symm
 simp only [e]
 refine List.map_congr_left fun k y_=>by lia
theorem aO4 (items:Array Value) (lo hi:Option Int):(slicePick items lo hi none).toList=cut items.toList lo hi:=by
 unfold slicePick
 rw [aW2,aB6]
 simp only [aR8,List.filterMap_map]
 rw [Array.length_toList]
 rw [<- bP6 items.toList (b:=aU2 items.size hi) (a:=cI8 items.size lo) (by rw [Array.length_toList];exact aP5 _ _)]
 congr 1
 funext k
 simp only [Function.comp,Array.getElem?_toList]
theorem cB0 (items:Array Value):(slicePick items none none (some 1)).toList=items.toList:=by
 have:slicePick items none none (some 1)=slicePick items none none none:=rfl
 rw [this,aO4,aB6]
 show (items.toList.take items.toList.length).drop 0=_
 rw [List.drop_zero,List.take_length]
theorem cA9 (items:Array Value):(slicePick items none none (some (-1))).toList=items.toList.reverse:=by
 unfold slicePick
 have e:sliceRange ((items.size:Int) - 1) (-1) (-1)=(List.range items.size).map fun (k:Nat)=>((items.size:Int) - 1+-1 * (k:Int)).toNat:=by
  unfold sliceRange
  have:(if (-1:Int) > 0 then (if (items.size:Int) - 1 < -1 then (-1 - ((items.size:Int) - 1)+-1 - 1) / -1 else 0) else (if (items.size:Int) - 1 > -1 then ((items.size:Int) - 1 - -1 - -1 - 1) / (- -1) else 0)).toNat=items.size:=by
   simp only [show ¬ (-1:Int) > 0 by decide,if_false,Int.neg_neg,Int.ediv_one]
   split <;> lia
  simp only [this]
 show (List.filterMap (fun x=>items[x]?) (sliceRange ((items.size:Int) - 1) (-1) (-1)))=_
 rw [e,List.filterMap_map]
 rcases items with ⟨xs⟩
 simp only [List.size_toArray]
 have key:∀ (xs:List Value),(List.range xs.length).filterMap (fun (k:Nat)=>xs[((xs.length:Int) - 1+-1 * (k:Int)).toNat]?)=xs.reverse:=by
  intro xs
  have h1:(List.range xs.length).filterMap (fun (k:Nat)=>xs[((xs.length:Int) - 1+-1 * (k:Int)).toNat]?)=(List.range xs.length).filterMap (fun k=>xs.reverse[0+k]?):=by
   have:∀ k∈List.range xs.length,xs[((xs.length:Int) - 1+-1 * (k:Int)).toNat]?=xs.reverse[0+k]?:=fun k hk=>by
    have hk:=List.mem_range.mp hk
    rw [List.getElem?_reverse (by lia)]
    congr 1;lia
   have cg:∀ (l:List Nat) (f g:Nat->Option Value),(∀ k∈l,f k=g k)->l.filterMap f=l.filterMap g:=by
    intro l f g
    induction l with
    | nil=>intro _;rfl
    | cons a l ih=>
     intro h
     rw [List.filterMap_cons,List.filterMap_cons,h a (.head _),ih fun k hk=>h k (.tail _ hk)]
   exact cg _ _ _ this
  rw [h1,bD1,List.drop_zero,<- List.length_reverse,List.take_length]
 refine Eq.trans (congrArg (fun f=>List.filterMap f (List.range xs.length)) ?_) (key xs)
 funext k
 simp only [Function.comp,List.getElem?_toArray]
set_option tactic.hygienic true in
theorem cO1 (x:Str) (t:Tok) (l u:Option (Int×Tok)) {Q:Value->Shared->Prop} {s:Shared} (h:∀ t' tk,Q (.str ⟨(cut x.cps.toList (l.map (·.1)) (u.map (·.1))).toArray⟩ t') { s with toks:=tk }) (hsz:x.length <= sizeLine):(sliceMade x t l u none).post Q s:=by
 have e1:slicePicked x l u none=(List.range (aU2 x.length (u.map (·.1)) - cI8 x.length (l.map (·.1)))).map fun k=>cI8 x.length (l.map (·.1))+k:=by
  unfold slicePicked
  have:Builtin.Str.strSliceIndices (l.map (·.1)) (u.map (·.1)) ((Option.map (·.1) (none:Option (Int×Tok))).getD 1) x.length=sliceRange (sliceBounds (l.map (·.1)) (u.map (·.1)) none x.length).1 (sliceBounds (l.map (·.1)) (u.map (·.1)) none x.length).2.1 1:=by
   cases l <;> cases u <;> rfl
  rw [this,aW2]
  exact aR8 _ _
 have e2:(slicePicked x l u none).filterMap (x.cps[·]?)=cut x.cps.toList (l.map (·.1)) (u.map (·.1)):=by
  rw [e1,List.filterMap_map,aB6,Array.length_toList]
  rw [<- bP6 x.cps.toList (b:=aU2 x.cps.size (u.map (·.1))) (a:=cI8 x.cps.size (l.map (·.1))) (by rw [Array.length_toList];exact aP5 _ _)]
  refine congrArg (fun f=>List.filterMap f _) ?_
  funext k
  simp only [Function.comp,Array.getElem?_toList]
  rfl
 unfold sliceMade
 split
 ·rename_i hc
  have hlen:(slicePicked x l u none).length=x.length:=by simpa using hc
  have:cut x.cps.toList (l.map (·.1)) (u.map (·.1))=x.cps.toList:=by
   rw [aB6,Array.length_toList]
   rw [e1] at hlen
   simp only [List.length_map,List.length_range] at hlen
   have h1:=aP5 x.length (u.map (·.1))
   have h2:cI8 x.cps.size (l.map (·.1))=0 /\ aU2 x.cps.size (u.map (·.1))=x.cps.size \/ x.cps.size=0:=by
    exact bU9 hlen h1
   rcases h2 with ⟨h2,h3⟩ | h2
   ·rw [h2,h3,<- Array.length_toList,List.drop_zero,List.take_length]
   ·have:x.cps.toList=[]:=List.eq_nil_of_length_eq_zero (by rw [Array.length_toList];exact h2)
    rw [this];simp
  have h':=h t s.toks
  rw [this] at h'
  exact h'
 ·rw [e2]
  refine ⟨?_,h _ _⟩
  show (cut x.cps.toList (l.map (·.1)) (u.map (·.1))).toArray.size <= sizeLine
  rw [List.size_toArray,aB6,List.length_drop,List.length_take,Array.length_toList]
  exact Nat.le_trans (Nat.sub_le _ _) (Nat.le_trans (Nat.min_le_right _ _) hsz)
section
variable {W:Wd} {own:List Addr} {A:Around} {fs:List Env} {s:Shared} {io:Io} {m:MH} {n:Nat}
theorem VRs.cut {h:Heap} {xs:List V} {vs:List Value} (x:VRs W h io xs vs) (lo hi:Option Int):VRs W h io (Mini.cut xs lo hi) (Mini.cut vs lo hi):=by
 rw [aB6,aB6,x.length];exact (x.take _).drop _
theorem aM2 {α:Type} (xs:List α) (lo hi:Option Int):(Mini.cut xs lo hi).length <= xs.length:=by
 rw [aB6,List.length_drop,List.length_take];exact Nat.le_trans (Nat.sub_le _ _) (Nat.min_le_right _ _)
theorem bN8 {x:Str} (ok:PyData.strOk x=true) (lo hi:Option Int):PyData.strOk ⟨(Mini.cut x.cps.toList lo hi).toArray⟩=true:=by
 unfold PyData.strOk at *
 rw [List.all_toArray,List.all_eq_true]
 intro c hc
 rw [aB6] at hc
 have:=List.mem_of_mem_take (List.mem_of_mem_drop hc)
 exact Array.all_eq_true_iff_forall_mem.mp ok c (Array.mem_toList_iff.mp this)
theorem aG8 {v:V} {u:Value} {o:Option Int} (k:VR W s.heap io v u) (h:aC8 v=some o):IsPart u o:=by
 induction k using VR.elim with
 | none=>cases h;exact .none
 | int i t=>
  by_cases q:i.natAbs < 2 ^ 60
  ·have h:some (some i)=some o:=(if_pos q).symm.trans h
   cases h;exact .int _ _
  ·exact nomatch (show Option.none=some o from (if_neg q).symm.trans h)
 | _=>cases h
theorem aC0 {value slice:Expr} {u y:Value} {T id:String} {α:Type} {P:Heap->Io->α->Value->Prop} {R:Res α} (hT:s.TypeIs u T) (hl:typeLookup (.type T) "__getitem__"=pure (some (.builtin id)))
  (x:wpAny (model W.prog W.w) A (getItem u y) (NP W own (frs fs) s io m P R) NX s):Si W own A fs P (PyProof.Rows.subscriptTail value slice u y) s io m R:=aB9 (fun y_=>x) hT hl
theorem aS6 {v:V} {u:Value} {o:Option Int} (k:VR W s.heap io v u) (h:aC8 v=some o):∃ q:Option (Int×Tok),u=partValue q /\ q.map (·.1)=o:=by
 cases aG8 k h with
 | none=>exact ⟨none,rfl,rfl⟩
 | int i t=>exact ⟨some (i,t),rfl,rfl⟩
theorem aF7 {α:Type} {xs l:List α} {lo hi st:V} (h:cX xs lo hi st=some l) :
  (st=.none /\ ∃ a b,aC8 lo=some a /\ aC8 hi=some b /\ l=Mini.cut xs a b) \/ (∃ k,st=.int k /\ lo=.none /\ hi=.none /\ ((k=1 /\ l=xs) \/ (k=-1 /\ l=xs.reverse))):=by
 cases st with
 | none=>
  have h:(match aC8 lo,aC8 hi with | some a,some b=>some (Mini.cut xs a b) | _,_=>Option.none)=some l:=h
  cases h1:aC8 lo with
  | none=>rw [h1] at h;cases h
  | some a=>
   cases h2:aC8 hi with
   | none=>rw [h1,h2] at h;cases h
   | some b=>rw [h1,h2] at h;cases h;exact .inl ⟨rfl,a,b,rfl,rfl,rfl⟩
 | int k=>
  refine .inr ⟨k,rfl,?_⟩
  have key:lo=.none->hi=.none->lo=.none /\ hi=.none /\ ((k=1 /\ l=xs) \/ (k=-1 /\ l=xs.reverse)):=fun e1 e2=>by
   subst e1 e2
   have h:(if k=1 then some xs else if k=-1 then some xs.reverse else Option.none)=some l:=h
   refine ⟨rfl,rfl,?_⟩
   by_cases q1:k=1
   ·rw [if_pos q1] at h;cases h;exact .inl ⟨q1,rfl⟩
   ·rw [if_neg q1] at h
    by_cases q2:k=-1
    ·rw [if_pos q2] at h;cases h;exact .inr ⟨q2,rfl⟩
    ·rw [if_neg q2] at h;cases h
  cases lo with
  | none=>
   cases hi with
   | none=>exact key rfl rfl
   | _=>cases h
  | _=>cases h
 | _=>cases h
theorem aF8 {α:Type} {xs l:List α} {lo hi:V} (h:cX xs lo hi .none=some l):∃ a b,aC8 lo=some a /\ aC8 hi=some b /\ l=Mini.cut xs a b:=by
 rcases aF7 h with ⟨_,r⟩ | ⟨k,q,_⟩
 ·exact r
 ·cases q
set_option tactic.hygienic true in
theorem bP0 (H:HR W s.heap io m) {value slice:Expr} {v lo hi st:V} {u ul uh us:Value} {sl:Addr} (k:VR W s.heap io v u) (kl:VR W s.heap io lo ul) (kh:VR W s.heap io hi uh) (ks:VR W s.heap io st us) (hs:s.heap.IsSliceOf sl ul uh us) :
  Si W own A fs (VP W) (PyProof.Rows.subscriptTail value slice u (.ref sl)) s io m (dT v lo hi st m):=by
 unfold dT
 split
 ·rename_i z
  refine VR.dStr k fun t okz=>?_
  split
  ·cases ks
   split
   ·rename_i hl
    cases q:cX z.cps.toList lo hi .none with
    | none=>exact Si.bad
    | some l=>
     refine hide fun G_ g_=>?_
     rcases aF8 q with ⟨a,b,h1,h2,rfl⟩
     rcases aS6 kl h1 with ⟨ql,rfl,rfl⟩
     rcases aS6 kh h2 with ⟨qh,rfl,rfl⟩
     refine g_ ?_
     clear g_ G_
     refine aC0 (T:="str") rfl F.slot_str_getitem.lookup ?_
     obtain ⟨o,ho,hc,hd⟩:=hs
     refine wpAny_getItem_str_slice (l:=ql) (u:=qh) (st:=none) ⟨o,ho,hc,hd⟩ (by decide) ?_
     exact cO1 z t ql qh (fun t' tk=>bI H (.str _ _ (bN8 okz _ _))) (aK hl)
   ·exact Si.bad
  ·exact Si.bad
 ·refine VR.dRef k fun y_ y_ g1=>?_
  split
  ·rename_i xs hx
   obtain ⟨y_,vs,n',a1,a2,a3⟩:=H.obj _ _ _ g1 hx
   have ll:=a2.size
   cases q:cX xs lo hi st with
   | none=>exact Si.bad
   | some l=>
    refine aC0 (T:="list") ⟨_,a1,rfl⟩ slot_list_getitem.lookup ?_
    rcases aF7 q with ⟨rfl,a,b,h1,h2,rfl⟩ | ⟨j,rfl,rfl,rfl,⟨rfl,rfl⟩ | ⟨rfl,rfl⟩⟩
    ·cases ks
     refine wpAny_getItem_list_slice ⟨_,a1,rfl,_,rfl⟩ hs (aG8 kl h1) (aG8 kh h2) .none (by simp) (aC3 H ?_ ?_) (aK (by lia))
     ·rw [aO4];exact a2.cut _ _
     ·exact Nat.le_trans (aM2 _ _ _) a3
    ·rcases ks with ⟨y_,rfl⟩;cases kl;cases kh
     refine wpAny_getItem_list_slice ⟨_,a1,rfl,_,rfl⟩ hs .none .none (.int _ _) (by simp) (aC3 H ?_ a3) (aK (by lia))
     rw [cB0];exact a2
    ·rcases ks with ⟨y_,rfl⟩;cases kl;cases kh
     refine wpAny_getItem_list_slice ⟨_,a1,rfl,_,rfl⟩ hs .none .none (.int _ _) (by simp) (aC3 H ?_ (by simpa using a3)) (aK (by lia))
     rw [cA9];exact a2.reverse
  ·exact Si.bad
 ·rename_i ns
  refine VR.dScr k fun l' o vs n' h1 h2 h3 h4 h5=>?_
  split
  ·cases ks
   cases q:cX (ns.map V.int) lo hi .none with
   | none=>exact Si.bad
   | some l=>
    obtain ⟨a,b,e1,e2,rfl⟩:=aF8 q
    have ll:vs.size=ns.length:=by have:=h4.length;rw [Array.length_toList] at this;exact this
    refine aC0 (T:="list") ⟨_,H.keep _ _ h1,h2⟩ slot_list_getitem.lookup ?_
    refine wpAny_getItem_list_slice ⟨_,H.keep _ _ h1,h2,_,h3⟩ hs (aG8 kl e1) (aG8 kh e2) .none (by simp) (aC3 H ?_ ?_) (aK (by lia))
    ·rw [aO4];exact h4.vrs.cut _ _
    ·exact Nat.le_trans (aM2 _ _ _) (by simpa using h5)
  ·exact Si.bad
 ·exact Si.bad
end
end Mini
namespace Mini
open PySem PySem.W
structure Sit (W:Wd) (fs:List Env) (env:Env) (vis:List (Option Str)) (s:Shared) (io:Io) (m:MH) (r:Lo):Prop where
 H:HR W s.heap io m
 F:FR W s.heap io env vis r
 G:FF W s.heap io fs
section
variable {W:Wd} {fs:List Env} {env:Env} {vis:List (Option Str)} {s s':Shared} {io io':Io} {m m':MH} {r:Lo} {fr:List Addr} {A:Around} {n:Nat}
theorem Sit.step (Z:Sit W fs env vis s io m r) (H:HR W s'.heap io' m') (st:Step [] fr s.heap io m s'.heap io' m'):Sit W fs env vis s' io' m' r:=⟨H,Z.F.step0 Z.H st,Z.G.step0 st⟩
noncomputable def SiE (W:Wd) (A:Around) (fs:List Env) (env:Env) (vis:List (Option Str)) (t:Sem Value) (c:Lo->Mn V):Prop:=
 ∀ (s:Shared) (io:Io) (m:MH) (r:Lo),Sit W fs env vis s io m r->Si W [] A fs (VP W) t s io m (c r m)
noncomputable def SiB (W:Wd) (A:Around) (fs:List Env) (env:Env) (vis:List (Option Str)) (t:Sem Bool) (c:Lo->Mn Bool):Prop:=
 ∀ (s:Shared) (io:Io) (m:MH) (r:Lo),Sit W fs env vis s io m r->Si W [] A fs BP t s io m (c r m)
noncomputable def SiL (W:Wd) (A:Around) (fs:List Env) (env:Env) (vis:List (Option Str)) (t:Sem (List Value)) (c:Lo->Mn (List V)):Prop:=
 ∀ (s:Shared) (io:Io) (m:MH) (r:Lo),Sit W fs env vis s io m r->Si W [] A fs (VsP W) t s io m (c r m)
variable {a b c:Expr} {pos:Pos} {ca cb cc:Lo->Mn V}
theorem cU3 {v:Lt} {k:Const} {j:Nat} (h:(match v,k with | .none,.none=>true | .bool b,.bool d=>b == d | .int i,.int j=>i == j | .str x,.str y=>x == y&&PyData.strOk x | _,_=>false)=true):SiE W A fs env vis (eval (.Constant k j pos) env) (fun y_=>ret v.val):=by
 intro s io m r Z
 cases v <;> cases k <;> first | (exact absurd h Bool.false_ne_true) | skip
 ·exact fun y_=>wpAny_Constant_none (bI (tk:=s.toks) Z.H .none)
 ·rw [beq_iff_eq.mp h]
  exact fun y_=>wpAny_Constant_bool (bI (tk:=s.toks) Z.H (.bool _))
 ·rw [beq_iff_eq.mp h]
  exact fun y_=>wpAny_Constant_int (bI Z.H (.int _ _))
 ·simp only [Bool.and_eq_true,beq_iff_eq] at h
  rw [<- h.1]
  exact fun y_=>wpAny_Constant_str (bI Z.H (.str _ _ h.2))
theorem e_var {i:Nat} {x:Str} (hv:vis[i]?=some (some x)) (hk:env.kindOf x=some .local \/ env.kindOf x=some .cell \/ env.kindOf x=some .free) (hd:(x == ("__debug__":Str))=false) (hc:(x == ("__classdict__":Str))=false) :
    SiE W A fs env vis (eval (.Name x pos) env) (fun r=>match r[i]? with | some (some v)=>ret v | _=>bad):=by
  intro s io m r Z
  have key:∀ o:Option (Option V),r[i]?=o->Si W [] A fs (VP W) (eval (.Name x pos) env) s io m ((match o with | some (some v)=>ret v | _=>bad:Mn V) m):=by
   intro o hr
   match o,hr with
   | none,_=>exact .bad
   | some none,_=>exact .bad
   | some (some v),hr=>
    intro y_
    refine wpAny_Name ?_ hd
    rcases hk with hk | hk | hk
    · refine hide fun G_ g_=>?_
      rcases Z.F.loc with ⟨mp,hn,hl⟩
      rcases hl i x v hv hr hk with ⟨u,e,k⟩
      refine g_ ?_
      clear g_ G_
      exact wpAny_loadName_local Z.F.kind hk hn e (bI (tk:=s.toks) Z.H k)
    · obtain ⟨c,u,e,k1,k2⟩:=Z.F.cel i x v hv hr (.inl hk)
      exact wpAny_loadName_cell Z.F.kind hk e k1 (bI (tk:=s.toks) Z.H k2)
    · obtain ⟨c,u,e,k1,k2⟩:=Z.F.cel i x v hv hr (.inr hk)
      exact wpAny_loadName_free Z.F.kind hk e k1 (bI (tk:=s.toks) Z.H k2) hc
  exact key _ rfl
theorem e_bin {op:Operator} (ha:SiE W A fs env vis (eval a env) ca) (hb:SiE W A fs env vis (eval b env) cb) :
  SiE W A fs env vis (eval (.BinOp a op b pos) env) (fun r=>bnd (ca r) fun x=>bnd (cb r) fun y=>bK4 op x y):=by
 intro s io m r Z
 rw [eval_BinOp]
 refine Si.bind (ha s io m r Z) fun u s₁ io₁ m₁ v y_ st H₁ k sm=>?_
 refine Si.bind (Si.holding (hb _ _ _ r (Z.step H₁ st))) fun u' s₂ io₂ m₂ v' y_ st₂ H₂ k₂ sm₂=>?_
 exact .standAt (.operate (cV3 H₂ (VR.step st₂ k) k₂))
theorem e_not (ha:SiE W A fs env vis (eval a env) ca):SiE W A fs env vis (eval (.UnaryOp .Not a pos) env) (fun r=>bnd (ca r) fun x=>bnd (fB x) fun b=>ret (.bool (!b))):=by
 intro s io m r Z
 rw [arm_eval_UnaryOp]
 refine Si.bind (ha s io m r Z) fun u s₁ io₁ m₁ v y_ st H₁ k sm=>.standAt (.holding ?_)
 refine Si.holding (t:=truthy u >>= fun b=>Pure.pure (Value.bool (!b))) ?_
 refine Si.bind (aF2 H₁ k) fun b s₂ io₂ m₂ b' y_ y_ H₂ k₂ y_=>?_
 cases k₂
 exact .pure H₂ (.bool _)
theorem e_idx (R:AR A fs n) (ha:SiE W A fs env vis (eval a env) ca) (hb:SiE W A fs env vis (eval b env) cb) :
  SiE W A fs env vis (eval (.Subscript a b pos) env) (fun r=>bnd (ca r) fun x=>bnd (cb r) fun y=>aQ9 x y):=by
 intro s io m r Z
 rw [arm_eval_Subscript]
 refine Si.bind (ha s io m r Z) fun u s₁ io₁ m₁ v y_ st H₁ k sm=>?_
 refine Si.bind (Si.holding (hb _ _ _ r (Z.step H₁ st))) fun u' s₂ io₂ m₂ v' y_ st₂ H₂ k₂ sm₂=>?_
 exact .standAt (cS9 H₂ R (VR.step st₂ k) k₂)
theorem bV {α β γ:Type} (x:Mn α) (f:α->Mn β) (g:β->Mn γ):bnd (bnd x f) g=bnd x fun a=>bnd (f a) g:=by
 funext m
 show ((x m).bind f).bind g=(x m).bind fun a m=>(f a m).bind g
 cases x m <;> rfl
theorem l_nil:SiL W A fs env vis (spliced (backTo pos (starEach [] env))) (fun y_=>ret []):=fun y_ y_ y_ y_ Z=>.pure Z.H .nil
theorem dB8 {rest:List Expr} {cl:Lo->Mn (List V)} (ha:SiE W A fs env vis (eval a env) ca) (hl:SiL W A fs env vis (spliced (backTo pos (starEach rest env))) cl) (he:starEach (a::rest) env=(false,eval a env)::starEach rest env) :
  SiL W A fs env vis (spliced (backTo pos (starEach (a::rest) env))) (fun r=>bnd (ca r) fun x=>bnd (cl r) fun xs=>ret (x::xs)):=by
 intro s io m r Z
 rw [he]
 show Si W [] A fs (VsP W) (eval a env >>= fun v=>(PySem.holding [v] (spliced (backTo pos (starEach rest env)))) >>= fun vs=>Pure.pure (v::vs)) s io m _
 refine Si.bind (ha s io m r Z) fun u s₁ io₁ m₁ v y_ st H₁ k sm=>?_
 refine Si.bind (Si.holding (hl _ _ _ r (Z.step H₁ st))) fun u' s₂ io₂ m₂ v' y_ st₂ H₂ k₂ sm₂=>?_
 exact .pure H₂ (.cons (VR.step st₂ k) k₂)
theorem e_tup {es:List Expr} {j:Nat} {cl:Lo->Mn (List V)} (hl:SiL W A fs env vis (spliced (backTo pos (starEach es env))) cl) (hn:∀ r m vs m',cl r m=.ok vs m'->vs.length <= lid):SiE W A fs env vis (eval (.Tuple es j pos) env) (fun r=>bnd (cl r) fun vs=>ret (.tup vs)):=by
 intro s io m r Z
 rw [arm_eval_Tuple]
 refine .standAt (Si.bind (hl s io m r Z) fun u s₁ io₁ m₁ v e st H₁ k sm=>?_)
 exact fun y_=>wpAny_newTuple (dB0 (tk:=s₁.toks) H₁ k) (by have:=hn _ _ _ _ e;rw [<- k.length] at this;exact aK this)
theorem dE6 {es:List Expr} {cl:Lo->Mn (List V)} (hl:SiL W A fs env vis (spliced (backTo pos (starEach es env))) cl) (hn:∀ r m vs m',cl r m=.ok vs m'->vs.length <= lid):SiE W A fs env vis (eval (.List es pos) env) (fun r=>bnd (cl r) fun vs=>alloc (.list vs)):=by
 intro s io m r Z
 rw [arm_eval_List]
 refine .standAt (Si.bind (hl s io m r Z) fun u s₁ io₁ m₁ v e st H₁ k sm=>?_)
 exact fun y_=>wpAny_newList (aC3 (tk:=s₁.toks) H₁ k (hn _ _ _ _ e)) (by have:=hn _ _ _ _ e;rw [<- k.length] at this;exact aK this)
theorem b_one {op:BoolOp} (ha:SiE W A fs env vis (eval a env) ca):SiE W A fs env vis (boolOp pos op (evalEach [a] env)) ca:=ha
theorem dG3 {op:BoolOp} {c:Bool} {rest:List Expr} {cb:Lo->Mn V} (hop:(op=.And /\ c=true) \/ (op=.Or /\ c=false)) (ha:SiE W A fs env vis (eval a env) ca) (hb:SiE W A fs env vis (boolOp pos op (evalEach (b::rest) env)) cb) :
  SiE W A fs env vis (boolOp pos op (evalEach (a::b::rest) env)) (fun r=>bnd (ca r) fun x=>bnd (fB x) fun t=>if t == c then cb r else ret x):=by
 intro s io m r Z
 rcases hop with ⟨rfl,rfl⟩ | ⟨rfl,rfl⟩ <;>
 refine Si.bind (ha s io m r Z) fun u s₁ io₁ m₁ v y_ st H₁ k sm=>.standAt ?_ <;>
 refine Si.bind (Si.holding (aF2 H₁ k)) fun t s₂ io₂ m₂ t' y_ st₂ H₂ k₂ sm₂=>?_ <;>
 cases k₂ <;> cases t'
 ·exact .pure H₂ (VR.step st₂ k)
 ·exact hb _ _ _ r ((Z.step H₁ st).step H₂ st₂)
 ·exact hb _ _ _ r ((Z.step H₁ st).step H₂ st₂)
 ·exact .pure H₂ (VR.step st₂ k)
noncomputable def SiC (W:Wd) (A:Around) (fs:List Env) (env:Env) (vis:List (Option Str)) (t:Value->Sem Value) (c:V->Lo->Mn V):Prop:=
 ∀ (s:Shared) (io:Io) (m:MH) (r:Lo) (x:V) (u:Value),Sit W fs env vis s io m r->VR W s.heap io x u->Si W [] A fs (VP W) (t u) s io m (c x r m)
noncomputable def dG7 (W:Wd) (A:Around) (fs:List Env) (env:Env) (vis:List (Option Str)) (t:Value->Sem Bool) (c:V->Lo->Mn V):Prop:=
 ∀ (s:Shared) (io:Io) (m:MH) (r:Lo) (x:V) (u:Value),Sit W fs env vis s io m r->VR W s.heap io x u->Si W [] A fs BP (t u) s io m (bnd (c x r) fB m)
theorem aL7 {op:CmpOp} (hb:behindInMarks op b=false):markedEach [op] [b] (evalEach [b] env)=[eval b env]:=by
 show [markedBehindIn op b (eval b env)]=_
 rw [markedBehindIn_of_false hb]
theorem c_one (ok:WOk W) (R:AR A fs n) {op:CmpOp} (hm:behindInMarks op b=false) (hb:SiE W A fs env vis (eval b env) cb) :
  SiC W A fs env vis (fun u=>compareChain pos u [op] (markedEach [op] [b] (evalEach [b] env))) (fun x r=>bnd (cb r) fun y=>bnd (aI9 op x y) fun c=>ret (.bool c)):=by
 intro s io m r x u Z k
 show Si W [] A fs (VP W) (compareChain pos u [op] (markedEach [op] [b] (evalEach [b] env))) s io m _
 rw [aL7 hm]
 refine Si.bind (Si.holding (hb _ _ _ r Z)) fun u' s₂ io₂ m₂ v' y_ st₂ H₂ k₂ sm₂=>.standAt (.operate ?_)
 have:=aQ4 (own:=[]) ok H₂ R (op:=op) (VR.step st₂ k) k₂
 intro hne
 refine wpAny_mono (this (Res.bind_ne hne)) (fun u s' p=>?_) fun y_ y_ p=>p
 obtain ⟨v,m',io',e,a1,a2,a3,a4⟩:=p
 cases a3
 exact ⟨.bool v,m',io',by show (aI9 op x v' m₂).bind _=_;rw [e];rfl,a1,a2,.bool v,a4⟩
theorem dF7 (ok:WOk W) (R:AR A fs n) {op:CmpOp} {op':CmpOp} {ops:List CmpOp} {b':Expr} {rest:List Expr} {cc:V->Lo->Mn V} (hb:SiE W A fs env vis (eval b env) cb)
  (hc:SiC W A fs env vis (fun u=>compareChain pos u (op'::ops) (markedEach (op'::ops) (b'::rest) (evalEach (b'::rest) env))) cc) :
  SiC W A fs env vis (fun u=>compareChain pos u (op::op'::ops) (markedEach (op::op'::ops) (b::b'::rest) (evalEach (b::b'::rest) env))) (fun x r=>bnd (cb r) fun y=>bnd (aI9 op x y) fun c=>if c then cc y r else ret (.bool false)):=by
 intro s io m r x u Z k
 show Si W [] A fs (VP W) (PySem.holding [u] (eval b env) >>= fun rv=>PySem.standAt pos >>= fun y_=>PySem.holding [u,rv] (compareOp op u rv) >>= fun c=>release [u,rv] [c] >>= fun y_=>PySem.holding [c,rv] (truthy c) >>= fun t=>if t then compareChain pos rv (op'::ops) (markedEach (op'::ops) (b'::rest) (evalEach (b'::rest) env)) else Pure.pure c) s io m _
 refine Si.bind (Si.holding (hb _ _ _ r Z)) fun u' s₂ io₂ m₂ v' y_ st₂ H₂ k₂ sm₂=>.standAt ?_
 refine Si.bind (Si.holding (aQ4 ok H₂ R (VR.step st₂ k) k₂)) fun u₃ s₃ io₃ m₃ v₃ y_ st₃ H₃ k₃ sm₃=>?_
 cases k₃
 have:Si W [] A fs (VP W) (PySem.holding [.bool v₃,u'] (truthy (.bool v₃)) >>= fun t=>if t then compareChain pos u' (op'::ops) (markedEach (op'::ops) (b'::rest) (evalEach (b'::rest) env)) else Pure.pure (.bool v₃)) s₃ io₃ m₃ ((if v₃ then cc v' r else ret (.bool false)) m₃):=by
  intro hne
  refine wpAny_bind (wpAny_holding (wpAny_truthy_bool ?_))
  cases v₃
  ·exact Si.pure (own:=[]) (A:=A) (fs:=fs) H₃ (.bool false) hne
  ·exact hc _ _ _ r v' u' ((Z.step H₂ st₂).step H₃ st₃) (VR.step st₃ k₂) hne
 exact fun hne=>wpAny_bind (wpAny_release (this hne))
theorem t_one (ok:WOk W) (R:AR A fs n) {op:CmpOp} (hm:behindInMarks op b=false) (hb:SiE W A fs env vis (eval b env) cb) :
  dG7 W A fs env vis (fun u=>testChain pos u [op] (markedEach [op] [b] (evalEach [b] env))) (fun x r=>bnd (cb r) fun y=>bnd (aI9 op x y) fun c=>ret (.bool c)):=by
 intro s io m r x u Z k
 show Si W [] A fs BP (testChain pos u [op] (markedEach [op] [b] (evalEach [b] env))) s io m _
 rw [aL7 hm,bV]
 refine Si.bind (Si.holding (hb _ _ _ r Z)) fun u' s₂ io₂ m₂ v' y_ st₂ H₂ k₂ sm₂=>.standAt ?_
 rw [bV]
 refine Si.bind (Si.operate (aQ4 ok H₂ R (VR.step st₂ k) k₂)) fun u₃ s₃ io₃ m₃ v₃ y_ st₃ H₃ k₃ sm₃=>.holding ?_
 cases k₃
 exact fun y_=>wpAny_truthy_bool ⟨v₃,m₃,io₃,rfl,.refl,H₃,rfl,.refl _⟩
theorem cY7 (ok:WOk W) (R:AR A fs n) {op:CmpOp} {op':CmpOp} {ops:List CmpOp} {b':Expr} {rest:List Expr} {cc:V->Lo->Mn V} (hb:SiE W A fs env vis (eval b env) cb)
  (hc:dG7 W A fs env vis (fun u=>testChain pos u (op'::ops) (markedEach (op'::ops) (b'::rest) (evalEach (b'::rest) env))) cc) :
  dG7 W A fs env vis (fun u=>testChain pos u (op::op'::ops) (markedEach (op::op'::ops) (b::b'::rest) (evalEach (b::b'::rest) env))) (fun x r=>bnd (cb r) fun y=>bnd (aI9 op x y) fun c=>if c then cc y r else ret (.bool false)):=by
 intro s io m r x u Z k
 show Si W [] A fs BP (PySem.holding [u] (eval b env) >>= fun rv=>PySem.standAt pos >>= fun y_=>PySem.holding [u,rv] (compareOp op u rv) >>= fun c=>release [u,rv] [c] >>= fun y_=>PySem.holding [c,rv] (truthy c) >>= fun t=>if t then testChain pos rv (op'::ops) (markedEach (op'::ops) (b'::rest) (evalEach (b'::rest) env)) else Pure.pure false) s io m _
 rw [bV]
 refine Si.bind (Si.holding (hb _ _ _ r Z)) fun u' s₂ io₂ m₂ v' y_ st₂ H₂ k₂ sm₂=>.standAt ?_
 rw [bV]
 refine Si.bind (Si.holding (aQ4 ok H₂ R (VR.step st₂ k) k₂)) fun u₃ s₃ io₃ m₃ v₃ y_ st₃ H₃ k₃ sm₃=>?_
 cases k₃
 have:Si W [] A fs BP (PySem.holding [.bool v₃,u'] (truthy (.bool v₃)) >>= fun t=>if t then testChain pos u' (op'::ops) (markedEach (op'::ops) (b'::rest) (evalEach (b'::rest) env)) else Pure.pure false) s₃ io₃ m₃ (bnd (if v₃ then cc v' r else ret (.bool false)) fB m₃):=by
  intro hne
  refine wpAny_bind (wpAny_holding (wpAny_truthy_bool ?_))
  cases v₃
  ·exact Si.pure (own:=[]) (A:=A) (fs:=fs) (v:=false) H₃ rfl hne
  ·exact hc _ _ _ r v' u' ((Z.step H₂ st₂).step H₃ st₃) (VR.step st₃ k₂) hne
 exact fun hne=>wpAny_bind (wpAny_release (this hne))
theorem e_cmp {ops:List CmpOp} {bs:List Expr} {cc:V->Lo->Mn V} (ha:SiE W A fs env vis (eval a env) ca) (hc:SiC W A fs env vis (fun u=>compareChain pos u ops (markedEach ops bs (evalEach bs env))) cc) :
  SiE W A fs env vis (eval (.Compare a ops bs pos) env) (fun r=>bnd (ca r) fun x=>cc x r):=by
 intro s io m r Z
 rw [arm_eval_Compare]
 exact Si.bind (ha s io m r Z) fun u s₁ io₁ m₁ v y_ st H₁ k sm=>hc _ _ _ r v u (Z.step H₁ st) k
theorem t_cmp {ops:List CmpOp} {bs:List Expr} {cc:V->Lo->Mn V} {whole:Sem Value} (ha:SiE W A fs env vis (eval a env) ca) (hc:dG7 W A fs env vis (fun u=>testChain pos u ops (markedEach ops bs (evalEach bs env))) cc) :
  SiB W A fs env vis (isTrue (.Compare a ops bs pos) env whole) (fun r=>bnd (bnd (ca r) fun x=>cc x r) fB):=by
 intro s io m r Z
 show Si W [] A fs BP _ s io m (bnd (bnd (ca r) fun x=>cc x r) fB m)
 rw [bV]
 show Si W [] A fs BP (eval a env >>= fun u=>testChain pos u ops (markedEach ops bs (evalEach bs env))) s io m _
 exact Si.bind (ha s io m r Z) fun u s₁ io₁ m₁ v y_ st H₁ k sm=>hc _ _ _ r v u (Z.step H₁ st) k
theorem t_val (ha:SiE W A fs env vis (eval a env) ca) (hs:isTrue a env (eval a env)=(do let v <- eval a env;PySem.standAt a.pos;PySem.holding [v] (truthy v))):SiB W A fs env vis (isTrue a env (eval a env)) (fun r=>bnd (ca r) fB):=by
 intro s io m r Z
 rw [hs]
 exact Si.bind (ha s io m r Z) fun u s₁ io₁ m₁ v y_ st H₁ k sm=>.standAt (.holding (aF2 H₁ k))
theorem t_not {ct:Lo->Mn Bool} {whole:Sem Value} (ha:SiB W A fs env vis (isTrue a env (eval a env)) ct):SiB W A fs env vis (isTrue (.UnaryOp .Not a pos) env whole) (fun r=>bnd (ct r) fun b=>ret (!b)):=by
 intro s io m r Z
 show Si W [] A fs BP (isTrue a env (eval a env) >>= fun b=>Pure.pure (!b)) s io m _
 refine Si.bind (ha s io m r Z) fun u s₁ io₁ m₁ v y_ st H₁ k sm=>?_
 cases k
 exact .pure H₁ rfl
theorem t_nil {op:BoolOp} {c:Bool} (hop:(op=.And /\ c=true) \/ (op=.Or /\ c=false)):SiB W A fs env vis (allTrue op [] env) (fun y_=>ret c):=by
 intro s io m r Z
 rcases hop with ⟨rfl,rfl⟩ | ⟨rfl,rfl⟩
 ·exact .pure (u:=true) Z.H rfl
 ·exact .pure (u:=false) Z.H rfl
theorem cY8 {op:BoolOp} {c:Bool} {rest:List Expr} {ct cts:Lo->Mn Bool} (hop:(op=.And /\ c=true) \/ (op=.Or /\ c=false)) (ha:SiB W A fs env vis (isTrue a env (eval a env)) ct) (hb:SiB W A fs env vis (allTrue op rest env) cts) :
  SiB W A fs env vis (allTrue op (a::rest) env) (fun r=>bnd (ct r) fun b=>if b == c then cts r else ret b):=by
 intro s io m r Z
 rcases hop with ⟨rfl,rfl⟩ | ⟨rfl,rfl⟩ <;>
 refine Si.bind (ha s io m r Z) fun t s₁ io₁ m₁ v y_ st H₁ k sm=>?_ <;>
 cases k <;> cases v
 ·exact .pure H₁ rfl
 ·exact hb _ _ _ r (Z.step H₁ st)
 ·exact hb _ _ _ r (Z.step H₁ st)
 ·exact .pure H₁ rfl
theorem t_all {op:BoolOp} {es:List Expr} {whole:Sem Value} {ct:Lo->Mn Bool} (h:SiB W A fs env vis (allTrue op es env) ct):SiB W A fs env vis (isTrue (.BoolOp op es pos) env whole) ct:=h
noncomputable def SiO (W:Wd) (A:Around) (fs:List Env) (env:Env) (vis:List (Option Str)) (o:Option Expr) (c:Lo->Mn V):Prop:=SiE W A fs env vis (valueOrNone (evalOpt o env)) c
theorem dA8:SiO W A fs env vis none (fun y_=>ret .none):=fun y_ y_ y_ y_ Z=>.pure Z.H .none
theorem dA7 (ha:SiE W A fs env vis (eval a env) ca):SiO W A fs env vis (some a) ca:=ha
noncomputable def SlP (W:Wd) (h:Heap) (io:Io) (p:V×V×V) (u:Value):Prop:=∃ sl ul uh us,u=.ref sl /\ h.IsSliceOf sl ul uh us /\ VR W h io p.1 ul /\ VR W h io p.2.1 uh /\ VR W h io p.2.2 us
theorem cF5 {lo hi st:Option Expr} {cl ch cs:Lo->Mn V} (hl:SiO W A fs env vis lo cl) (hh:SiO W A fs env vis hi ch) (hs:SiO W A fs env vis st cs) (Z:Sit W fs env vis s io m r) :
  Si W [] A fs (SlP W) (eval (.Slice lo hi st pos) env) s io m (bnd (cl r) (fun l=>bnd (ch r) fun h=>bnd (cs r) fun t=>ret (l,h,t)) m):=by
 rw [arm_eval_Slice]
 refine Si.bind (hl _ _ _ r Z) fun ul s₁ io₁ m₁ vl y_ st₁ H₁ k₁ y_=>?_
 have Z₁:=Z.step H₁ st₁
 refine Si.bind (Si.holding (hh _ _ _ r Z₁)) fun uh s₂ io₂ m₂ vh y_ st₂ H₂ k₂ y_=>?_
 have Z₂:=Z₁.step H₂ st₂
 refine Si.bind (Si.holding (hs _ _ _ r Z₂)) fun us s₃ io₃ m₃ vs y_ st₃ H₃ k₃ y_=>?_
 have st4:Step [] (frs fs) s₃.heap io₃ m₃ (s₃.heap.push { cls:=.type "slice",data:=.fields #[ul,uh,us] }) io₃ m₃:=.of_keeps H₃ (aL _)
 exact fun y_=>wpAny_mono (Q:=fun v s'=>v=.ref s₃.heap.objs.size /\ s'={ s₃ with heap:=s₃.heap.push { cls:=.type "slice",data:=.fields #[ul,uh,us] } }) (fun y_ y_ y_=>⟨rfl,rfl⟩) (fun v s' q=>by
  rcases q with ⟨rfl,rfl⟩
  exact ⟨_,m₃,io₃,rfl,st4,H₃.of_keeps (aL _),⟨_,ul,uh,us,rfl,.new _ _ _ _,((VR.step st₂ k₁).step st₃).step st4,(VR.step st₃ k₂).step st4,VR.step st4 k₃⟩,.refl _⟩) fun y_ y_ q=>q
theorem cU1 {lo hi st:Option Expr} {cl ch cs:Lo->Mn V} {pos':Pos} (ha:SiE W A fs env vis (eval a env) ca) (hl:SiO W A fs env vis lo cl) (hh:SiO W A fs env vis hi ch) (hs:SiO W A fs env vis st cs) :
  SiE W A fs env vis (eval (.Subscript a (.Slice lo hi st pos') pos) env) (fun r=>bnd (ca r) fun x=>bnd (cl r) fun l=>bnd (ch r) fun h=>bnd (cs r) fun t=>dT x l h t):=by
 intro s io m r Z
 rw [arm_eval_Subscript]
 refine Si.bind (ha s io m r Z) fun u s₁ io₁ m₁ v y_ st₁ H₁ k₁ y_=>?_
 have e:(bnd (cl r) fun l=>bnd (ch r) fun h=>bnd (cs r) fun t=>dT v l h t)=bnd (bnd (cl r) fun l=>bnd (ch r) fun h=>bnd (cs r) fun t=>ret (l,h,t)) fun p=>dT v p.1 p.2.1 p.2.2:=by
  simp only [bV];rfl
 rw [e]
 refine Si.bind (Si.holding (cF5 hl hh hs (Z.step H₁ st₁))) fun u' s₂ io₂ m₂ p y_ st₂ H₂ k₂ sm₂=>.standAt ?_
 obtain ⟨sl,ul,uh,us,rfl,q1,q2,q3,q4⟩:=k₂
 exact bP0 H₂ (VR.step st₂ k₁) q2 q3 q4 q1
end
end Mini
namespace Mini
open PySem PySem.W
structure Gl (W:Wd) (K:Frag):Prop where
 ok:WOk W
 X:K.In W.base
 top:∃ mg mb,W.base.Ns mainGlobals mg /\ W.base.Ns builtinsNs mb /\ (∀ x:Str,x≠"__name__"->mb x=bootBuiltins x) /\ ∃ pp loose,TopRead pp loose mg mb W.base
section
variable {W:Wd} {K:Frag} {fs:List Env} {env:Env} {vis:List (Option Str)} {s s':Shared} {io io':Io} {m m':MH} {r:Lo} {fr:List Addr} {A:Around} {n:Nat} {pos p:Pos}
theorem HR.get (H:HR W s.heap io m) (gl:Gl W K) {a:Addr} {o:Obj} (h:K.lookup a=some o):s.heap.get? a=some o:=H.keep _ _ (gl.X _ _ h)
theorem bR4 {x:Str} {v:Value} {Q:Value->Shared->Prop} {E:Value->Shared->Prop} {M:Model} (gl:Gl W K) (Z:Sit W fs env vis s io m r) (e:nsIn K mainGlobals x=some (some v)) (hx:env.kindOf x=some .globalImplicit) (hd:(x == ("__debug__":Str))=false) (h:Q v s):wpAny M A (eval (.Name x p) env) Q E s:=by
 obtain ⟨mg,mb,g,b,y_⟩:=gl.top
 refine Calls.Name_function_global Z.F.kind hx (Calls.loadGlobal_global (mg:=mg) ?_ (mg_of gl.X g e) h) hd
 rw [Z.F.glob];exact g.keeps Z.H.keep
theorem aD3 {x:Str} {v:Value} {Q:Value->Shared->Prop} {E:Value->Shared->Prop} {M:Model} (gl:Gl W K) (Z:Sit W fs env vis s io m r) (e:nsIn K mainGlobals x=some none) (hv:bootBuiltins x=some v) (hn:(x == ("__name__":Str))=false) (hx:env.kindOf x=some .globalImplicit) (hd:(x == ("__debug__":Str))=false) (h:Q v s):wpAny M A (eval (.Name x p) env) Q E s:=by
 obtain ⟨mg,mb,g,b,hb,y_⟩:=gl.top
 have hn':x≠"__name__":=fun q=>by rw [q] at hn;simp at hn
 refine Calls.Name_function_global Z.F.kind hx (Calls.loadGlobal_builtin (mg:=mg) (mb:=mb) ?_ (mg_none_of gl.X g e) ?_ (by rw [hb x hn',hv]) h) hd
 ·rw [Z.F.glob];exact g.keeps Z.H.keep
 ·rw [Z.F.blt];exact b.keeps Z.H.keep
noncomputable def cR8:Expr->Bool
 | .Starred _ _=>true
 | _=>false
noncomputable def aR:List Expr->Bool
 | []=>true
 | e::r=>!cR8 e&&aR r
theorem eM {e:Expr} {rest:List Expr} (h:aR (e::rest)=true):starEach (e::rest) env=(false,eval e env)::starEach rest env:=by
 cases e <;> first | rfl | (exact absurd h Bool.false_ne_true)
theorem fQ {e:Expr} {rest:List Expr} (h:aR (e::rest)=true):aR rest=true:=by
 cases e <;> first | exact h | (exact absurd h Bool.false_ne_true)
theorem dK {es:List Expr} (h:aR es=true):(backTo pos (starEach es env)).any (·.1)=false:=by
 induction es with
 | nil=>rfl
 | cons e rest ih=>rw [eM h];exact ih (fQ h)
theorem dE {M:Model} {E:Value->Shared->Prop} {f:Value} {es:List Expr} {Q:Args->Shared->Prop} (hs:aR es=true) (h:wpAny M A (spliced (backTo pos (starEach es env))) (fun vs s'=>Q ⟨vs,[]⟩ s') E s) :
  wpAny M A (evalArgs f true (backTo pos (starEach es env)) []) Q E s:=by
 cases es with
 | nil=>
  unfold evalArgs
  show wpAny M A (spliced [] >>= _) Q E s
  refine wpAny_bind (wpAny_mono (show wpAny M A (spliced []) (fun vs s'=>Q ⟨vs,[]⟩ s') E s from h) (fun vs s' q=>?_) fun y_ y_ x=>x)
  refine wpAny_bind (wpAny_pure ?_)
  refine wpAny_holding ?_
  exact wpAny_bind (wpAny_pure (wpAny_bind (wpAny_pure (wpAny_pure q))))
 | cons e rest=>
  rw [eM hs] at h ⊢
  exact Calls.evalArgs_plain h
variable {es:List Expr} {cl:Lo->Mn (List V)} {Fk:List V->Mn V}
noncomputable def SiF (W:Wd) (A:Around) (fs:List Env) (f:Value) (Fk:List V->Mn V):Prop:=
 ∀ (s:Shared) (io:Io) (m:MH) (vs:List V) (us:List Value),HR W s.heap io m->FF W s.heap io fs->VRs W s.heap io vs us->Si W [] A fs (VP W) (call f us) s io m (Fk vs m)
noncomputable def SiK (W:Wd) (A:Around) (fs:List Env) (f:Value) (Fk:List V->Mn V):Prop:=
 ∀ (s:Shared) (io:Io) (m:MH) (vs:List V) (us:List Value),HR W s.heap io m->FF W s.heap io fs->VRs W s.heap io vs us->Fk vs m≠.bad ->
  codeAny (model W.prog W.w) A (.call f ⟨us,[]⟩) (fun r s'=>match r with | .ok (.ret v)=>NP W [] (frs fs) s io m (VP W) (Fk vs m) v s' | .ok _=>False | .error e=>NX e s') s
theorem SiK.f {f:Value} {Fk:List V->Mn V} (x:SiK W A fs f Fk):SiF W A fs f Fk:=fun s io m vs us H G hu hne=>wpAny_call (x s io m vs us H G hu hne)
noncomputable def born (A:Around):Around:={ A with depth:=A.depth+1,units:=A.units+1 }
theorem cU6 {x:Str} {id:String} (gl:Gl W K) (e:nsIn K mainGlobals x=some none) (hv:bootBuiltins x=some (.builtin id)) (hn:(x == ("__name__":Str))=false) (hx:env.kindOf x=some .globalImplicit) (hd:(x == ("__debug__":Str))=false) (hs:aR es=true)
  (hl:SiL W A fs env vis (spliced (backTo pos (starEach es env))) cl) (hf:SiF W A fs (.builtin id) Fk):SiE W A fs env vis (eval (.Call (.Name x p) es [] pos) env) (fun r=>bnd (cl r) fun vs=>Fk vs):=by
 intro s io m r Z hne
 refine wpAny_Call_NameR (aD3 gl Z e hv hn hx hd (Calls.callWith_builtin (dK hs) (dE hs ?_)))
 refine wpAny_mono (hl s io m r Z (Res.bind_ne hne)) (fun us s' q=>?_) fun y_ y_ q=>q
 obtain ⟨vs,m',io',e',st,H,k,sm⟩:=q
 have hne':Fk vs m'≠.bad:=fun q=>hne (by show (cl r m).bind _=_;rw [e'];exact q)
 have ee:bnd (cl r) (fun vs=>Fk vs) m=Fk vs m':=by show (cl r m).bind _=_;rw [e'];rfl
 show wpAny (model W.prog W.w) A (call (.builtin id) us) (NP W [] (frs fs) s io m (VP W) (bnd (cl r) (fun vs=>Fk vs) m)) NX s'
 rw [ee]
 exact wpAny_mono (hf _ _ _ _ _ H (Z.G.step0 st) k hne') (fun y_ y_ z=>z.mono st sm) fun y_ y_ z=>z
theorem cU4 {x:Str} {id:String} (gl:Gl W K) (e:nsIn K mainGlobals x=some none) (hv:bootBuiltins x=some (.type id)) (hn:(x == ("__name__":Str))=false) (hx:env.kindOf x=some .globalImplicit) (hd:(x == ("__debug__":Str))=false) (hs:aR es=true)
  (hl:SiL W A fs env vis (spliced (backTo pos (starEach es env))) cl) (hf:SiF W A fs (.type id) Fk):SiE W A fs env vis (eval (.Call (.Name x p) es [] pos) env) (fun r=>bnd (cl r) fun vs=>Fk vs):=by
 intro s io m r Z hne
 refine wpAny_Call_NameR (aD3 gl Z e hv hn hx hd (callWith_type (dK hs) (dE hs ?_)))
 refine wpAny_mono (hl s io m r Z (Res.bind_ne hne)) (fun us s' q=>?_) fun y_ y_ q=>q
 obtain ⟨vs,m',io',e',st,H,k,sm⟩:=q
 have hne':Fk vs m'≠.bad:=fun q=>hne (by show (cl r m).bind _=_;rw [e'];exact q)
 have ee:bnd (cl r) (fun vs=>Fk vs) m=Fk vs m':=by show (cl r m).bind _=_;rw [e'];rfl
 show wpAny (model W.prog W.w) A (call (.type id) us) (NP W [] (frs fs) s io m (VP W) (bnd (cl r) (fun vs=>Fk vs) m)) NX s'
 rw [ee]
 exact wpAny_mono (hf _ _ _ _ _ H (Z.G.step0 st) k hne') (fun y_ y_ z=>z.mono st sm) fun y_ y_ z=>z
theorem cU5 {x:Str} {a:Addr} {o:Obj} {fd:FuncData} (gl:Gl W K) (e:nsIn K mainGlobals x=some (some (.ref a))) (ho:K.lookup a=some o) (hdata:o.data=.func fd) (hx:env.kindOf x=some .globalImplicit) (hd:(x == ("__debug__":Str))=false) (hs:aR es=true)
  (hl:SiL W A fs env vis (spliced (backTo pos (starEach es env))) cl) (hf:SiF W A fs (.ref a) Fk):SiE W A fs env vis (eval (.Call (.Name x p) es [] pos) env) (fun r=>bnd (cl r) fun vs=>Fk vs):=by
 intro s io m r Z hne
 refine wpAny_Call_NameR (bR4 gl Z e hx hd (Calls.callWith_function (o:=o) (fd:=fd) (dE hs ?_)))
 refine wpAny_mono (hl s io m r Z (Res.bind_ne hne)) (fun us s' q=>?_) fun y_ y_ q=>q
 obtain ⟨vs,m',io',e',st,H,k,sm⟩:=q
 have hne':Fk vs m'≠.bad:=fun q=>hne (by show (cl r m).bind _=_;rw [e'];exact q)
 have ee:bnd (cl r) (fun vs=>Fk vs) m=Fk vs m':=by show (cl r m).bind _=_;rw [e'];rfl
 refine ⟨⟨H.get gl ho,hdata⟩,?_⟩
 show wpAny (model W.prog W.w) A (call (.ref a) us) (NP W [] (frs fs) s io m (VP W) (bnd (cl r) (fun vs=>Fk vs) m)) NX s'
 rw [ee]
 exact wpAny_mono (hf _ _ _ _ _ H (Z.G.step0 st) k hne') (fun y_ y_ z=>z.mono st sm) fun y_ y_ z=>z
end
end Mini
namespace Mini
open PySem PySem.W
noncomputable def cI (env:Env):List Addr:=env.locals::env.cells.filterMap fun q=>env.cells.lookup q.1
structure Stt (W:Wd) (fs:List Env) (env:Env) (vis:List (Option Str)) (s:Shared) (io:Io) (m:MH) (r:Lo):Prop where
 H:HR W s.heap io m
 F:FR W s.heap io env vis r
 G:FF W s.heap io fs
 fr:env.frame=some env.locals
 dis:∀ L∈frs fs,L∉cI env
inductive FlR (W:Wd) (h:Heap) (io:Io):Fl->Flow->Prop
 | next:FlR W h io .next .next
 | cont:FlR W h io .cont .cont
 | ret {v:V} {u:Value}:VR W h io v u->FlR W h io (.ret v) (.ret u)
noncomputable abbrev SP (W:Wd) (env:Env) (vis:List (Option Str)):Heap->Io->Fl×Lo->Flow->Prop:=fun h io p f=>FlR W h io p.1 f /\ FR W h io env vis p.2
noncomputable abbrev RP (W:Wd) (env:Env) (vis:List (Option Str)):Heap->Io->Lo->Unit->Prop:=fun h io r y_=>FR W h io env vis r
section
variable {W:Wd} {fs:List Env} {env:Env} {vis:List (Option Str)} {s s':Shared} {io io':Io} {m m':MH} {r r':Lo} {fr own own':List Addr} {A:Around} {n:Nat} {pos p:Pos}
theorem Step.wk {h h':Heap} (x:Step own fr h io m h' io' m') (k:∀ b∈own,b∈own'):Step own' fr h io m h' io' m':=
 ⟨x.alive,x.solid,fun b o e f1 f2=>x.keep b o e f1 fun q=>f2 (k b q),fun b o e f1 f2=>x.slots b o e f1 fun q=>f2 (k b q),x.grow,x.dicts⟩
theorem Stt.sit (Z:Stt W fs env vis s io m r):Sit W (env::fs) env vis s io m r:=by
 refine ⟨Z.H,Z.F,fun e he=>?_⟩
 rcases List.mem_cons.mp he with rfl | he
 ·obtain ⟨mp,⟨o,es,ep,ho,hd,y_⟩,y_⟩:=Z.F.loc
  exact ⟨by rw [Z.F.kind];simp,e.locals,o,es,ep,Z.fr,Z.F.fresh,Z.F.nofoot,ho,hd⟩
 ·exact Z.G e he
theorem Stt.step (Z:Stt W fs env vis s io m r) (H:HR W s'.heap io' m') (st:Step [] fr s.heap io m s'.heap io' m'):Stt W fs env vis s' io' m' r:=⟨H,Z.F.step0 Z.H st,Z.G.step0 st,Z.fr,Z.dis⟩
theorem Stt.stepO (Z:Stt W fs env vis s io m r) (H:HR W s'.heap io' m') (st:Step (cI env) fr s.heap io m s'.heap io' m') (F:FR W s'.heap io' env vis r'):Stt W fs env vis s' io' m' r':=⟨H,F,Z.G.step st Z.dis,Z.fr,Z.dis⟩
theorem dP {o:Obj} {es:Array DictEntry} {k:Nat} (h:o.data=.dict es k):¬ c9 o:=by
 rintro (⟨_,_,_,e⟩ | ⟨_,_,_,e⟩) <;> rw [h] at e <;> cases e
theorem aJ1 {o:Obj} {v:Option Value} (h:o.data=.cell v):¬ c9 o:=by
 rintro (⟨_,_,_,e⟩ | ⟨_,_,_,e⟩) <;> rw [h] at e <;> cases e
theorem bN9 (Z:Stt W fs env vis s io m r) {i:Nat} {x:Str} {v:V} {u:Value} (hv:vis[i]?=some (some x)) (hk:env.kindOf x=some .local \/ env.kindOf x=some .cell) (k:VR W s.heap io v u) :
  Si W (cI env) A (env::fs) (RP W env vis) (storeName env x u) s io m (.ok (r.set i (some v)) m):=by
 intro y_
 have hi:i < vis.length:=(List.getElem?_eq_some_iff.mp hv).1
 have F:=Z.F
 have row:∀ (j:Nat) (y:Str) (w:V),vis[j]?=some (some y)->(r.set i (some v))[j]?=some (some w)->(y=x /\ w=v) \/ (y≠x /\ r[j]?=some (some w)):=by
  intro j y w h1 h2
  by_cases q:i=j
  ·subst q
   rw [List.getElem?_set_self (by rw [F.len];exact hi)] at h2
   rw [hv] at h1
   cases h1;cases h2;exact .inl ⟨rfl,rfl⟩
  ·rw [List.getElem?_set_ne q] at h2
   refine .inr ⟨fun e=>q (F.inj i j x hv (e▸h1)),h2⟩
 rcases hk with hk | hk
 ·refine hide fun G_ g_=>?_
  rcases F.loc with ⟨mp,hn,hl⟩
  rcases id hn with ⟨oL,esL,epL,hoL,hdL,y_⟩
  refine g_ ?_
  clear g_ G_
  refine wpAny_storeName_local hk hn (fun h' hn' hs=>?_) (by rw [F.kind];rfl)
  have kk:∀ b o,b≠env.locals->s.heap.get? b=some o->h'.get? b=some o:=fun b o q e=>(hs.2 b q).trans e
  have lv:∀ o,s.heap.get? env.locals=some o->¬ c9 o /\ ∃ o',h'.get? env.locals=some o':=fun o ho=>by
   rw [hoL] at ho;cases ho
   obtain ⟨o',y_,y_,ho',y_⟩:=id hn'
   exact ⟨dP hdL,o',ho'⟩
  have st:Step (cI env) (frs (env::fs)) s.heap io m h' io m:=fU Z.H (L:=env.locals) (by simp [cI]) kk lv F.nofoot
  have H':HR W h' io m:=Z.H.ofOwn (own:=cI env) (L:=env.locals) (by simp [cI]) kk lv F.nofoot F.fresh
  refine ⟨_,m,io,rfl,st,H',?_,rfl,rfl⟩
  refine ⟨F.kind,F.glob,F.blt,F.nofoot,F.fresh,⟨_,hn',fun j y w h1 h2 h3=>?_⟩,fun j y w h1 h2 h3=>?_,fun y c hy=>?_,F.celex,F.apart,F.inj,by simp [F.len]⟩
  ·rcases row j y w h1 h2 with ⟨rfl,rfl⟩ | ⟨q,h2⟩
   ·exact ⟨u,by simp,k.step st⟩
   ·obtain ⟨u',e,k'⟩:=hl j y w h1 h2 h3
    exact ⟨u',by simp [q,e],k'.step st⟩
  ·rcases row j y w h1 h2 with ⟨rfl,rfl⟩ | ⟨q,h2⟩
   ·rw [hk] at h3;simp at h3
   ·obtain ⟨c,u',e,k1,k2⟩:=F.cel j y w h1 h2 h3
    refine ⟨c,u',e,?_,k2.step st⟩
    obtain ⟨oc,hoc,hdc⟩:=k1
    exact ⟨oc,kk c oc (F.cells y c e).2.2 hoc,hdc⟩
  ·obtain ⟨⟨o,oc,hoc,hdc⟩,k2,k3⟩:=F.cells y c hy
   exact ⟨⟨o,oc,kk c oc k3 hoc,hdc⟩,k2,k3⟩
 ·rcases F.celex i x hv (.inl hk) with ⟨c,hc⟩
  obtain ⟨⟨o0,oc,hoc,hdc⟩,c2,c3⟩:=F.cells x c hc
  have nf:¬ dG io c:=Z.H.nofoot_of_cell hoc hdc
  refine wpAny_storeName_cell F.kind hk hc ⟨oc,hoc,hdc⟩ fun h' hn' hs=>?_
  have kk:∀ b o,b≠c->s.heap.get? b=some o->h'.get? b=some o:=fun b o q e=>(hs.2 b q).trans e
  have lv:∀ o,s.heap.get? c=some o->¬ c9 o /\ ∃ o',h'.get? c=some o':=fun o ho=>by
   rw [hoc] at ho;cases ho
   obtain ⟨o',ho',y_⟩:=id hn'
   exact ⟨aJ1 hdc,o',ho'⟩
  have hin:c∈cI env:=by
   exact List.mem_cons_of_mem _ (List.mem_filterMap.mpr ⟨(x,c),mem_of_lookup hc,hc⟩)
  have st:Step (cI env) (frs (env::fs)) s.heap io m h' io m:=fU Z.H (L:=c) hin kk lv nf
  have H':HR W h' io m:=Z.H.ofOwn (own:=cI env) (L:=c) hin kk lv nf c2
  refine ⟨_,m,io,rfl,st,H',?_,rfl,rfl⟩
  obtain ⟨mp,hn,hl⟩:=F.loc
  have other:∀ y c',env.cells.lookup y=some c'->y≠x->c'≠c:=fun y c' hy q e=>q (F.apart y x c (e▸hy) hc)
  refine ⟨F.kind,F.glob,F.blt,F.nofoot,F.fresh,⟨mp,?_,fun j y w h1 h2 h3=>?_⟩,fun j y w h1 h2 h3=>?_,fun y c' hy=>?_,F.celex,F.apart,F.inj,by simp [F.len]⟩
  ·exact hn.sameBut hs (Ne.symm c3)
  ·rcases row j y w h1 h2 with ⟨rfl,rfl⟩ | ⟨q,h2⟩
   ·rw [hk] at h3;simp at h3
   ·obtain ⟨u',e,k'⟩:=hl j y w h1 h2 h3
    exact ⟨u',e,k'.step st⟩
  ·rcases row j y w h1 h2 with ⟨rfl,rfl⟩ | ⟨q,h2⟩
   ·exact ⟨c,u,hc,hn',k.step st⟩
   ·obtain ⟨c',u',e,k1,k2⟩:=F.cel j y w h1 h2 h3
    refine ⟨c',u',e,?_,k2.step st⟩
    obtain ⟨oc',hoc',hdc'⟩:=k1
    exact ⟨oc',kk c' oc' (other y c' e q) hoc',hdc'⟩
  ·obtain ⟨⟨o,oc',hoc',hdc'⟩,k2,k3⟩:=F.cells y c' hy
   by_cases q:c'=c
   ·subst q;exact ⟨⟨_,hn'⟩,k2,k3⟩
   ·exact ⟨⟨o,oc',kk c' oc' q hoc',hdc'⟩,k2,k3⟩
end
end Mini
namespace Mini
open PySem PySem.W
section
variable {prog:Program} {w:World} {A:Around} {E:Value->Shared->Prop} {s:Shared} {it d:Addr} {i ep:Nat} {o:Obj} {es:Array DictEntry}
theorem aU0 {Q:Value->Shared->Prop} (hd:(d == sysModules)=false) (ho:s.heap.get? d=some o) (hc:o.ExactDict) (hdat:o.data=.dict es ep)
  (hQ:Q (.ref s.heap.objs.size) { s with heap:=s.heap.push { cls:=.type "dict_keyiterator",data:=.fields #[.ref d,.int 0 0,.int es.size 0,.int ep 0] } }):wpAny (model prog w) A (pyIter (.ref d)) Q E s:=by
 have hT:s.TypeIs (.ref d) "dict":=⟨o,ho,hc.1⟩
 refine wpAny_pyIter_slot hT F.slot_dict_iter (wpAny_call_entry F.slot_dict_iter hT F.entry_dict_iter ?_ (F.args_dict_iter_1 _))
 unfold Builtin.«dict.__iter__»
 refine wpAny_bind ?_
 unfold Builtin.Dict.dictSlotNone
 refine wpAny_bind (wpAny_notOrdered_dict hT ?_)
 show wpAny _ _ (pure (Value.ref d)) _ _ s
 refine wpAny_pure ?_
 show wpAny _ _ (Builtin.Dict.showsAll d >>= _) _ _ s
 unfold Builtin.Dict.showsAll
 rw [if_neg (by rw [hd];exact Bool.false_ne_true)]
 refine wpAny_bind (wpAny_pure (wpAny_bind (wpAny_dictEntries ho hdat (wpAny_bind (wpAny_dictEpoch ho hdat ?_)))))
 exact wpAny_bind (wpAny_newObj_type (wpAny_pure ⟨_,rfl,"dict_keyiterator",_,⟨_,Heap.get?_push_size _ rfl,rfl⟩,F.slot_dict_keyiterator_next.lookup,hQ⟩))
theorem aT9 {Q:Option Value->Shared->Prop} (hit:s.heap.IsKeyIter it d i es.size ep) (ho:s.heap.get? d=some o) (hdat:o.data=.dict es ep) (hlt:i < es.size)
  (hQ:∀ h',h'.IsKeyIter it d (i+1) es.size ep->Heap.SameBut it s.heap h'->Q (some es[i].key) { s with heap:=h' }):wpAny (model prog w) A (pyNext (.ref it)) Q E s:=by
 rcases id hit with ⟨oi,hoi,hci,hdi⟩
 unfold pyNext
 refine wpAny_bind (wpAny_attempt (wpAny_callSpecial?_slot (name:=Str.ofString "__next__") hit.typeIs F.slot_dict_keyiterator_next
  (wpAny_call_entry F.slot_dict_keyiterator_next hit.typeIs F.entry_dict_keyiterator_next ?_ (F.args_dict_keyiterator_next_1 _))))
 refine wpAny_bind (wpAny_pure (wpAny_bind (wpAny_bind ?_)))
 first | refine wpAny_bind (wpAny_typeNameOfWhole_keyiter hit.typeIs (wpAny_pure ?_)) | refine wpAny_bind (wpAny_typeNameOf_keyiter hit.typeIs (wpAny_pure ?_))
 refine wpAny_bind (wpAny_fieldsOf hoi hdi ?_)
 have hown:Builtin.Dict_items.ownsTuple "dict_keyiterator"=false:=by decide
 rw [if_neg (by rw [hown];exact Bool.false_ne_true)]
 show wpAny _ _ (if (Value.ref d == Value.none)=true then _ else _) _ _ s
 rw [if_neg (show ¬ ((Value.ref d == Value.none)=true) from Bool.false_ne_true)]
 refine wpAny_bind (wpAny_pure (wpAny_bind (wpAny_dictEntries ho hdat ?_)))
 rw [if_neg (by simp)]
 refine wpAny_bind (wpAny_pure (wpAny_bind (wpAny_dictEpoch ho hdat ?_)))
 rw [if_neg (by simp)]
 refine wpAny_pure ?_
 dsimp only
 rw [if_neg (show ¬ ((i:Int) < 0) from Int.not_lt.mpr (Int.natCast_nonneg i)),Int.toNat_natCast,Array.getElem?_eq_getElem hlt]
 refine wpAny_bind ?_
 first | refine wpAny_bind (wpAny_typeNameOfWhole_keyiter hit.typeIs (wpAny_pure ?_)) | refine wpAny_bind (wpAny_typeNameOf_keyiter hit.typeIs (wpAny_pure ?_))
 refine wpAny_bind (wpAny_isOneOf_keyiter hit.typeIs ?_)
 show wpAny _ _ (setField (.ref it) 1 (rawInt ((i:Int)+1)) >>= _) _ _ s
 refine wpAny_bind (wpAny_setField hoi hdi (by simp) ?_)
 have hit':(s.heap.update it (Obj.mapFields (·.setIfInBounds 1 (rawInt ((i:Int)+1))))).IsKeyIter it d (i+1) es.size ep:=
  ⟨_,Heap.get?_update_self _ hoi (Obj.isFreed_of_fields (Obj.data_mapFields hdi _)),(Obj.cls_mapFields ..).trans hci,by rw [Obj.data_mapFields hdi];simp [rawInt]⟩
 refine wpAny_bind (wpAny_holding ?_)
 refine wpAny_bind (wpAny_isOneOf_keyiter (s:={ s with heap:=s.heap.update it (Obj.mapFields (·.setIfInBounds 1 (rawInt ((i:Int)+1)))) }) hit'.typeIs ?_)
 show wpAny _ _ (pure es[i].key) _ _ _
 exact wpAny_pure (wpAny_pure ⟨_,rfl,wpAny_pure (hQ _ hit' (Heap.SameBut.update ..))⟩)
theorem bE2 {Q:Option Value->Shared->Prop} (hh:A.handled=none) (hit:s.heap.IsKeyIter it d i es.size ep) (ho:s.heap.get? d=some o) (hdat:o.data=.dict es ep) (hge:es.size <= i)
  (hQ:∀ h',Heap.ExtBut it s.heap h'->Q none { s with heap:=h' }):wpAny (model prog w) A (pyNext (.ref it)) Q E s:=by
 rcases id hit with ⟨oi,hoi,hci,hdi⟩
 unfold pyNext
 refine wpAny_bind (wpAny_attempt (wpAny_callSpecial?_slot (name:=Str.ofString "__next__") hit.typeIs F.slot_dict_keyiterator_next
  (wpAny_call_entry F.slot_dict_keyiterator_next hit.typeIs F.entry_dict_keyiterator_next ?_ (F.args_dict_keyiterator_next_1 _))))
 refine wpAny_bind (wpAny_pure (wpAny_bind (wpAny_bind ?_)))
 first | refine wpAny_bind (wpAny_typeNameOfWhole_keyiter hit.typeIs (wpAny_pure ?_)) | refine wpAny_bind (wpAny_typeNameOf_keyiter hit.typeIs (wpAny_pure ?_))
 refine wpAny_bind (wpAny_fieldsOf hoi hdi ?_)
 have hown:Builtin.Dict_items.ownsTuple "dict_keyiterator"=false:=by decide
 rw [if_neg (by rw [hown];exact Bool.false_ne_true)]
 show wpAny _ _ (if (Value.ref d == Value.none)=true then _ else _) _ _ s
 rw [if_neg (show ¬ ((Value.ref d == Value.none)=true) from Bool.false_ne_true)]
 refine wpAny_bind (wpAny_pure (wpAny_bind (wpAny_dictEntries ho hdat ?_)))
 rw [if_neg (by simp)]
 refine wpAny_bind (wpAny_pure (wpAny_bind (wpAny_dictEpoch ho hdat ?_)))
 rw [if_neg (by simp)]
 refine wpAny_pure ?_
 dsimp only
 rw [if_neg (show ¬ ((i:Int) < 0) from Int.not_lt.mpr (Int.natCast_nonneg i)),Int.toNat_natCast,Array.getElem?_eq_none hge]
 refine wpAny_bind ?_
 first | refine wpAny_bind (wpAny_typeNameOfWhole_keyiter hit.typeIs (wpAny_pure ?_)) | refine wpAny_bind (wpAny_typeNameOf_keyiter hit.typeIs (wpAny_pure ?_))
 show wpAny _ _ (setField (.ref it) 0 .none >>= _) _ _ s
 refine wpAny_bind (wpAny_setField hoi hdi (by simp) ?_)
 show wpAny _ _ (newExc (.type "StopIteration") [] >>= _) _ _ _
 refine wpAny_bind ?_
 simp only [newExc,newTuple]
 refine wpAny_bind (wpAny_newObj_type ?_ (by size_fits))
 refine wpAny_bind (m:=firstArgMember _ _) (wpAny_of_eq (a:=Value.none) (by first | rfl | (simp only [firstArgMember];rfl)) ?_)
 refine wpAny_newObj_type ?_ (by size_fits)
 unfold raiseNew
 refine wpAny_bind (wpAny_handled ?_)
 rw [show A.in1.handled=none from hh]
 refine wpAny_bind (wpAny_pure (wpAny_throw ?_))
 refine wpAny_bind (wpAny_isInstance (T:="StopIteration") (b:=true) ⟨_,Heap.get?_push_size _ rfl,rfl⟩ isSubtype_stop ?_)
 exact wpAny_pure (hQ _ (((Heap.SameBut.update ..).extBut.push _).push _))
end
end Mini
namespace Mini
open PySem PySem.W
section
variable {W:Wd} {h h':Heap} {fs:List Env} {env:Env} {vis:List (Option Str)} {s s':Shared} {io io' io₀:Io} {m m' m₀:MH} {r r':Lo} {fr own own':List Addr} {A:Around} {n:Nat} {pos p:Pos}
noncomputable def Sol (h h':Heap):Prop:=∀ b o,h.get? b=some o->c9 o->h'.get? b=some o
theorem VR.sol (x:Sol h h') {v:V} {u:Value} (k:VR W h io v u):VR W h' io v u:=k.mono x fun y_ y_ e=>e
theorem VRs.sol (x:Sol h h') {v:List V} {u:List Value} (k:VRs W h io v u):VRs W h' io v u:=k.mono x fun y_ y_ e=>e
theorem ERs.sol (x:Sol h h') {kvs:List (Ky×V)} {es:List DictEntry} (e:ERs W h io kvs es):ERs W h' io kvs es:=e.mono x fun y_ y_ e=>e
theorem FEs.sol (x:Sol h h') {fs:List (Nat×V)} {mA:Str->Option Value} (e:FEs W h io fs mA):FEs W h' io fs mA:=e.mono x fun y_ y_ e=>e
theorem OR.sol (x:Sol h h') {a d:Addr} {o:MObj} (k:OR W h io a d o) (ha:∀ o,h.get? a=some o->h'.get? a=some o) (hd:∀ o,h.get? d=some o->h'.get? d=some o):OR W h' io a d o:=by
 cases o with
 | list xs=>
  obtain ⟨e,vs,n,h1,h4,h5⟩:=k
  exact ⟨e,vs,n,ha _ h1,h4.sol x,h5⟩
 | dict kvs ep=>
  obtain ⟨e,o,es,n,h1,h2,h3,h4,h5⟩:=k
  exact ⟨e,o,es,n,ha _ h1,h2,h3,h4.sol x,h5⟩
 | inst c fs=>
  obtain ⟨e,mA,h1,h2,h3,h4⟩:=k
  exact ⟨e,mA,ha _ h1,h2.at hd,h3.sol x,h4⟩
theorem HR.sol (H:HR W h io m) (x:Sol h h') (hf:∀ b o,dG io b->h.get? b=some o->h'.get? b=some o) (hb:∀ b o,W.base.get? b=some o->h'.get? b=some o):HR W h' io m:=
 ⟨hb,H.len,fun n p o hi hm=>(H.obj n p o hi hm).sol x (fun o=>hf p.1 o ⟨p,List.mem_of_getElem? hi,.inl rfl⟩) fun o=>hf p.2 o ⟨p,List.mem_of_getElem? hi,.inr rfl⟩,H.fresh,H.apart⟩
structure Side (W:Wd) (wr:List Addr) (h₀ h:Heap) (io:Io) (h':Heap):Prop where
 keep:∀ b o,b∉wr->h.get? b=some o->h'.get? b=some o
 new:∀ b∈wr,h₀.get? b=none
 foot:∀ b∈wr,¬ dG io b
 soft:∀ b∈wr,∀ o,h.get? b=some o->¬ c9 o
theorem Side.sol {wr:List Addr} {h₀:Heap} (x:Side W wr h₀ h io h'):Sol h h':=fun b o e so=>x.keep b o (fun q=>x.soft b q o e so) e
theorem Side.step {wr:List Addr} {h₀:Heap} (x:Side W wr h₀ h io h') (H:HR W h io m) (st:Step own fr h₀ io₀ m₀ h io m):Step own fr h₀ io₀ m₀ h' io m:=by
 have nw:∀ b o,h₀.get? b=some o->b∉wr:=fun b o e q=>by rw [x.new b q] at e;cases e
 refine ⟨fun b o e=>?_,fun b o e so=>?_,fun b o e f1 f2 f3=>x.keep _ _ (nw b o e) (st.keep b o e f1 f2 f3),fun b o e f1 f2=>?_,st.grow,fun n p kvs ep hi hm=>?_⟩
 ·rcases st.alive b o e with ⟨o',e'⟩
  exact ⟨o',x.keep _ _ (nw b o e) e'⟩
 ·exact x.keep _ _ (nw b o e) (st.solid b o e so)
 ·rcases st.slots b o e f1 f2 with ⟨sl,e'⟩
  exact ⟨sl,x.keep _ _ (nw b o e) e'⟩
 ·obtain ⟨k',e',q1,q2,q3⟩:=st.dicts n p kvs ep hi hm
  refine ⟨k',e',q1,q2,fun q=>⟨?_,(q3 q).2⟩⟩
  have hi':=st.io_get hi
  rcases H.there hi' with ⟨o,ho⟩
  rw [<- (q3 q).1,ho]
  exact x.keep _ _ (fun w=>x.foot _ w ⟨p,List.mem_of_getElem? hi',.inl rfl⟩) ho
theorem Side.hr {wr:List Addr} {h₀:Heap} (x:Side W wr h₀ h io h') (H:HR W h io m) (hb:∀ b o,W.base.get? b=some o->h₀.get? b=some o):HR W h' io m:=
 H.sol x.sol (fun b o f e=>x.keep b o (fun q=>x.foot b q f) e) fun b o e=>x.keep b o (fun q=>by have:=hb b o e;rw [x.new b q] at this;cases this) (H.keep b o e)
theorem aH1 {target:Expr} {I:Addr} {o:Obj} {T:String} {ws:Array Value} {u:Value} {Q:Unit->Shared->Prop} {E:Value->Shared->Prop} {M:Model} (ho:s.heap.get? I=some o) (hc:o.cls=.type T) (hd:o.data=.fields ws)
  (hT:(["enumerate","zip","dict_itemiterator","dict_reverseitemiterator","odict_iterator","itertools.zip_longest","itertools.pairwise"].contains T)=false) (h:Q () s):wpAny M A (letOwnedTupleGo target (.ref I) u) Q E s:=by
 have key:∀ a:Addr,wpAny M A (do
   let o <- load I
   match o.cls,o.data with
   | .type n,.fields vs=>
    if ["enumerate","zip","dict_itemiterator","dict_reverseitemiterator","odict_iterator","itertools.zip_longest","itertools.pairwise"].contains n&&vs[0]? == some (rawInt a) then
     rule "for.unpacks-the-owned-tuple"
     updateField I 0 .none
   | _,_=>pure ()) Q E s:=fun a=>by
  refine wpAny_bind (wpAny_load ho ?_)
  rw [hc,hd]
  simp only [hT,Bool.false_and]
  exact wpAny_pure h
 unfold letOwnedTupleGo
 cases target <;> first | exact wpAny_pure h | skip
 all_goals
  cases u <;> first | exact wpAny_pure h | exact key _
structure Wk (W:Wd) (A:Around) (I:Addr) (wr:List Addr) (g:Gd) (vs:List V) (St:Nat->Heap->Io->Prop):Prop where
 soft:∀ {i:Nat} {h:Heap} {io:Io},St i h io->∀ b∈wr,¬ dG io b /\ ∀ o,h.get? b=some o->¬ c9 o
 stay:∀ {i:Nat} {h h':Heap} {io io':Io} {m m':MH} {own fr:List Addr},St i h io->HR W h io m->HR W h' io' m'->Step own fr h io m h' io' m'->(∀ b∈wr,b∉own /\ b∉fr)->g.stays m=true->g.stays m'=true->St i h' io'
 item:∀ {i:Nat} {s:Shared} {io:Io} {m:MH} {v:V} {Q:Option Value->Shared->Prop} {E:Value->Shared->Prop},vs[i]?=some v->St i s.heap io->HR W s.heap io m->g.stays m=true ->
  (∀ u h' tk,VR W s.heap io v u->St (i+1) h' io->(∀ b o,b∉wr->s.heap.get? b=some o->h'.get? b=some o)->Q (some u) { s with heap:=h',toks:=tk })->wpAny (model W.prog W.w) A (pyNext (.ref I)) Q E s
 alive:∀ {i:Nat} {h:Heap} {io:Io},St i h io->∀ b∈wr,∃ o,h.get? b=some o
 self:∀ {i:Nat} {s:Shared} {io:Io} {Q:Value->Shared->Prop} {E:Value->Shared->Prop},St i s.heap io->Q (.ref I) s->wpAny (model W.prog W.w) A (pyIter (.ref I)) Q E s
 lot:∀ {i:Nat} {s:Shared} {io:Io} {target:Expr} {u:Value} {Q:Unit->Shared->Prop} {E:Value->Shared->Prop},St i s.heap io->(∀ h',St i h' io->(∀ b o,b∉wr->s.heap.get? b=some o->h'.get? b=some o)->Q () { s with heap:=h' })->wpAny (model W.prog W.w) A (letOwnedTupleGo target (.ref I) u) Q E s
 done:∀ {s:Shared} {io:Io} {m:MH} {Q:Option Value->Shared->Prop} {E:Value->Shared->Prop},St vs.length s.heap io->HR W s.heap io m->g.stays m=true ->
  (∀ h' tk,(∀ b o,b∉wr->s.heap.get? b=some o->h'.get? b=some o)->Q none { s with heap:=h',toks:=tk })->wpAny (model W.prog W.w) A (pyNext (.ref I)) Q E s
theorem aJ2 {C:Prop} (h:false=true):C:=by cases h
mutual
theorem cO4:∀ (x y:V),V.same x y=true->x=y
 | .none,y,h=>by cases y <;> first | rfl | (exact aJ2 h)
 | .bool a,y,h=>by cases y <;> first | (exact aJ2 h) | (exact congrArg V.bool (eq_of_beq h))
 | .int a,y,h=>by cases y <;> first | (exact aJ2 h) | (exact congrArg V.int (eq_of_beq h))
 | .str a,y,h=>by cases y <;> first | (exact aJ2 h) | (exact congrArg V.str (eq_of_beq h))
 | .tup xs,y,h=>by cases y <;> first | (exact aJ2 h) | (exact congrArg V.tup (aA3 xs _ h))
 | .ref a,y,h=>by cases y <;> first | (exact aJ2 h) | (exact congrArg V.ref (eq_of_beq h))
 | .scr a,y,h=>by cases y <;> first | (exact aJ2 h) | (exact congrArg V.scr (eq_of_beq h))
theorem aA3:∀ (xs ys:List V),V.sames xs ys=true->xs=ys
 | [],ys,h=>by
  cases ys with
  | nil=>rfl
  | cons y_ y_=>exact aJ2 h
 | x::xs,ys,h=>by
  cases ys with
  | nil=>exact aJ2 h
  | cons y ys=>
   have h:(V.same x y&&V.sames xs ys)=true:=h
   rw [Bool.and_eq_true] at h
   rw [cO4 x y h.1,aA3 xs ys h.2]
end
theorem bR {o:Obj} {T:String} {vs:Array Value} (hc:o.cls=.type T) (hd:o.data=.fields vs):¬ c9 o:=by
 rintro (⟨y_,y_,y_,e⟩ | ⟨C,y_,e,y_⟩)
 ·rw [hd] at e;cases e
 ·rw [hc] at e;cases e
set_option tactic.hygienic true in
theorem Wk.list {I a d:Addr} {k:Nat} {xs:List V} (hh:A.handled=none):Wk W A I [I] (.list k xs) xs (fun i h io=>h.IsListIter I a i /\ io[k]?=some (a,d) /\ ¬ dG io I) where
 soft:=fun z_ b hb=>by
  rcases z_ with ⟨⟨o,ho,hc,hd⟩,y_,nf⟩
  rw [List.mem_singleton.mp hb]
  exact ⟨nf,fun o' e=>by rw [ho] at e;cases e;exact bR hc hd⟩
 stay:=fun z_ H y_ st hb y_ y_=>by
  rcases z_ with ⟨⟨o,ho,hc,hd⟩,hi,nf⟩
  have q:=hb I (.head _)
  exact ⟨⟨o,st.keep _ _ ho nf q.1 q.2,hc,hd⟩,st.io_get hi,st.nofoot ho nf⟩
 item:=fun {i s io m v Q E} hv z_ H hg hQ=>by
  rcases z_ with ⟨hit,hi,nf⟩
  simp only [Gd.stays] at hg
  split at hg
  ·rename_i ys hm
   have e:=aA3 _ _ hg
   subst e
   refine hide fun G_ g_=>?_
   rcases H.obj _ _ _ hi hm with ⟨y_,us,c,h1,h2,h3⟩
   rcases h2.get hv with ⟨u,hu,ku⟩
   refine g_ ?_
   clear g_ G_
   refine wpAny_pyNext_list_item hit ⟨_,h1,rfl,c,rfl⟩ (by simpa using hu) fun h' hit' hs=>?_
   exact hQ u h' s.toks ku ⟨hit',hi,nf⟩ fun b o hb e=>(hs.2 b (by simpa using hb)).trans e
  ·cases hg
 alive:=fun z_ b hb=>by rcases z_ with ⟨⟨o,ho,y_⟩,y_⟩;rw [List.mem_singleton.mp hb];exact ⟨o,ho⟩
 self:=fun st hQ=>wpAny_pyIter_listiter st.1 hQ
 lot:=fun {i s io target u Q E} st hQ=>by
  obtain ⟨⟨o,ho,hc,hd⟩,y_⟩:=id st
  exact aH1 ho hc hd (by decide) (hQ _ st fun y_ y_ y_ e=>e)
 done:=fun {s io m Q E} z_ H hg hQ=>by
  rcases z_ with ⟨hit,hi,nf⟩
  simp only [Gd.stays] at hg
  split at hg
  ·rename_i ys hm
   have e:=aA3 _ _ hg
   subst e
   obtain ⟨y_,us,c,h1,h2,h3⟩:=H.obj _ _ _ hi hm
   have hl:=h2.length
   refine wpAny_pyNext_list_end hh hit ⟨_,h1,rfl,c,rfl⟩ (by simp at hl;simp [hl]) fun h' hs=>?_
   exact hQ h' s.toks fun b o hb e=>hs b o (by simpa using hb) e
  ·cases hg
theorem Wk.of_walks {I:Addr} {fp:List Addr} {k:Nat} {P:Nat->Value->Prop} {St:Nat->Heap->Prop} {vs:List V} (hw:Walks W.prog W.w A I fp [I] k P St) (hk:k=vs.length)
  (hP:∀ (i:Nat) (v:V) (u:Value) (h:Heap) (io:Io),vs[i]?=some v->P i u->VR W h io v u)
  (hI:∀ i h,St i h->∃ o T ws,h.get? I=some o /\ o.cls=.type T /\ o.data=.fields ws /\ (["enumerate","zip","dict_itemiterator","dict_reverseitemiterator","odict_iterator","itertools.zip_longest","itertools.pairwise"].contains T)=false)
  (hfp:∀ b∈fp,b=I \/ ∃ o,W.base.get? b=some o):Wk W A I [I] .none vs (fun i h io=>St i h /\ ¬ dG io I) where
 soft:=fun z_ b hb=>by
  rcases z_ with ⟨st,nf⟩
  rw [List.mem_singleton.mp hb]
  obtain ⟨o,T,ws,ho,hc,hd,hT⟩:=hI _ _ st
  exact ⟨nf,fun o' e=>by rw [ho] at e;cases e;exact bR hc hd⟩
 stay:=fun {i h h' io io' m m' own fr} z_ H H' x hb y_ y_=>by
  rcases z_ with ⟨st,nf⟩
  obtain ⟨o,T,ws,ho,hc,hd,hT⟩:=hI _ _ st
  have q:=hb I (.head _)
  refine ⟨hw.frame i h h' st fun b hb o' e=>?_,x.nofoot ho nf⟩
  rcases hfp b hb with rfl | ⟨ob,k⟩
  ·exact x.keep _ _ e nf q.1 q.2
  ·rw [H.keep _ _ k] at e;cases e;exact H'.keep _ _ k
 item:=fun {i s io m v Q E} hv z_ H hg hQ=>by
  rcases z_ with ⟨st,nf⟩
  have hi:i < k:=by rw [hk];exact (List.getElem?_eq_some_iff.mp hv).1
  exact hw.item i s Q E hi st fun u h' tk p st' kk=>hQ u h' tk (hP i v u _ _ hv p) ⟨st',nf⟩ kk
 alive:=fun z_ b hb=>by
  rcases z_ with ⟨st,y_⟩
  obtain ⟨o,y_,y_,ho,y_⟩:=hI _ _ st
  rw [List.mem_singleton.mp hb];exact ⟨o,ho⟩
 self:=fun {i s io Q E} st hQ=>hw.self i s Q E st.1 hQ
 lot:=fun {i s io target u Q E} st hQ=>by
  obtain ⟨o,T,ws,ho,hc,hd,hT⟩:=hI _ _ st.1
  exact aH1 ho hc hd hT (hQ _ st fun y_ y_ y_ e=>e)
 done:=fun {s io m Q E} ⟨st,nf⟩ H hg hQ=>hw.done s Q E (hk▸st) hQ
theorem ERs.keys {kvs:List (Ky×V)} {es:List DictEntry} (x:ERs W h io kvs es):VRs W h io (kvs.map fun p=>p.1.val) (es.map (·.key)):=by
 induction x using ERs.ind with
 | nil=>exact .nil
 | cons h1 y_ y_ ih=>exact .cons h1 ih
set_option tactic.hygienic true in
theorem aL0 {k e:Nat} (hg:(Gd.dict k e).stays m=true):∃ kvs,m[k]?=some (.dict kvs e):=by
 simp only [Gd.stays] at hg
 split at hg
 ·rename_i kvs e' hm
  rw [eq_of_beq hg];exact ⟨kvs,hm⟩
 ·cases hg
theorem Wk.dict {I a d:Addr} {k e ep:Nat} {o:Obj} {es:Array DictEntry} {vs:List V} (hh:A.handled=none) (hd:o.data=.dict es ep) :
  Wk W A I [I] (.dict k e) vs (fun i h io=>h.IsKeyIter I a i es.size ep /\ io[k]?=some (a,d) /\ h.get? a=some o /\ VRs W h io vs (es.toList.map (·.key)) /\ I≠a /\ ¬ dG io I) where
 soft:=fun z_ b hb=>by
  rcases z_ with ⟨⟨oi,hoi,hci,hdi⟩,y_,y_,y_,y_,nf⟩
  rw [List.mem_singleton.mp hb]
  exact ⟨nf,fun o' e=>by rw [hoi] at e;cases e;exact bR hci hdi⟩
 stay:=fun {i h h' io io' m m' own fr} z_ H H' st hb g1 g2=>by
  rcases z_ with ⟨⟨oi,hoi,hci,hdi⟩,hi,ha,hv,hn,nf⟩
  have q:=hb I (.head _)
  rcases aL0 g1 with ⟨kvs,hm⟩
  rcases aL0 g2 with ⟨kvs',hm'⟩
  rcases st.dicts _ _ _ _ hi hm with ⟨ks,e',q1,y_,q3⟩
  rw [hm'] at q1;cases q1
  exact ⟨⟨oi,st.keep _ _ hoi nf q.1 q.2,hci,hdi⟩,st.io_get hi,(q3 rfl).1.trans ha,hv.step st,hn,st.nofoot hoi nf⟩
 item:=fun {i s io m v Q E} hv z_ H hg hQ=>by
  rcases z_ with ⟨hit,hi,ha,hx,hn,nf⟩
  obtain ⟨u,hu,ku⟩:=hx.get hv
  rw [List.getElem?_map,Array.getElem?_toList] at hu
  have hlt:i < es.size:=by
   rcases Nat.lt_or_ge i es.size with q | q
   ·exact q
   ·rw [Array.getElem?_eq_none q] at hu;cases hu
  rw [Array.getElem?_eq_getElem hlt] at hu
  cases hu
  refine aT9 hit ha hd hlt fun h' hit' hs=>?_
  have kk:∀ b o,b∉[I]->s.heap.get? b=some o->h'.get? b=some o:=fun b o hb e=>(hs.2 b (by simpa using hb)).trans e
  refine hQ _ h' s.toks ku ⟨hit',hi,kk _ _ (by simpa using Ne.symm hn) ha,hx.sol fun b o e so=>?_,hn,nf⟩ kk
  obtain ⟨oi,hoi,hci,hdi⟩:=hit
  exact kk b o (fun q=>by rw [List.mem_singleton.mp q,hoi] at e;cases e;exact bR hci hdi so) e
 alive:=fun z_ b hb=>by rcases z_ with ⟨⟨o,ho,y_⟩,y_⟩;rw [List.mem_singleton.mp hb];exact ⟨o,ho⟩
 self:=fun st hQ=>wpAny_pyIter_keyiter st.1 hQ
 lot:=fun {i s io target u Q E} st hQ=>by
  obtain ⟨⟨oi,hoi,hci,hdi⟩,y_⟩:=id st
  exact aH1 hoi hci hdi (by decide) (hQ _ st fun y_ y_ y_ e=>e)
 done:=fun {s io m Q E} z_ H hg hQ=>by
  rcases z_ with ⟨hit,hi,ha,hx,hn,nf⟩
  have hl:=hx.length
  refine bE2 hh hit ha hd (by simp at hl;lia) fun h' hs=>?_
  exact hQ h' s.toks fun b o hb e=>hs b o (by simpa using hb) e
noncomputable def SrcP (W:Wd) (A:Around) (fs:List Env) (own:List Addr) (s:Shared) (io:Io) (m:MH) (p:List V×Gd) (t:Sem Value):Prop:=
 ∀ (Q:Value->Shared->Prop) (E:Value->Shared->Prop),(∀ I wr St h' tk,Wk W A I wr p.2 p.1 St->St 0 h' io->(∀ b o,s.heap.get? b=some o->h'.get? b=some o)->(∀ b∈wr,s.heap.get? b=none)->(p.2.stays m=true)->Q (.ref I) { s with heap:=h',toks:=tk })->wpAny (model W.prog W.w) A t Q E s
theorem dD (H:HR W s.heap io m):¬ dG io s.heap.objs.size:=fun f=>by
 obtain ⟨o,e,y_⟩:=H.foot f
 rw [aQ] at e;cases e
set_option tactic.hygienic true in
theorem cD2 (ok:WOk W) (hh:A.handled=none) (H:HR W s.heap io m) {v:V} {u:Value} (k:VR W s.heap io v u) {p:List V×Gd} {m':MH} (hp:eD v m=.ok p m'):m'=m /\ SrcP W A fs own s io m p (pyIter u):=by
 induction k using VR.elim with
 | none=>cases hp
 | bool b=>cases hp
 | int i t=>cases hp
 | tup y_ y_=>cases hp
 | str x t hx=>
  cases hp
  refine ⟨rfl,fun Q E hQ=>?_⟩
  have key:∀ (T:String) (hT:(["enumerate","zip","dict_itemiterator","dict_reverseitemiterator","odict_iterator","itertools.zip_longest","itertools.pairwise"].contains T)=false) (hw:Walks W.prog W.w A s.heap.objs.size [s.heap.objs.size] [s.heap.objs.size] x.cps.size (SignAt x) (fun i h=>h.IsStrIter s.heap.objs.size T x t i)),Wk W A s.heap.objs.size [s.heap.objs.size] .none (x.cps.toList.map fun c=>V.str ⟨#[c]⟩) (fun i h io=>h.IsStrIter s.heap.objs.size T x t i /\ ¬ dG io s.heap.objs.size):=fun T hT hw=>by
   refine Wk.of_walks hw (by simp) (fun i v u h io hv hP=>?_) (fun i h ⟨o,ho,hc,hd⟩=>⟨o,T,_,ho,hc,hd,hT⟩) fun b hb=>.inl (by simpa using hb)
   obtain ⟨c,t',e1,rfl⟩:=hP
   rw [List.getElem?_map,Array.getElem?_toList,e1] at hv
   cases hv
   exact .str _ _ (aR4 hx e1)
  cases ha:x.cps.all (· < 128)
  ·exact wpAny_pyIter_wide ha (hQ _ _ _ _ _ (key _ (by decide) (Walks.strWide hh _ x t)) ⟨⟨_,Heap.get?_push_size _ rfl,rfl,rfl⟩,dD H⟩ (aL _) (fun b hb=>by rw [List.mem_singleton.mp hb];exact aQ _) rfl)
  ·exact wpAny_pyIter_ascii ha (hQ _ _ _ _ _ (key _ (by decide) (Walks.strAscii hh _ x t)) ⟨⟨_,Heap.get?_push_size _ rfl,rfl,rfl⟩,dD H⟩ (aL _) (fun b hb=>by rw [List.mem_singleton.mp hb];exact aQ _) rfl)
 | @ref n a d hi=>
  simp only [eD] at hp
  split at hp
  ·rename_i xs hm
   cases hp
   obtain ⟨y_,us,c,h1,h2,h3⟩:=H.obj _ _ _ hi hm
   refine ⟨rfl,fun Q E hQ=>wpAny_pyIter_list ⟨_,h1,rfl,c,rfl⟩ ?_⟩
   refine hQ _ _ _ _ _ (Wk.list (a:=a) (d:=d) hh) ⟨⟨_,Heap.get?_push_size _ rfl,rfl,rfl⟩,hi,dD H⟩ (aL _) (fun b hb=>by rw [List.mem_singleton.mp hb];exact aQ _) ?_
   simp only [Gd.stays,hm];exact e8 xs
  ·rename_i kvs e hm
   cases hp
   obtain ⟨y_,o,es,c,h1,h2,h3,h4,h5,h6⟩:=H.obj _ _ _ hi hm
   refine ⟨rfl,fun Q E hQ=>aU0 (H.notSys ok ⟨_,List.mem_of_getElem? hi,.inl rfl⟩) h1 h2 h3 ?_⟩
   refine hQ _ _ _ _ _ (Wk.dict (a:=a) (d:=d) (k:=n) (e:=e) hh h3) ⟨⟨_,Heap.get?_push_size _ rfl,rfl,rfl⟩,hi,aL _ _ _ h1,h4.keys.step (.of_keeps (own:=[]) (fr:=[]) H (aL _)),fun e=>?_,dD H⟩ (aL _) (fun b hb=>by rw [List.mem_singleton.mp hb];exact aQ _) ?_
   ·have h1:s.heap.get? a=some o:=h1
    rw [<- e,aQ] at h1;cases h1
   ·simp only [Gd.stays,hm];exact beq_self_eq_true e
  ·cases hp
 | scr y_ y_ y_ y_ y_=>cases hp
end
end Mini
namespace Mini
open PySem PySem.W
section
variable {W:Wd} {K:Frag} {h h':Heap} {fs:List Env} {env:Env} {vis:List (Option Str)} {s s':Shared} {io io' io₀:Io} {m m' m₀:MH} {r r':Lo} {fr own own':List Addr} {A:Around} {n:Nat} {pos p:Pos}
noncomputable def SiS (W:Wd) (A:Around) (fs:List Env) (env:Env) (vis:List (Option Str)) (t:Sem Flow) (c:Lo->Mn (Fl×Lo)):Prop:=
 ∀ (s:Shared) (io:Io) (m:MH) (r:Lo),Stt W fs env vis s io m r->Si W (cI env) A (env::fs) (SP W env vis) t s io m (c r m)
theorem x_nil:SiS W A fs env vis (execs [] env) (fun r=>ret (.next,r)):=fun y_ y_ y_ y_ Z=>.pure (u:=Flow.next) Z.H ⟨.next,Z.F⟩
theorem cX0 {st:Stmt} {rest:List Stmt} {c1 c2:Lo->Mn (Fl×Lo)} (h1:SiS W A fs env vis (exec st env) c1) (h2:SiS W A fs env vis (execs rest env) c2) :
  SiS W A fs env vis (execs (st::rest) env) (fun r=>bnd (c1 r) fun p=>match p.1 with | .next=>c2 p.2 | f=>ret (f,p.2)):=by
 intro s io m r Z
 rw [execs_cons]
 refine Si.bind (h1 s io m r Z) fun f s₁ io₁ m₁ p y_ st H₁ k sm=>?_
 rcases p with ⟨q,r₁⟩
 rcases k with ⟨kf,kF⟩
 cases kf with
 | next=>exact h2 _ _ _ _ (Z.stepO H₁ st kF)
 | cont=>exact .pure H₁ ⟨.cont,kF⟩
 | ret kv=>exact .pure H₁ ⟨.ret kv,kF⟩
theorem Si.bindE {α β α' β':Type} {P:Heap->Io->α->β->Prop} {P':Heap->Io->α'->β'->Prop} {t:Sem β} {k:β->Sem β'} {R:Res α} {f:α->Mn α'} (x:Si W [] A fs P t s io m R)
  (y:∀ u s₁ io₁ m₁ v,R=.ok v m₁->Step [] (frs fs) s.heap io m s₁.heap io₁ m₁->HR W s₁.heap io₁ m₁->P s₁.heap io₁ v u->Same s s₁->Si W own A fs P' (k u) s₁ io₁ m₁ (f v m₁)) :
  Si W own A fs P' (t >>= k) s io m (R.bind f):=by
 intro hne
 refine wpAny_bind (wpAny_mono (x (Res.bind_ne hne)) (fun u s₁ hp=>?_) fun e s₁ hp=>?_)
 ·obtain ⟨v,m₁,io₁,rfl,st,hr,hp,sm⟩:=hp
  have st':=st.wk (own':=own) fun y_ q=>nomatch q
  exact wpAny_mono (y u s₁ io₁ m₁ v rfl st hr hp sm hne) (fun y_ y_ z=>z.mono st' sm) fun y_ y_ z=>z
 ·exact hp.elim
theorem x_ret {e:Expr} {c:Lo->Mn V} (he:SiE W A (env::fs) env vis (eval e env) c):SiS W A fs env vis (exec (.Return (some e) pos) env) (fun r=>bnd (c r) fun v=>ret (.ret v,r)):=by
 intro s io m r Z
 rw [exec_Return_some]
 refine .standAt (Si.bindE (he s io m r Z.sit) fun u s₁ io₁ m₁ v y_ st H₁ k sm=>?_)
 exact .pure H₁ ⟨.ret k,Z.F.step0 Z.H st⟩
theorem cW7:SiS W A fs env vis (exec (.Pass pos) env) (fun r=>ret (.next,r)):=fun y_ y_ y_ y_ Z=>.standAt (.pure Z.H ⟨.next,Z.F⟩)
theorem cW9:SiS W A fs env vis (exec (.Continue pos) env) (fun r=>ret (.cont,r)):=fun y_ y_ y_ y_ Z=>.standAt (.pure Z.H ⟨.cont,Z.F⟩)
theorem x_if {test:Expr} {body orelse:List Stmt} {ct:Lo->Mn Bool} {ca cb:Lo->Mn (Fl×Lo)} (ht:SiB W A (env::fs) env vis (isTrue test env (eval test env)) ct) (ha:SiS W A fs env vis (execs body env) ca) (hb:SiS W A fs env vis (execs orelse env) cb) :
  SiS W A fs env vis (exec (.If test body orelse pos) env) (fun r=>bnd (ct r) fun t=>if t then ca r else cb r):=by
 intro s io m r Z
 rw [exec_If]
 refine .standAt (Si.bindE (ht s io m r Z.sit) fun u s₁ io₁ m₁ v y_ st H₁ k sm=>?_)
 cases k
 cases v
 ·exact hb _ _ _ r (Z.step H₁ st)
 ·exact ha _ _ _ r (Z.step H₁ st)
theorem x_exp {e:Expr} {c:Lo->Mn V} (hs:swapsWith e none pos.line env=Pure.pure false) (he:SiE W A (env::fs) env vis (eval e env) c):SiS W A fs env vis (exec (.Expr e pos) env) (fun r=>bnd (c r) fun y_=>ret (.next,r)):=by
 intro s io m r Z
 rw [exec_Expr env e pos (by unfold interactive;rw [Z.F.kind];rfl) hs]
 refine .standAt (Si.bindE (he s io m r Z.sit) fun u s₁ io₁ m₁ v y_ st H₁ k sm=>?_)
 exact fun y_=>wpAny_dropValue ⟨_,m₁,io₁,rfl,.refl,H₁,⟨.next,Z.F.step0 Z.H st⟩,.refl _⟩
noncomputable def SiA (W:Wd) (A:Around) (fs:List Env) (env:Env) (vis:List (Option Str)) (target:Expr) (c:V->Lo->Mn Lo):Prop:=
 ∀ (s:Shared) (io:Io) (m:MH) (r:Lo) (v:V) (u:Value),Stt W fs env vis s io m r->VR W s.heap io v u->Si W (cI env) A (env::fs) (RP W env vis) (assign target env u) s io m (c v r m)
theorem Si.bindName {x:Str} {u:Value} {α:Type} {P:Heap->Io->α->Unit->Prop} {R:Res α} (h:Si W own A fs P (storeName env x u) s io m R):Si W own A fs P (PySem.bindName env x u) s io m R:=fun hne=>wpAny_bindName (h hne)
theorem aX0 {i:Nat} {x:Str} (hv:vis[i]?=some (some x)) (hk:env.kindOf x=some .local \/ env.kindOf x=some .cell):SiA W A fs env vis (.Name x pos) (fun v r m=>.ok (r.set i (some v)) m):=
 fun y_ y_ y_ y_ y_ y_ Z k=>.standAt (.bindName (bN9 Z hv hk k))
theorem bK7 {target value:Expr} {c:Lo->Mn V} {ca:V->Lo->Mn Lo} (he:SiE W A (env::fs) env vis (eval value env) c) (ha:SiA W A fs env vis target ca) (hs:swapsWithSole [target] value pos.line env=Pure.pure false) (hw:swappedStores [target] value env=Pure.pure none) (hst:(assignEach [target] env).map (·.2)=[assign target env]) :
  SiS W A fs env vis (exec (.Assign [target] value pos) env) (fun r=>bnd (c r) fun v=>bnd (ca v r) fun r'=>ret (.next,r')):=by
 intro s io m r Z hne
 refine wpAny_Assign_stores ?_ hs hw
 rw [hst]
 refine wpAny_mono (he s io m r Z.sit (Res.bind_ne hne)) (fun u s₁ q=>?_) fun e s₁ hp=>?_
 ·obtain ⟨v,m₁,io₁,e1,st,H₁,k,sm⟩:=q
  have ee:bnd (c r) (fun v=>bnd (ca v r) fun r'=>ret ((Fl.next,r'):Fl×Lo)) m=(ca v r m₁).bind fun r'=>ret ((Fl.next,r'):Fl×Lo):=by show (c r m).bind _=_;rw [e1];rfl
  dsimp only at hne ⊢
  rw [ee] at hne ⊢
  have st':=st.wk (own':=cI env) fun y_ q=>nomatch q
  refine wpAny_mono (ha s₁ io₁ m₁ r v u (Z.step H₁ st) k (Res.bind_ne hne)) (fun y_ s₂ q=>?_) fun y_ y_ q=>q
  obtain ⟨r₂,m₂,io₂,e2,st2,H2,k2,sm2⟩:=q
  exact ⟨(.next,r₂),m₂,io₂,by rw [e2];rfl,st'.trans st2,H2,⟨.next,k2⟩,sm.trans sm2⟩
 ·exact hp.elim
noncomputable def ItP (W:Wd) (A:Around) (h₀:Heap):Heap->Io->List V×Gd->Value->Prop:=fun h io p u=>∃ I wr St,u=.ref I /\ Wk W A I wr p.2 p.1 St /\ St 0 h io /\ ∀ b∈wr,h₀.get? b=none
noncomputable def SiSrc (W:Wd) (A:Around) (fs:List Env) (env:Env) (vis:List (Option Str)) (iter:Expr) (c:Lo->Mn (List V×Gd)):Prop:=
 ∀ (s:Shared) (io:Io) (m:MH) (r:Lo),Sit W fs env vis s io m r->c r m≠.bad->wpAny (model W.prog W.w) A (eval iter env) (fun x s₁=>wpAny (model W.prog W.w) A (pyIter x) (fun it s₂=>NP W [] (frs fs) s io m (ItP W A s.heap) (c r m) it s₂) NX s₁) NX s
theorem cQ {h₀:Heap} (st:Step own fr h₀ io₀ m₀ h io m) {b:Addr} (e:h.get? b=none):h₀.get? b=none:=by
 cases q:h₀.get? b with
 | none=>rfl
 | some o=>rcases st.alive b o q with ⟨o',e'⟩;rw [e] at e';cases e'
theorem bZ5 {iter:Expr} {c:Lo->Mn V} (ok:WOk W) (hh:A.handled=none) (he:SiE W A fs env vis (eval iter env) c):SiSrc W A fs env vis iter (fun r=>bnd (c r) eD):=by
 intro s io m r Z hne
 refine wpAny_mono (he s io m r Z (Res.bind_ne hne)) (fun u s₁ q=>?_) fun y_ y_ q=>q
 obtain ⟨v,m₁,io₁,e1,st,H₁,k,sm⟩:=q
 have ee:bnd (c r) eD m=eD v m₁:=by show (c r m).bind _=_;rw [e1];rfl
 dsimp only at hne ⊢
 rw [ee] at hne ⊢
 cases hq:eD v m₁ with
 | bad=>exact absurd hq hne
 | exc c' m'=>unfold eD at hq;split at hq <;> first | cases hq | (split at hq <;> cases hq)
 | ok p m'=>
  rcases cD2 (fs:=fs) (own:=[]) ok hh H₁ k hq with ⟨rfl,key⟩
  refine key _ _ fun I wr St h' tk hw h0 hk hn hg=>?_
  have st2:Step [] (frs fs) s₁.heap io₁ m' h' io₁ m':=.of_keeps H₁ hk
  exact ⟨p,m',io₁,rfl,st.trans st2,H₁.of_keeps hk,⟨I,wr,St,rfl,hw,h0,fun b hb=>cQ st (hn b hb)⟩,sm⟩
theorem FR.sideN {wr:List Addr} {h₀:Heap} (F:FR W h io env vis r) (x:Side W wr h₀ h io h') (hL:env.locals∉wr) (hc:∀ y c,env.cells.lookup y=some c->c∉wr):FR W h' io env vis r:=by
 obtain ⟨mp,hn,hl⟩:=F.loc
 have sc:∀ y c v,env.cells.lookup y=some c->h.IsCell c v->h'.IsCell c v:=fun y c v hy ⟨o,ho,hd⟩=>⟨o,x.keep _ _ (hc y c hy) ho,hd⟩
 refine ⟨F.kind,F.glob,F.blt,F.nofoot,F.fresh,⟨mp,?_,fun i y v h1 h2 h3=>?_⟩,fun i y v h1 h2 h3=>?_,fun y c hy=>?_,F.celex,F.apart,F.inj,F.len⟩
 ·obtain ⟨o,es,ep,ho,hd,q⟩:=hn
  exact ⟨o,es,ep,x.keep _ _ hL ho,hd,q⟩
 ·obtain ⟨u,e,k⟩:=hl i y v h1 h2 h3
  exact ⟨u,e,k.sol x.sol⟩
 ·obtain ⟨c,u,e,k1,k2⟩:=F.cel i y v h1 h2 h3
  exact ⟨c,u,e,sc y c _ e k1,k2.sol x.sol⟩
 ·obtain ⟨⟨o,k1⟩,k2,k3⟩:=F.cells y c hy
  exact ⟨⟨o,sc y c _ hy k1⟩,k2,k3⟩
theorem FR.side {wr:List Addr} {h₀:Heap} (F:FR W h io env vis r) (x:Side W wr h₀ h io h') (hL:∃ o,h₀.get? env.locals=some o) (hc:∀ y c,env.cells.lookup y=some c->∃ o,h₀.get? c=some o):FR W h' io env vis r:=by
 have nw:∀ b,(∃ o,h₀.get? b=some o)->b∉wr:=fun b z_ q=>by rcases z_ with ⟨o,e⟩;rw [x.new b q] at e;cases e
 obtain ⟨mp,hn,hl⟩:=F.loc
 have sc:∀ y c v,env.cells.lookup y=some c->h.IsCell c v->h'.IsCell c v:=fun y c v hy ⟨o,ho,hd⟩=>⟨o,x.keep _ _ (nw c (hc y c hy)) ho,hd⟩
 refine ⟨F.kind,F.glob,F.blt,F.nofoot,F.fresh,⟨mp,?_,fun i y v h1 h2 h3=>?_⟩,fun i y v h1 h2 h3=>?_,fun y c hy=>?_,F.celex,F.apart,F.inj,F.len⟩
 ·obtain ⟨o,es,ep,ho,hd,q⟩:=hn
  exact ⟨o,es,ep,x.keep _ _ (nw _ hL) ho,hd,q⟩
 ·obtain ⟨u,e,k⟩:=hl i y v h1 h2 h3
  exact ⟨u,e,k.sol x.sol⟩
 ·obtain ⟨c,u,e,k1,k2⟩:=F.cel i y v h1 h2 h3
  exact ⟨c,u,e,sc y c _ e k1,k2.sol x.sol⟩
 ·obtain ⟨⟨o,k1⟩,k2,k3⟩:=F.cells y c hy
  exact ⟨⟨o,sc y c _ hy k1⟩,k2,k3⟩
theorem dD6 {g:Gd} {step:V->Lo->Mn (Fl×Lo)} {v:V} {vs:List V} {r:Lo} {m:MH} (h:g.stays m=true):aM0 g step (v::vs) r m=(step v r m).bind (fun p=>match p.1 with | .ret x=>ret (.ret x,p.2) | _=>aM0 g step vs p.2):=if_pos h
theorem dD5 {g:Gd} {step:V->Lo->Mn (Fl×Lo)} {r:Lo} {m:MH} (h:g.stays m=true):aM0 g step [] r m=.ok (.next,r) m:=if_pos h
theorem aL9 {g:Gd} {step:V->Lo->Mn (Fl×Lo)} {vs:List V} (h:aM0 g step vs r m≠.bad):g.stays m=true:=by
 cases q:g.stays m with
 | true=>rfl
 | false=>
  have z:¬ g.stays m=true:=by rw [q];exact Bool.false_ne_true
  cases vs with
  | nil=>exact absurd (if_neg z) h
  | cons y_ y_=>exact absurd (if_neg z) h
inductive FInv (W:Wd) (fs:List Env) (env:Env) (vis:List (Option Str)) (s:Shared) (io:Io) (m:MH) (St:Nat->Heap->Io->Prop) (g:Gd) (f:V->Lo->Mn (Fl×Lo)) (vs:List V) (R:Res (Fl×Lo)) (k:Nat) (s':Shared):Prop
 | mk (i:Nat) (r':Lo) (io':Io) (m':MH):k=vs.length - i->i <= vs.length->Step (cI env) (frs (env::fs)) s.heap io m s'.heap io' m'->HR W s'.heap io' m'->FR W s'.heap io' env vis r'->St i s'.heap io'->Same s s'->aM0 g f (vs.drop i) r' m'=R->FInv W fs env vis s io m St g f vs R k s'
structure WkF (W:Wd) (A:Around) (I:Addr) (wr:List Addr) (g:Gd) (vs:List V) (St:Nat->Heap->Io->Prop) (tg:Expr):Prop where
 soft:∀ {i:Nat} {h:Heap} {io:Io},St i h io->∀ b∈wr,¬ dG io b /\ ∀ o,h.get? b=some o->¬ c9 o
 stay:∀ {i:Nat} {h h':Heap} {io io':Io} {m m':MH} {own fr:List Addr},St i h io->HR W h io m->HR W h' io' m'->Step own fr h io m h' io' m'->(∀ b∈wr,b∉own /\ b∉fr)->g.stays m=true->g.stays m'=true->St i h' io'
 next:∀ {i:Nat} {s:Shared} {io:Io} {m:MH} {v:V} {Q:Option Value->Shared->Prop} {E:Value->Shared->Prop},vs[i]?=some v->St i s.heap io->HR W s.heap io m->g.stays m=true ->
  (∀ u h₁ tk,(∀ {Q':Unit->Shared->Prop} {E':Value->Shared->Prop},(∀ h₂,VR W h₂ io v u->St (i+1) h₂ io->(∀ b o,b∉wr->s.heap.get? b=some o->h₂.get? b=some o)->Q' () { s with heap:=h₂,toks:=tk })->wpAny (model W.prog W.w) A (letOwnedTupleGo tg (.ref I) u) Q' E' { s with heap:=h₁,toks:=tk })->Q (some u) { s with heap:=h₁,toks:=tk })->wpAny (model W.prog W.w) A (pyNext (.ref I)) Q E s
 done:∀ {s:Shared} {io:Io} {m:MH} {Q:Option Value->Shared->Prop} {E:Value->Shared->Prop},St vs.length s.heap io->HR W s.heap io m->g.stays m=true ->
  (∀ h' tk,(∀ b o,b∉wr->s.heap.get? b=some o->h'.get? b=some o)->Q none { s with heap:=h',toks:=tk })->wpAny (model W.prog W.w) A (pyNext (.ref I)) Q E s
theorem Wk.forF {I:Addr} {wr:List Addr} {g:Gd} {vs:List V} {St:Nat->Heap->Io->Prop} {tg:Expr} (hw:Wk W A I wr g vs St):WkF W A I wr g vs St tg where
 soft:=hw.soft
 stay:=hw.stay
 next:=fun {i s io m v Q E} hv hst H hg hQ=>hw.item hv hst H hg fun u h₁ tk ku hst₁ kk=>hQ u h₁ tk fun k=>hw.lot (s:={ s with heap:=h₁,toks:=tk }) hst₁ fun h₂ hst₂ kk₂=>by
  have kk':∀ b o,b∉wr->s.heap.get? b=some o->h₂.get? b=some o:=fun b o hb e=>kk₂ b o hb (kk b o hb e)
  exact k h₂ (ku.sol fun b o e so=>kk' b o (fun q=>(hw.soft hst b q).2 o e so) e) hst₂ kk'
 done:=hw.done
noncomputable def ItF (W:Wd) (A:Around) (tg:Expr) (h₀:Heap):Heap->Io->List V×Gd->Value->Prop:=fun h io p u=>∃ I wr St,u=.ref I /\ WkF W A I wr p.2 p.1 St tg /\ St 0 h io /\ ∀ b∈wr,h₀.get? b=none
noncomputable def bB4 (W:Wd) (A:Around) (fs:List Env) (env:Env) (vis:List (Option Str)) (tg iter:Expr) (c:Lo->Mn (List V×Gd)):Prop:=
 ∀ (s:Shared) (io:Io) (m:MH) (r:Lo),Sit W fs env vis s io m r->c r m≠.bad->wpAny (model W.prog W.w) A (eval iter env) (fun x s₁=>wpAny (model W.prog W.w) A (pyIter x) (fun it s₂=>NP W [] (frs fs) s io m (ItF W A tg s.heap) (c r m) it s₂) NX s₁) NX s
theorem SiSrc.forF {iter tg:Expr} {c:Lo->Mn (List V×Gd)} (h:SiSrc W A fs env vis iter c):bB4 W A fs env vis tg iter c:=fun s io m r Z hne=>by
 refine wpAny_mono (h s io m r Z hne) (fun x s₁ q=>wpAny_mono q (fun it s₂ q=>?_) fun y_ y_ q=>q) fun y_ y_ q=>q
 rcases q with ⟨p,m₂,io₂,e2,st₂,H₂,⟨I,wr,St,e,hw,h0,hnew⟩,sm₂⟩
 exact ⟨p,m₂,io₂,e2,st₂,H₂,⟨I,wr,St,e,hw.forF,h0,hnew⟩,sm₂⟩
theorem cW8 (hA:A.frames=some (env::fs)) {target iter:Expr} {body:List Stmt} {c:Lo->Mn (List V×Gd)} {ca:V->Lo->Mn Lo} {cb:Lo->Mn (Fl×Lo)} (hsrc:bB4 W A (env::fs) env vis target iter c) (ha:SiA W A fs env vis target ca) (hb:SiS W A fs env vis (execs body env) cb) (hf:∀ x,foldedSetIterable iter env x=Pure.pure x) :
  SiS W A fs env vis (exec (.For target iter body [] pos) env) (fun r=>bnd (c r) fun p=>aM0 p.2 (fun v r'=>bnd (ca v r') fun r''=>cb r'') p.1 r):=by
 intro s io m r Z hne
 refine wpAny_For (wpAny_mono (hsrc s io m r Z.sit (Res.bind_ne hne)) (fun x s₁ q=>wpAny_mono q (fun it s₂ q=>?_) fun e s₁ q=>?_) fun e s₁ q=>?_) hf
 rotate_left
 ·exact q.elim
 ·exact q.elim
 obtain ⟨⟨vs,g⟩,m₂,io₂,e2,st₂,H₂,⟨I,wr,St,rfl,hw,h0,hnew⟩,sm₂⟩:=q
 have ee:bnd (c r) (fun p=>aM0 p.2 (fun v r'=>bnd (ca v r') fun r''=>cb r'') p.1 r) m=aM0 g (fun v r'=>bnd (ca v r') fun r''=>cb r'') vs r m₂:=by show (c r m).bind _=_;rw [e2];rfl
 dsimp only at hne ⊢
 rw [ee] at hne ⊢
 have hL:∃ o,s.heap.get? env.locals=some o:=by rcases Z.F.loc with ⟨y_,⟨o,y_,y_,ho,y_⟩,y_⟩;exact ⟨o,ho⟩
 have hC:∀ y c,env.cells.lookup y=some c->∃ o,s.heap.get? c=some o:=fun y c hy=>by rcases Z.F.cells y c hy with ⟨⟨y_,o,ho,y_⟩,y_⟩;exact ⟨o,ho⟩
 have hOwn:∀ b∈cI env,∃ o,s.heap.get? b=some o:=fun b hb=>by
  rcases List.mem_cons.mp hb with rfl | hb
  ·exact hL
  ·obtain ⟨⟨y,c'⟩,hm,hq⟩:=List.mem_filterMap.mp hb
   exact hC y b hq
 have hFr:∀ b∈frs (env::fs),∃ o,s.heap.get? b=some o:=fun b hb=>by
  refine hide fun G_ g_=>?_
  rcases List.mem_filterMap.mp hb with ⟨e,he,hf⟩
  rcases Z.sit.G e he with ⟨y_,L,o,y_,y_,h1,y_,y_,h4,y_⟩
  refine g_ ?_
  clear g_ G_
  rw [h1] at hf;cases hf;exact ⟨o,h4⟩
 have hwr:∀ b∈wr,b∉cI env /\ b∉frs (env::fs):=fun b hb=>⟨fun q=>(by rcases hOwn b q with ⟨o,e⟩;rw [hnew b hb] at e;cases e),fun q=>(by rcases hFr b q with ⟨o,e⟩;rw [hnew b hb] at e;cases e)⟩
 have hbase:∀ b o,W.base.get? b=some o->s.heap.get? b=some o:=Z.H.keep
 refine codeAny_forLoop_any (I:=FInv W fs env vis s io m St g (fun v r'=>bnd (ca v r') fun r''=>cb r'') vs (aM0 g (fun v r'=>bnd (ca v r') fun r''=>cb r'') vs r m₂)) (fun k s' hI=>?_) vs.length ⟨0,r,io₂,m₂,by simp,Nat.zero_le _,st₂.wk (fun y_ q=>nomatch q),H₂,Z.F.step0 Z.H st₂,h0,sm₂,by simp⟩
 obtain ⟨i,r',io',m',hk,hi,st,H,F,hst,sm,he⟩:=hI
 have hne':aM0 g (fun v r'=>bnd (ca v r') fun r''=>cb r'') (vs.drop i) r' m'≠.bad:=by rw [he];exact hne
 have hg:=aL9 hne'
 have sft:=hw.soft hst
 by_cases hlt:i < vs.length
 ·have hv:vs[i]?=some vs[i]:=List.getElem?_eq_getElem hlt
  have hd:vs.drop i=vs[i]::vs.drop (i+1):=List.drop_eq_getElem_cons hlt
  refine hw.next hv hst H hg fun u h₁ tk hgo=>hgo fun h₂ ku2 hst₂ kk=>?_
  have sd:Side W wr s.heap s'.heap io' h₂:=⟨kk,hnew,fun b hb=>(sft b hb).1,fun b hb=>(sft b hb).2⟩
  have H2:=sd.hr H hbase
  have st2:=sd.step H st
  have F2:=F.side sd hL hC
  have Z2:Stt W fs env vis { s' with heap:=h₂,toks:=tk } io' m' r':=⟨H2,F2,Z.G.step st2 Z.dis,Z.fr,Z.dis⟩
  rw [hd] at he hne'
  rw [dD6 hg] at he hne'
  have hne1:ca vs[i] r' m'≠.bad:=fun q=>hne' (by show ((ca vs[i] r' m').bind cb).bind _=_;rw [q];rfl)
  refine wpAny_mono (ha _ io' m' r' vs[i] u Z2 ku2 hne1) (fun y_ s₃ q=>?_) fun e s₃ q=>?_
  rotate_left
  ·exact q.elim
  obtain ⟨r₃,m₃,io₃,e3,st3,H3,F3,sm3⟩:=q
  have st3':=st2.trans st3
  have Z3:Stt W fs env vis s₃ io₃ m₃ r₃:=⟨H3,F3,Z.G.step st3' Z.dis,Z.fr,Z.dis⟩
  have e4:bnd (ca vs[i] r') (fun r''=>cb r'') m'=cb r₃ m₃:=by show (ca vs[i] r' m').bind _=_;rw [e3];rfl
  rw [e4] at he hne'
  have hne2:cb r₃ m₃≠.bad:=fun q=>hne' (by rw [q];rfl)
  refine wpAny_mono (hb s₃ io₃ m₃ r₃ Z3 hne2) (fun f s₄ q=>?_) fun e s₄ q=>?_
  rotate_left
  ·exact q.elim
  obtain ⟨⟨fl,r₄⟩,m₄,io₄,e5,st4,H4,⟨kf,F4⟩,sm4⟩:=q
  rw [e5] at he hne'
  have st4':=st3'.trans st4
  have go:aM0 g (fun v r'=>bnd (ca v r') fun r''=>cb r'') (vs.drop (i+1)) r₄ m₄=aM0 g (fun v r'=>bnd (ca v r') fun r''=>cb r'') vs r m₂->∃ k',k' < k /\ FInv W fs env vis s io m St g (fun v r'=>bnd (ca v r') fun r''=>cb r'') vs (aM0 g (fun v r'=>bnd (ca v r') fun r''=>cb r'') vs r m₂) k' s₄:=fun q=>by
   have hg4:g.stays m₄=true:=aL9 (by rw [q];exact hne)
   exact ⟨vs.length - (i+1),hk▸Nat.sub_succ_lt_self _ _ hlt,i+1,r₄,io₄,m₄,rfl,hlt,st4',H4,F4,hw.stay hst₂ H2 H4 (st3.trans st4) hwr hg hg4,sm.trans (Same.trans ⟨rfl,rfl⟩ (sm3.trans sm4)),q⟩
  cases kf with
  | next=>exact go he
  | cont=>exact go he
  | ret kv=>exact ⟨_,m₄,io₄,he.symm,st4',H4,⟨.ret kv,F4⟩,sm.trans (Same.trans ⟨rfl,rfl⟩ (sm3.trans sm4))⟩
 ·have hi':i=vs.length:=by lia
  subst hi'
  refine hw.done hst H hg fun h₁ tk kk=>?_
  have sd:Side W wr s.heap s'.heap io' h₁:=⟨kk,hnew,fun b hb=>(sft b hb).1,fun b hb=>(sft b hb).2⟩
  rw [List.drop_length] at he
  rw [dD5 hg] at he
  exact wpAny_execs_nil ⟨_,m',io',he.symm,sd.step H st,sd.hr H hbase,⟨.next,F.side sd hL hC⟩,sm.trans ⟨rfl,rfl⟩⟩
end
end Mini
namespace Mini
open PySem PySem.W
section
variable {W:Wd} {fs:List Env} {env:Env} {vis:List (Option Str)} {s s':Shared} {io io':Io} {m m':MH} {r r':Lo} {A:Around} {n:Nat} {pos p:Pos}
noncomputable def Tgs (env:Env) (vis:List (Option Str)):List Nat->List Expr->Prop
 | [],es=>es=[]
 | i::is,es=>∃ x p es',es=.Name x p::es' /\ vis[i]?=some (some x) /\ (env.kindOf x=some .local \/ env.kindOf x=some .cell) /\ Tgs env vis is es'
theorem Tgs.len:∀ {is:List Nat} {es:List Expr},Tgs env vis is es->(assignEach es env).length=is.length /\ (assignEach es env).findIdx? (·.1)=none
 | [],_,h=>by cases h;exact ⟨rfl,rfl⟩
 | i::is,_,z=>by
  rcases z with ⟨x,p,es',e,y_,y_,t⟩
  subst e
  rcases t.len with ⟨h1,h2⟩
  have e:assignEach (.Name x p::es') env=(false,assign (.Name x p) env)::assignEach es' env:=rfl
  rw [e,List.findIdx?_cons,h2]
  exact ⟨by simp [h1],rfl⟩
theorem fM:∀ {is:List Nat} {vs:List V} {r r':Lo},cA is vs r=some r'->is.length=vs.length
 | [],[],_,_,_=>rfl
 | [],_::_,_,_,h=>by cases h
 | _::_,[],_,_,h=>by cases h
 | i::is,v::vs,r,r',h=>congrArg Nat.succ (fM (show cA is vs (r.set i (some v))=some r' from h))
theorem bR6:∀ {is:List Nat} {elts:List Expr},Tgs env vis is elts->∀ {vs:List V} {us:List Value} {s:Shared} {io:Io} {m:MH} {r:Lo},Stt W fs env vis s io m r->VRs W s.heap io vs us ->
  Si W (cI env) A (env::fs) (RP W env vis) (assignInOrder ((assignEach elts env).map (·.2)) us) s io m (ofO (cA is vs r) m)
 | [],_,h,vs,us,s,io,m,r,Z,k=>by
  cases h
  induction k using VRs.elim with
  | nil=>exact Si.pure (P:=RP W env vis) Z.H Z.F
  | cons y_ y_=>exact Si.bad
 | i::is,_,z,vs,us,s,io,m,r,Z,k=>by
  rcases z with ⟨x,p,es',e,hv,hk,t⟩
  subst e
  induction k using VRs.elim with
  | nil=>exact Si.bad
  | @cons v u vs us k1 k2=>
   refine Si.bind (R:=(.ok (r.set i (some v)) m:Res Lo)) (f:=fun r' m'=>ofO (cA is vs r') m') (.holding (aX0 (pos:=p) hv hk _ _ _ _ _ _ Z k1)) fun y_ s₁ io₁ m₁ r₁ e st H kF sm=>?_
   cases e
   exact bR6 t (Z.stepO H st kF) (k2.step st)
theorem cL4 (hh:A.handled=none) {is:List Nat} {elts:List Expr} {x1:Nat} (ht:Tgs env vis is elts):SiA W A fs env vis (.Tuple elts x1 pos) (fun v r=>aE1 (.many is) v r):=by
 intro s io m r v u Z k
 induction k using VR.elim with
 | @tup a vs c xs h1 h4=>
  show Si W (cI env) A (env::fs) (RP W env vis) _ s io m (ofO (cA is xs r) m)
  intro hne
  have hl:is.length=xs.length:=by
   cases q:cA is xs r with
   | none=>rw [q] at hne;exact absurd rfl hne
   | some r'=>exact fM q
  refine wpAny_assign_Tuple hh ⟨_,h1,rfl,c,rfl⟩ (by rw [ht.len.1,hl];have:=h4.length;simpa using this.symm) ht.len.2 fun h' hx=>?_
  have hk:∀ b o,s.heap.get? b=some o->h'.get? b=some o:=fun b o e=>hx b o (fun q=>by rw [q,aQ] at e;cases e) e
  have st:Step (cI env) (frs (env::fs)) s.heap io m h' io m:=.of_keeps Z.H hk
  have st0:Step [] (frs (env::fs)) s.heap io m h' io m:=.of_keeps Z.H hk
  have Z':Stt W fs env vis { s with heap:=h' } io m r:=Z.step (Z.H.of_keeps hk) st0
  exact wpAny_mono (bR6 ht Z' (h4.step st) hne) (fun y_ y_ z=>z.mono st ⟨rfl,rfl⟩) fun y_ y_ z=>z
 | _=>exact Si.bad
end
end Mini
namespace Mini
open PySem PySem.W
section
variable {W:Wd} {K:Frag} {h h':Heap} {fs:List Env} {env:Env} {vis:List (Option Str)} {s s':Shared} {io io' io₀:Io} {m m' m₀:MH} {r r':Lo} {fr own own':List Addr} {A:Around} {n:Nat} {pos p:Pos}
inductive WInv (W:Wd) (fs:List Env) (env:Env) (vis:List (Option Str)) (s:Shared) (io:Io) (m:MH) (ct:Lo->Mn Bool) (cb:Lo->Mn (Fl×Lo)) (R:Res (Fl×Lo)) (k:Nat) (s':Shared):Prop
 | mk (r':Lo) (io':Io) (m':MH):Step (cI env) (frs (env::fs)) s.heap io m s'.heap io' m'->HR W s'.heap io' m'->FR W s'.heap io' env vis r'->Same s s'->aE9 ct cb k r' m'=R->WInv W fs env vis s io m ct cb R k s'
theorem cM3 {test:Expr} {body:List Stmt} {ct:Lo->Mn Bool} {cb:Lo->Mn (Fl×Lo)} {fuel:Nat} (ht:SiB W A (env::fs) env vis (isTrue test env (eval test env)) ct) (hb:SiS W A fs env vis (execs body env) cb) :
  SiS W A fs env vis (exec (.While test body [] pos) env) (fun r=>aE9 ct cb fuel r):=by
 intro s io m r Z hne
 dsimp only at hne ⊢
 refine wpAny_While ?_
 refine codeAny_whileLoop (I:=WInv W fs env vis s io m ct cb (aE9 ct cb fuel r m)) (fun k s' hI=>?_) fuel ⟨r,io,m,.refl,Z.H,Z.F,.refl _,rfl⟩
 obtain ⟨r',io',m',st,H,F,sm,he⟩:=hI
 rw [<- he] at hne
 cases k with
 | zero=>exact absurd rfl hne
 | succ k=>
  simp only [aE9] at he hne
  have Z':Stt W fs env vis s' io' m' r':=Z.stepO H st F
  have hne1:ct r' m'≠.bad:=fun q=>hne (by show ((ct r' m').nox).bind _=_;rw [q];rfl)
  refine wpAny_mono (ht s' io' m' r' Z'.sit hne1) (fun b s₂ q=>?_) fun e s₂ q=>?_
  rotate_left
  ·exact q.elim
  obtain ⟨b',m₂,io₂,e2,st2,H2,rfl,sm2⟩:=q
  have Z2:=Z'.step H2 st2
  have st2':=st.trans (st2.wk (own':=cI env) fun y_ q=>nomatch q)
  have e3:∀ f:Bool->Mn (Fl×Lo),bnd (fun m=>(ct r' m).nox) f m'=f b' m₂:=fun f=>by show ((ct r' m').nox).bind _=_;rw [e2];rfl
  rw [e3] at he hne
  cases b' with
  | false=>exact wpAny_execs_nil ⟨(.next,r'),m₂,io₂,he.symm,st2',H2,⟨.next,Z2.F⟩,sm.trans sm2⟩
  | true=>
   simp only [if_true] at he hne ⊢
   have hne2:cb r' m₂≠.bad:=fun q=>hne (by show ((cb r' m₂).nox).bind _=_;rw [q];rfl)
   refine wpAny_mono (hb s₂ io₂ m₂ r' Z2 hne2) (fun f s₄ q=>?_) fun e s₄ q=>?_
   rotate_left
   ·exact q.elim
   obtain ⟨⟨fl,r₄⟩,m₄,io₄,e5,st4,H4,⟨kf,F4⟩,sm4⟩:=q
   have e6:∀ f:Fl×Lo->Mn (Fl×Lo),bnd (fun m=>(cb r' m).nox) f m₂=f (fl,r₄) m₄:=fun f=>by show ((cb r' m₂).nox).bind _=_;rw [e5];rfl
   rw [e6] at he hne
   have st4':=st2'.trans st4
   have sm4':=(sm.trans sm2).trans sm4
   cases kf with
   | next=>exact ⟨k,Nat.lt_succ_self _,r₄,io₄,m₄,st4',H4,F4,sm4',he⟩
   | cont=>exact ⟨k,Nat.lt_succ_self _,r₄,io₄,m₄,st4',H4,F4,sm4',he⟩
   | ret kv=>exact ⟨_,m₄,io₄,he.symm,st4',H4,⟨.ret kv,F4⟩,sm4'⟩
theorem Wk.range {I:Addr} {a c:Int} {k:Nat} {vs:List V} (hh:A.handled=none) (hk:k=vs.length) (hv:∀ (i:Nat) (v:V),vs[i]?=some v->v=.int (a+i * c)):Wk W A I [I] .none vs (fun i h io=>IsRangeIter h I (a+(i:Nat) * c) ((k:Int) - (i:Nat)) c /\ ¬ dG io I):=
 Wk.of_walks (Walks.range hh I a c k) hk (fun i v u h io e ⟨t,q⟩=>by rw [hv i v e,q];exact .int _ _) (fun i h ht=>⟨_,_,_,ht,rfl,rfl,by decide⟩) fun b hb=>.inl (by simpa using hb)
theorem bI0 {f:Nat->V} {k i:Nat} {v:V} (h:((List.range k).map f)[i]?=some v):v=f i:=by
 rw [List.getElem?_map] at h
 cases q:(List.range k)[i]? with
 | none=>rw [q] at h;cases h
 | some j=>
  rw [q] at h
  have hk:j=i:=by
   rcases List.getElem?_eq_some_iff.mp q with ⟨hlt,e⟩
   simp at e;lia
  cases h;rw [hk]
theorem aY3 {a b:Int}:Builtin.Range.rangeSize a b 1=((b - a).toNat:Int):=by
 unfold Builtin.Range.rangeSize
 rw [if_pos (by decide)]
 by_cases h:a < b
 ·rw [if_pos h,Int.ediv_one,Int.sub_add_cancel,Int.toNat_of_nonneg (Int.le_of_lt (Int.sub_pos_of_lt h))]
 ·rw [if_neg h,Int.toNat_of_nonpos (Int.sub_nonpos_of_le (Int.not_lt.mp h))];rfl
theorem fitL {i:Int} (h1:-(2 ^ 40) <= i) (h2:i <= 2 ^ 40):Builtin.Range.rangeFitsLong i=true:=by
 unfold Builtin.Range.rangeFitsLong
 rw [Bool.and_eq_true]
 exact ⟨decide_eq_true (Int.le_trans (by decide) h1),decide_eq_true (Int.lt_of_le_of_lt h2 (by decide))⟩
theorem near {a:Int} (h:a.natAbs < 2 ^ 31):-(2 ^ 31) <= a /\ a <= 2 ^ 31:=by lia
theorem cF6 {x c:Int} (hx:0 <= x) (h:x <= 2 ^ 32) (hc:0 < c):-(2 ^ 40) <= x / c+1 /\ x / c+1 <= 2 ^ 40:=by
 have h1:0 <= x / c:=Int.ediv_nonneg hx (Int.le_of_lt hc)
 have h2:x / c <= x:=Int.ediv_le_self _ hx
 clear hc
 lia
theorem gap {a b:Int} (a1:-(2 ^ 31) <= a) (b2:b <= 2 ^ 31) (h:a < b):0 <= b - a - 1 /\ b - a - 1 <= 2 ^ 32:=by lia
theorem bS5 {b c:Int} (b1:-(2 ^ 31) <= b) (b2:b <= 2 ^ 31) (c1:-(2 ^ 31) <= c) (c2:c <= 2 ^ 31):-(2 ^ 40) <= b+(c - 1) /\ b+(c - 1) <= 2 ^ 40:=by lia
theorem aG2 {a b c:Int} (ha:a.natAbs < 2 ^ 31) (hb:b.natAbs < 2 ^ 31) (hc:c.natAbs < 2 ^ 31) (h0:0 < c):Builtin.Range.small a b c=true:=by
 rcases near ha with ⟨a1,a2⟩
 rcases near hb with ⟨b1,b2⟩
 rcases near hc with ⟨c1,c2⟩
 have far:∀ {i:Int},-(2 ^ 31) <= i->i <= 2 ^ 31->Builtin.Range.rangeFitsLong i=true:=fun h1 h2=>fitL (Int.le_trans (by decide) h1) (Int.le_trans h2 (by decide))
 have hs:Builtin.Range.rangeFitsLong (Builtin.Range.rangeSize a b c)=true:=by
  unfold Builtin.Range.rangeSize
  rw [if_pos h0]
  by_cases h:a < b
  ·rw [if_pos h]
   have g:=gap a1 b2 h
   have d:=cF6 g.1 g.2 h0
   exact fitL d.1 d.2
  ·rw [if_neg h];rfl
 have l:=bS5 b1 b2 c1 c2
 unfold Builtin.Range.small
 rw [far a1 a2,far b1 b2,far c1 c2,hs,if_pos h0,fitL l.1 l.2,Bool.or_true];rfl
theorem fJ {vs:List V} {us:List Value} {l:List V} {m:MH} (H:HR W s.heap io m) (k:VRs W s.heap io vs us) (hr:dU vs=some l) {Q:Value->Shared->Prop} {E:Value->Shared->Prop}
  (hQ:∀ (a b c:Int) (o:Obj) (tk:Nat) (t u v:Tok),a.natAbs < 2 ^ 31->b.natAbs < 2 ^ 31->c.natAbs < 2 ^ 31->0 < c->(l.length:Int)=Builtin.Range.rangeSize a b c->(∀ (i:Nat) (v:V),l[i]?=some v->v=.int (a+i * c))->IsRange (s.heap.push o) s.heap.objs.size a b c t u v->Q (.ref s.heap.objs.size) { s with heap:=s.heap.push o,toks:=tk }) :
  wpAny (model W.prog W.w) A (call (.type "range") us) Q E s:=by
 have e30:(2:Nat) ^ 30 < 2 ^ 31:=by decide
 have one:∀ n:Int,vs=[.int n]->wpAny (model W.prog W.w) A (call (.type "range") us) Q E s:=fun n e=>by
  subst e
  have hr:(if n.natAbs < 2 ^ 30 then some (aG3 0 n) else Option.none)=some l:=hr
  by_cases hlt:n.natAbs < 2 ^ 30
  ·rw [if_pos hlt] at hr
   cases hr
   refine VRs.dCons k fun y_ y_ k1 k2=>?_
   cases k2
   cases k1
   refine call_range_1 (hQ 0 _ 1 _ _ _ _ _ (by decide) (Nat.lt_trans hlt e30) (by decide) (by decide) ?_ (fun i v e=>?_) (.new _ _ _ _ _ _ _))
   ·rw [aY3];unfold aG3;rw [List.length_map,List.length_range]
   ·rw [bI0 e,Int.mul_one]
  ·rw [if_neg hlt] at hr;cases hr
 clear hQ
 cases vs with
 | nil=>cases hr
 | cons a vs=>
  cases vs with
  | nil=>
   cases a with
   | int n=>exact one n rfl
   | _=>cases hr
  | cons b vs=>cases a <;> cases hr
theorem bO0 {x:Str} {es:List Expr} {cl:Lo->Mn (List V)} (hh:A.handled=none) (gl:Gl W K) (e:nsIn K mainGlobals x=some none) (hv:bootBuiltins x=some (.type "range")) (hn:(x == ("__name__":Str))=false) (hx:env.kindOf x=some .globalImplicit) (hd:(x == ("__debug__":Str))=false) (hs:aR es=true)
  (hl:SiL W A fs env vis (spliced (backTo pos (starEach es env))) cl):SiSrc W A fs env vis (.Call (.Name x p) es [] pos) (fun r=>bnd (cl r) fun vs=>match dU vs with | some l=>ret (l,.none) | none=>bad):=by
 intro s io m r Z hne
 dsimp only at hne ⊢
 refine wpAny_Call_NameR (aD3 gl Z e hv hn hx hd (callWith_type (dK hs) (dE hs ?_)))
 refine wpAny_mono (hl s io m r Z (Res.bind_ne hne)) (fun us s₁ q=>?_) fun y_ y_ q=>q
 obtain ⟨vs,m₁,io₁,e1,st,H,k,sm⟩:=q
 have ee:bnd (cl r) (fun vs=>match dU vs with | some l=>ret (l,Gd.none) | none=>bad) m=(match dU vs with | some l=>ret (l,Gd.none) | none=>bad) m₁:=by show (cl r m).bind _=_;rw [e1];rfl
 rw [ee] at hne ⊢
 show wpAny (model W.prog W.w) A (call (.type "range") us) _ _ s₁
 have fin:∀ (a b c:Int) (o:Obj) (tk:Nat) (t u v:Tok) (l:List V),a.natAbs < 2 ^ 31->b.natAbs < 2 ^ 31->c.natAbs < 2 ^ 31->0 < c->(l.length:Int)=Builtin.Range.rangeSize a b c->(∀ (i:Nat) (v:V),l[i]?=some v->v=.int (a+i * c))->IsRange (s₁.heap.push o) s₁.heap.objs.size a b c t u v ->
   wpAny (model W.prog W.w) A (pyIter (.ref s₁.heap.objs.size)) (fun it s₂=>NP W [] (frs fs) s io m (ItP W A s.heap) (.ok (l,Gd.none) m₁) it s₂) NX { s₁ with heap:=s₁.heap.push o,toks:=tk }:=by
  intro a b c o tk t u v l ha hb hc h0 hsz hle hr
  have st1:Step [] (frs fs) s₁.heap io₁ m₁ (s₁.heap.push o) io₁ m₁:=.of_keeps H (aL _)
  have H1:HR W (s₁.heap.push o) io₁ m₁:=H.of_keeps (aL _)
  refine wpAny_pyIter_range hr (aG2 ha hb hc h0) ?_
  have st2:Step [] (frs fs) (s₁.heap.push o) io₁ m₁ _ io₁ m₁:=.of_keeps H1 (aL { cls:=.type "range_iterator",data:=.fields #[rawInt a,rawInt (Builtin.Range.rangeSize a b c),rawInt c] })
  refine ⟨(l,.none),m₁,io₁,rfl,(st.trans st1).trans st2,H1.of_keeps (aL _),⟨_,_,_,rfl,Wk.range (a:=a) (c:=c) (k:=l.length) hh rfl hle,⟨?_,?_⟩,fun b hb=>?_⟩,sm⟩
  ·have:=Heap.get?_push_size (h:=s₁.heap.push o) (o:={ cls:=.type "range_iterator",data:=.fields #[rawInt a,rawInt (Builtin.Range.rangeSize a b c),rawInt c] }) rfl
   rw [<- hsz] at this ⊢
   simpa [IsRangeIter] using this
  ·exact dD (s:={ s₁ with heap:=s₁.heap.push o }) H1
  ·rw [List.mem_singleton.mp hb]
   exact cQ (st.trans st1) (aQ _)
 cases hr:dU vs with
 | none=>rw [hr] at hne;exact absurd rfl hne
 | some l=>exact fJ H k hr fun a b c o tk t u v ha hb hc h0 hsz hle hr=>fin a b c o tk t u v l ha hb hc h0 hsz hle hr
end
end Mini
namespace Mini
open PySem PySem.W
section
variable {W:Wd} {K:Frag} {h h':Heap} {fs:List Env} {env:Env} {vis:List (Option Str)} {s s':Shared} {io io' io₀:Io} {m m' m₀:MH} {r r':Lo} {fr own own':List Addr} {A:Around} {n:Nat} {pos p:Pos}
theorem aV7:∀ (k:Nat) (l:List V),(aV9 k l).length=l.length
 | _,[]=>rfl
 | k,_::l=>congrArg Nat.succ (aV7 (k+1) l)
theorem aV8:∀ {k i:Nat} {l:List V} {v:V},(aV9 k l)[i]?=some v->∃ x,l[i]?=some x /\ v=.tup [.int ((k+i:Nat):Int),x]
 | _,_,[],_,h=>by cases h
 | k,0,x::l,v,h=>⟨x,rfl,(Option.some.inj h).symm⟩
 | k,i+1,x::l,v,h=>by
  rcases aV8 (k:=k+1) (i:=i) (l:=l) h with ⟨y,h1,h2⟩
  exact ⟨y,h1,by rw [h2,Nat.add_right_comm];rfl⟩
theorem aK9 {k:Nat} {xs:List V} (hg:(Gd.list k xs).stays m=true):m[k]?=some (.list xs):=by
 unfold Gd.stays at hg
 dsimp only at hg
 cases q:m[k]? with
 | none=>rw [q] at hg;cases hg
 | some o=>
  rw [q] at hg
  cases o with
  | list ys=>rw [aA3 _ _ hg]
  | _=>cases hg
structure EnSt (e it l d:Addr) (k i:Nat) (h:Heap) (io:Io):Prop where
 en:∃ old,IsEnum h e it (i:Int) old
 li:h.IsListIter it l i
 at_:io[k]?=some (l,d)
 ne:¬ dG io e
 ni:¬ dG io it
 ei:e≠it
theorem Wk.enum {e it l d:Addr} {k:Nat} {xs:List V} {es:List Expr} {x1:Nat} (hh:A.handled=none):WkF W A e [e,it] (.list k xs) (aV9 0 xs) (fun i h io=>EnSt e it l d k i h io) (.Tuple es x1 pos) where
 soft:=fun z_ b hb=>by
  rcases z_ with ⟨⟨old,he⟩,⟨o,ho,hc,hd⟩,y_,ne,ni,y_⟩
  rcases List.mem_cons.mp hb with rfl | hb
  ·exact ⟨ne,fun o' q=>by rw [he] at q;cases q;exact bR rfl rfl⟩
  ·rw [List.mem_singleton.mp hb]
   exact ⟨ni,fun o' q=>by rw [ho] at q;cases q;exact bR hc hd⟩
 stay:=fun z_ H y_ st hb y_ y_=>by
  rcases z_ with ⟨⟨old,he⟩,⟨o,ho,hc,hd⟩,hi,ne,ni,ei⟩
  have q1:=hb e (.head _)
  have q2:=hb it (.tail _ (.head _))
  exact ⟨⟨old,st.keep _ _ he ne q1.1 q1.2⟩,⟨o,st.keep _ _ ho ni q2.1 q2.2,hc,hd⟩,st.io_get hi,st.nofoot he ne,st.nofoot ho ni,ei⟩
 next:=fun {i s io m v Q E} hv z_ H hg hQ=>by
  rcases z_ with ⟨⟨old,he⟩,hit,hi,ne,ni,ei⟩
  have hm:=aK9 hg
  rcases H.obj _ _ _ hi hm with ⟨y_,us,c,h1,h2,h3⟩
  rcases aV8 hv with ⟨x,hx,rfl⟩
  rcases h2.get hx with ⟨u,hu,ku⟩
  rcases id hit with ⟨oi,hoi,hci,hdi⟩
  refine wpAny_pyNext_enum_item he hit ⟨_,h1,rfl,c,rfl⟩ (by rw [<- Array.getElem?_toList];exact hu) ei fun h₁ ho hit₁ hT hsz hk=>?_
  refine hQ _ h₁ (s.toks+1) fun k=>wpAny_letOwnedTupleGo_enum ho fun h₂ he₂ hs₂=>?_
  have hs₂:Heap.SameBut e h₁ h₂:=hs₂
  have helt:e < s.heap.objs.size:=Heap.lt_size he
  have hk2:∀ b o,b∉[e,it]->s.heap.get? b=some o->h₂.get? b=some o:=fun b o hb q=>(hs₂.2 b fun z=>hb (by rw [z];exact .head _)).trans (hk b o (fun z=>hb (by rw [z];exact .head _)) (fun z=>hb (by rw [z];exact .tail _ (.head _))) q)
  have sol:∀ b o,s.heap.get? b=some o->c9 o->h₂.get? b=some o:=fun b o q so=>hk2 b o (fun z=>by
   rcases List.mem_cons.mp z with rfl | z
   ·rw [he] at q;cases q;exact bR rfl rfl so
   ·rw [List.mem_singleton.mp z,hoi] at q;cases q;exact bR hci hdi so) q
  refine k h₂ (VR.tup (vs:=#[.int (i:Int) s.toks,u]) (n:=0) ((hs₂.2 _ (Nat.ne_of_gt helt)).trans hT) (.cons ?_ (.cons (ku.sol sol) .nil))) ⟨⟨u,?_⟩,?_,hi,ne,ni,ei⟩ hk2
  ·rw [Nat.zero_add];exact .int _ _
  ·have:IsEnum h₂ e it ((i:Int)+1) u:=he₂
   exact this
  ·rcases hit₁ with ⟨o2,g1,g2,g3⟩
   exact ⟨o2,(hs₂.2 it fun z=>ei z.symm).trans g1,g2,g3⟩
 done:=fun {s io m Q E} z_ H hg hQ=>by
  rcases z_ with ⟨⟨old,he⟩,hit,hi,ne,ni,ei⟩
  have hm:=aK9 hg
  rcases H.obj _ _ _ hi hm with ⟨y_,us,c,h1,h2,h3⟩
  have hl:=h2.length
  refine wpAny_pyNext_enum_end hh he hit ⟨_,h1,rfl,c,rfl⟩ (Array.getElem?_eq_none (by rw [aV7];simp at hl;lia)) fun h' hx=>hQ h' s.toks fun b o hb q=>hx b o (fun z=>hb (by rw [z];exact .tail _ (.head _))) q
theorem bZ6 {x:Str} {es:List Expr} {cl:Lo->Mn (List V)} {ts:List Expr} {x1:Nat} {tp:Pos} (hh:A.handled=none) (gl:Gl W K) (e:nsIn K mainGlobals x=some none) (hv:bootBuiltins x=some (.type "enumerate")) (hn:(x == ("__name__":Str))=false) (hx:env.kindOf x=some .globalImplicit) (hd:(x == ("__debug__":Str))=false) (hs:aR es=true)
  (hl:SiL W A fs env vis (spliced (backTo pos (starEach es env))) cl):bB4 W A fs env vis (.Tuple ts x1 tp) (.Call (.Name x p) es [] pos) (fun r=>bnd (cl r) (fC .enum)):=by
 intro s io m r Z hne
 dsimp only at hne ⊢
 refine wpAny_Call_NameR (aD3 gl Z e hv hn hx hd (callWith_type (dK hs) (dE hs ?_)))
 refine wpAny_mono (hl s io m r Z (Res.bind_ne hne)) (fun us s₁ q=>?_) fun y_ y_ q=>q
 obtain ⟨vs,m₁,io₁,e1,st,H,k,sm⟩:=q
 have ee:bnd (cl r) (fC .enum) m=fC .enum vs m₁:=by show (cl r m).bind _=_;rw [e1];rfl
 rw [ee] at hne ⊢
 show wpAny (model W.prog W.w) A (call (.type "enumerate") us) _ _ s₁
 induction k using VRs.elim with
 | nil=>exact absurd rfl hne
 | @cons v u vs us k1 k2=>
  induction k2 using VRs.elim with
  | cons y_ y_=>exact absurd rfl hne
  | nil=>
   induction k1 using VR.elim with
   | @ref q a d hi=>
    have key:∀ o,m₁[q]?=o->fC .enum [.ref q] m₁=(match (generalizing:=false) o with | some (.list xs)=>.ok (aV9 0 xs,.list q xs) m₁ | _=>.bad):=fun o ho=>by subst ho;rfl
    cases hm:m₁[q]? with
    | none=>exact absurd (key _ hm) hne
    | some o=>
     cases o with
     | list xs=>
      rw [key _ hm]
      obtain ⟨y_,ws,c,h1,h2,h3⟩:=H.obj _ _ _ hi hm
      refine call_enumerate_list ⟨_,h1,rfl,c,rfl⟩ fun h' he hit hz hk=>wpAny_pyIter_enum he ?_
      have st1:Step [] (frs fs) s₁.heap io₁ m₁ h' io₁ m₁:=.of_keeps H hk
      have H1:HR W h' io₁ m₁:=H.of_keeps hk
      have dead:∀ b,s₁.heap.objs.size <= b->s₁.heap.get? b=none:=fun b hb=>by
       cases z:s₁.heap.get? b with
       | none=>rfl
       | some o=>exact absurd (Heap.lt_size z) (Nat.not_lt.mpr hb)
      have nf:∀ b,s₁.heap.objs.size <= b->¬ dG io₁ b:=fun b hb f=>by
       rcases H.foot f with ⟨o,z,y_⟩
       rw [dead b hb] at z;cases z
      refine ⟨(aV9 0 xs,.list q xs),m₁,io₁,rfl,st.trans st1,H1,⟨_,_,_,rfl,Wk.enum (l:=a) (d:=d) hh,⟨⟨_,he⟩,hit,hi,nf _ (Nat.le_succ _),nf _ (Nat.le_refl _),Nat.succ_ne_self _⟩,fun b hb=>?_⟩,sm⟩
      rcases List.mem_cons.mp hb with rfl | hb
      ·exact cQ st (dead _ (Nat.le_succ _))
      ·rw [List.mem_singleton.mp hb];exact cQ st (dead _ (Nat.le_refl _))
     | _=>exact absurd (key _ hm) hne
   | _=>exact absurd rfl hne
end
end Mini
namespace Mini
open PySem PySem.W
theorem aE8 {names:List Str} {us:List Value} (h:us.length=names.length):∀ n∈names,((names.zip us).lookup n).isNone=false:=by
 induction names generalizing us with
 | nil=>intro n hn;cases hn
 | cons a as ih=>
  cases us with
  | nil=>cases h
  | cons u us=>
   intro n hn
   simp only [List.zip_cons_cons,List.lookup_cons]
   cases q:n == a with
   | true=>rfl
   | false=>
    rcases List.mem_cons.mp hn with rfl | hn
    ·simp at q
    ·exact ih (by simpa using h) n hn
theorem aP8 {names:List Str} {us:List Value} (h:us.length=names.length) (hd:names.Nodup):(names.filterMap fun n=>((names.zip us).lookup n).map (n,·))=names.zip us:=by
 have key:∀ (ns:List Str) (vs:List Value) (g:Str->Option Value),vs.length=ns.length->ns.Nodup->(∀ n v,(n,v)∈ns.zip vs->g n=some v)->(ns.filterMap fun n=>(g n).map (n,·))=ns.zip vs:=by
  intro ns
  induction ns with
  | nil=>intro vs g _ _ _;simp
  | cons a as ih=>
   intro vs g hl hn hg
   cases vs with
   | nil=>cases hl
   | cons u us=>
    have h1:=hg a u (by simp)
    rw [List.filterMap_cons]
    simp only [h1,Option.map_some,List.zip_cons_cons]
    rw [ih us g (by simpa using hl) (List.nodup_cons.mp hn).2 fun n v e=>hg n v (by simp [e])]
 refine key names us _ h hd fun n v e=>?_
 clear key
 induction names generalizing us with
 | nil=>simp at e
 | cons a as ih=>
  cases us with
  | nil=>simp at e
  | cons u us=>
   simp only [List.zip_cons_cons,List.mem_cons,Prod.mk.injEq] at e
   simp only [List.zip_cons_cons,List.lookup_cons]
   rcases e with ⟨rfl,rfl⟩ | e
   ·simp
   ·have:n≠a:=fun q=>(List.nodup_cons.mp hd).1 (q▸(List.of_mem_zip e).1)
    have:(n == a)=false:=by simpa using this
    rw [this]
    exact ih (by simpa using h) (List.nodup_cons.mp hd).2 e
theorem aK3 {fd:FuncData} {us:List Value} (hp:fd.params.posonlyargs=[]) (hk:fd.params.kwonlyargs=[]) (hv:fd.params.vararg=none) (hw:fd.params.kwarg=none) (hd:fd.defaults=.none) (hn:(fd.params.args.map (·.arg)).Nodup) (hl:us.length=fd.params.args.length) :
  bindArgs fd ⟨us,[]⟩=Pure.pure ((fd.params.args.map (·.arg)).zip us):=by
 have hm:∀ k,((List.take k (fd.params.args.map (·.arg))).filter fun n=>(((fd.params.args.map (·.arg)).zip us).lookup n).isNone)=[]:=by
  intro k
  rw [List.filter_eq_nil_iff]
  intro n hn' q
  rw [aE8 (by simpa using hl) n (List.mem_of_mem_take hn')] at q
  cases q
 have hz:=aP8 (names:=fd.params.args.map (·.arg)) (us:=us) (by simpa using hl) hn
 rw [List.filterMap_map] at hz
 have e1:seqItems? Value.none=Pure.pure none:=rfl
 unfold bindArgs
 simp [hp,hk,hv,hw,hd,hl,e1,hm]
 exact congrArg Pure.pure hz
section
variable {W:Wd} {K:Frag} {h h' h₀:Heap} {fs:List Env} {env:Env} {vis:List (Option Str)} {s s':Shared} {io io' io₀:Io} {m m' m₀:MH} {r r':Lo} {fr fr' own own':List Addr} {A:Around} {n:Nat} {pos p:Pos}
theorem Step.shrink (H:HR W h₀ io m) (x:Step own fr h io m h' io' m') (k:∀ b o,h₀.get? b=some o->h.get? b=some o) (ho:∀ b∈own,h₀.get? b=none \/ b∈own') (hf:∀ b∈fr,h₀.get? b=none \/ b∈fr'):Step own' fr' h₀ io m h' io' m':=by
 have oo:∀ b o,h₀.get? b=some o->b∉own'->b∉own:=fun b o e q w=>by
  rcases ho b w with z | z
  ·rw [z] at e;cases e
  ·exact q z
 have ff:∀ b o,h₀.get? b=some o->b∉fr'->b∉fr:=fun b o e q w=>by
  rcases hf b w with z | z
  ·rw [z] at e;cases e
  ·exact q z
 refine ⟨fun b o e=>x.alive b o (k b o e),fun b o e so=>x.solid b o (k b o e) so,fun b o e f1 f2 f3=>x.keep b o (k b o e) f1 (oo b o e f2) (ff b o e f3),fun b o e f1 f2=>x.slots b o (k b o e) f1 (oo b o e f2),?_,?_⟩
 ·obtain ⟨new,e,hn⟩:=x.grow
  have back:∀ b,h.get? b=none->h₀.get? b=none:=fun b e=>by
   cases q:h₀.get? b with
   | none=>rfl
   | some o=>rw [k b o q] at e;cases e
  exact ⟨new,e,fun p hp=>⟨back _ (hn p hp).1,back _ (hn p hp).2⟩⟩
 ·intro i p kvs e hi hm
  obtain ⟨k',e',q1,q2,q3⟩:=x.dicts i p kvs e hi hm
  refine ⟨k',e',q1,q2,fun q=>⟨?_,(q3 q).2⟩⟩
  rcases H.there hi with ⟨o,ho⟩
  rw [(q3 q).1,ho,k _ _ ho]
theorem aI5 {kind:Str->Option NameKind} {y:Str}:∀ (binds:List (Str×Value)) (mp:Str->Option Value),y∉binds.map (·.1)->bindL kind binds mp y=mp y
 | [],_,_=>rfl
 | (n,v)::r,mp,h=>by
  simp only [List.map_cons,List.mem_cons,not_or] at h
  simp only [bindL]
  rw [aI5 r _ h.2]
  split
  ·simp [h.1]
  ·rfl
theorem aI6 {kind:Str->Option NameKind} {y:Str}:∀ (binds:List (Str×Value)) (mp:Str->Option Value),y∉binds.map (·.1)->bindC kind binds mp y=mp y
 | [],_,_=>rfl
 | (n,v)::r,mp,h=>by
  simp only [List.map_cons,List.mem_cons,not_or] at h
  simp only [bindC]
  rw [aI6 r _ h.2]
  split
  ·rfl
  ·simp [h.1]
theorem aW3 {kind:Str->Option NameKind} {y:Str} {u:Value} (hk:kind y=some .local):∀ (binds:List (Str×Value)) (mp:Str->Option Value),(binds.map (·.1)).Nodup->(y,u)∈binds->bindL kind binds mp y=some u
 | [],_,_,h=>nomatch h
 | (n,v)::r,mp,hn,h=>by
  simp only [List.map_cons,List.nodup_cons] at hn
  simp only [bindL]
  rcases List.mem_cons.mp h with e | h
  ·cases e
   rw [aI5 r _ hn.1];simp [hk]
  ·exact aW3 hk r _ hn.2 h
theorem aW4 {kind:Str->Option NameKind} {y:Str} {u:Value} (hk:kind y=some .cell):∀ (binds:List (Str×Value)) (mp:Str->Option Value),(binds.map (·.1)).Nodup->(y,u)∈binds->bindC kind binds mp y=some u
 | [],_,_,h=>nomatch h
 | (n,v)::r,mp,hn,h=>by
  simp only [List.map_cons,List.nodup_cons] at hn
  simp only [bindC]
  rcases List.mem_cons.mp h with e | h
  ·cases e
   rw [aI6 r _ hn.1];simp [hk]
  ·exact aW4 hk r _ hn.2 h
theorem aH5 {kindOf:Str->Option NameKind} {names:List Str} {np:Nat} {vs:List V} {us:List Value} {i:Nat} {x:Str} {v:V} (hl:vs.length=np) (hu:VRs W h io vs us) (hv:(names.map some)[i]?=some (some x)) (hr:(vs.map some++List.replicate (names.length - np) (none:Option V))[i]?=some (some v)) :
  ∃ u,(x,u)∈(names.take np).zip us /\ VR W h io v u:=by
 have hi:i < vs.length:=by
  rcases Nat.lt_or_ge i vs.length with q | q
  ·exact q
  ·rw [List.getElem?_append_right (by simpa using q)] at hr
   have:=List.mem_of_getElem? hr
   simp at this
 rw [List.getElem?_append_left (by simpa using hi),List.getElem?_map] at hr
 cases q:vs[i]? with
 | none=>rw [q] at hr;cases hr
 | some v'=>
  rw [q] at hr;cases hr
  obtain ⟨u,hu',ku⟩:=hu.get q
  refine ⟨u,?_,ku⟩
  rw [List.getElem?_map] at hv
  have hx:names[i]?=some x:=by
   cases w:names[i]? with
   | none=>rw [w] at hv;cases hv
   | some y=>rw [w] at hv;cases hv
  have:((names.take np).zip us)[i]?=some (x,u):=by
   rw [List.getElem?_zip_eq_some]
   exact ⟨by rw [List.getElem?_take_of_lt (by lia)];exact hx,hu'⟩
  exact List.mem_of_getElem? this
theorem bU6 {scope:Scope} {names:List Str} {np:Nat} {vs:List V} {us:List Value} {binds:List (Str×Value)} {qual:Str} {func:Option Addr} {code:Value} (H:HR W s.heap io m) (G:FF W s.heap io fs) (hl:vs.length=np) (hnp:np <= names.length) (hu:VRs W s.heap io vs us)
  (hk:scope.kind=.function) (hn:names.Nodup) (hkind:∀ x∈names,scope.names.lookup x=some .local \/ scope.names.lookup x=some .cell) (hb:binds=(names.take np).zip us)
  (he:env=newEnv scope s.heap.objs.size mainGlobals (cellsFrom (s.heap.objs.size+1) scope.names []) qual func code none builtinsNs) (hI:InCallC s env.locals (bindL env.kindOf binds fun y_=>none) env.cells (bindC env.kindOf binds fun y_=>none) s') :
  Stt W fs env (names.map some) s' io m (vs.map some++List.replicate (names.length - np) none) /\ (∀ b∈cI env,s.heap.get? b=none):=by
 have hloc:env.locals=s.heap.objs.size:=by rw [he];rfl
 have hkd:∀ x,env.kindOf x=scope.names.lookup x:=fun x=>by rw [he];rfl
 have keep:=hI.toInCall.keep
 have hsz:us.length=np:=by rw [hu.length,hl]
 have bn:binds.map (·.1)=names.take np:=by
  rw [hb,List.map_fst_zip (by rw [hsz];simp;lia)]
 have bnd':(binds.map (·.1)).Nodup:=by rw [bn];exact hn.sublist (List.take_sublist _ _)
 have up:∀ b,s.heap.objs.size <= b->s.heap.get? b=none:=fun b hb=>by
  cases q:s.heap.get? b with
  | none=>rfl
  | some o=>exact absurd (Heap.lt_size q) (Nat.not_lt.mpr hb)
 have celUp:∀ q∈env.cells,s.heap.get? q.2=none:=fun q hq=>up _ (by have:=hI.above q.1 q.2 hq;rw [hloc] at this;exact Nat.le_of_lt this)
 have basN:∀ b,s.heap.get? b=none->W.base.get? b=none:=fun b e=>by
  cases q:W.base.get? b with
  | none=>rfl
  | some o=>rw [H.keep _ _ q] at e;cases e
 have nfN:∀ b,s.heap.get? b=none->¬ dG io b:=fun b e f=>by
  obtain ⟨o,ho,y_⟩:=H.foot f
  rw [e] at ho;cases ho
 have st:Step [] [] s.heap io m s'.heap io m:=.of_keeps H keep
 have own0:∀ b∈cI env,s.heap.get? b=none:=fun b hb=>by
  rcases List.mem_cons.mp hb with rfl | hb
  ·exact up _ (by rw [hloc];exact Nat.le_refl _)
  ·obtain ⟨q,hq,e⟩:=List.mem_filterMap.mp hb
   exact celUp _ (mem_of_lookup e)
 have cex:∀ x,scope.names.lookup x=some .cell->∃ c,env.cells.lookup x=some c:=fun x hx=>by
  have:=cellsFrom_some scope.names (s.heap.objs.size+1) [] (x:=x) (.inl hx)
  have e:env.cells=cellsFrom (s.heap.objs.size+1) scope.names []:=by rw [he];rfl
  rw [e]
  exact Option.isSome_iff_exists.mp this
 have memNames:∀ (i:Nat) (x:Str),(names.map some)[i]?=some (some x)->names[i]?=some x:=fun i x hv=>by
  rw [List.getElem?_map] at hv
  cases w:names[i]? with
  | none=>rw [w] at hv;cases hv
  | some y=>rw [w] at hv;cases hv
 have nofree:∀ (i:Nat) (x:Str),(names.map some)[i]?=some (some x)->env.kindOf x≠some .free:=fun i x hv q=>by
  rw [hkd] at q
  rcases hkind x (List.mem_of_getElem? (memNames i x hv)) with e | e <;> rw [q] at e <;> cases e
 refine ⟨⟨H.of_keeps keep,⟨?_,?_,?_,?_,?_,⟨_,hI.toInCall.ns,fun i x v h1 h2 h3=>?_⟩,fun i x v h1 h2 h3=>?_,fun x c hc=>?_,fun i x h1 h2=>?_,fun x y c h1 h2=>?_,fun i j x h1 h2=>?_,?_⟩,G.step0 st,?_,fun L hL q=>?_⟩,own0⟩
 ·rw [he];exact hk
 ·rw [he];rfl
 ·rw [he];rfl
 ·exact nfN _ (own0 _ (.head _))
 ·exact basN _ (own0 _ (.head _))
 ·obtain ⟨u,hm,ku⟩:=aH5 (kindOf:=env.kindOf) hl hu h1 h2
  exact ⟨u,aW3 h3 binds _ bnd' (hb▸hm),ku.step st⟩
 ·rcases h3 with h3 | h3
  ·obtain ⟨u,hm,ku⟩:=aH5 (kindOf:=env.kindOf) hl hu h1 h2
   rcases cex x (by rw [<- hkd];exact h3) with ⟨c,hc⟩
   refine ⟨c,u,hc,?_,ku.step st⟩
   have:=hI.cell x c hc
   rwa [aW4 h3 binds _ bnd' (hb▸hm)] at this
  ·exact absurd h3 (nofree i x h1)
 ·have hm:=mem_of_lookup hc
  exact ⟨⟨_,hI.cell x c hc⟩,basN _ (celUp _ hm),fun e=>by have:=hI.above x c hm;rw [e] at this;exact absurd this (Nat.lt_irrefl _)⟩
 ·rcases h2 with h2 | h2
  ·exact cex x (by rw [<- hkd];exact h2)
  ·exact absurd h2 (nofree i x h1)
 ·have h1':=mem_of_lookup h1
  have h2':=mem_of_lookup h2
  have:∀ (l:List (Str×Addr)),l.Pairwise (fun x y=>x.2≠y.2)->∀ a∈l,∀ b∈l,a.2=b.2->a=b:=by
   intro l hp
   induction l with
   | nil=>intro a ha;cases ha
   | cons z zs ih=>
    rcases List.pairwise_cons.mp hp with ⟨p1,p2⟩
    intro a ha b hb e
    rcases List.mem_cons.mp ha with ea | ha' <;> rcases List.mem_cons.mp hb with eb | hb'
    ·rw [ea,eb]
    ·rw [ea] at e;exact absurd e (p1 b hb')
    ·rw [eb] at e;exact absurd e.symm (p1 a ha')
    ·exact ih p2 a ha' b hb' e
  exact congrArg Prod.fst (this _ hI.apart _ h1' _ h2' rfl)
 ·have e1:=memNames i x h1
  have e2:=memNames j x h2
  exact (List.getElem?_inj (List.getElem?_eq_some_iff.mp e1).1 hn).mp (e1.trans e2.symm)
 ·simp [hl];lia
 ·rw [he];rfl
 ·have:=own0 L q
  refine hide fun G_ g_=>?_
  rcases List.mem_filterMap.mp hL with ⟨e,hee,hf⟩
  rcases G e hee with ⟨y_,L',o,y_,y_,h1,y_,y_,h4,y_⟩
  refine g_ ?_
  clear g_ G_
  rw [h1] at hf;cases hf;rw [this] at h4;cases h4
end
end Mini
namespace Mini
open PySem PySem.W
noncomputable def bT8 (K:Frag) (fd:FuncData) (d:FnD):Bool:=
 fd.scope.kind == .function&&!fd.scope.isCoroutine&&!fd.scope.isGenerator&&fd.globals == mainGlobals&&fd.builtins == builtinsNs&&fd.closure.isEmpty&&fd.params.posonlyargs.isEmpty&&fd.params.kwonlyargs.isEmpty&&fd.params.vararg.isNone&&fd.params.kwarg.isNone&&
 (match fd.defaults with | .none=>true | _=>false)&&decide (fd.params.args.map (·.arg)=d.names.take d.np)&&decide (d.np <= d.names.length)&&decide d.names.Nodup&&(d.names.all fun x=>fd.scope.names.lookup x == some .local||fd.scope.names.lookup x == some .cell)&&codeIn K fd.code fd.qualname
section
variable {W:Wd} {K:Frag} {h h' h₀:Heap} {fs:List Env} {env:Env} {vis:List (Option Str)} {s s':Shared} {io io' io₀:Io} {m m' m₀:MH} {r r':Lo} {fr fr' own own':List Addr} {A:Around} {n:Nat} {pos p:Pos}
theorem AR.deeper {A:Around} (R:AR A fs (n+1)) (env:Env):AR (A.deeper env) (env::fs) n:=
 ⟨by show A.frames.map (env::·)=_;rw [R.frames];rfl,by have:=R.depth;show A.depth+1+4 * n <= 900;lia,by have:=R.units;show A.units+3+40 * n+400 <= 9000;lia⟩
set_option tactic.hygienic true in
theorem cG0 {a:Addr} {o:Obj} {fd:FuncData} {body:List Stmt} {d:FnD} {Fb:Lo->Mn (Fl×Lo)} (gl:Gl W K) (R:AR A fs (n+1)) (ho:K.lookup a=some o) (hdata:o.data=.func fd) (hh:bT8 K fd d=true) (hb:fd.body=.stmts body)
  (hbody:∀ env:Env,env.scope=fd.scope->SiS W (A.deeper env) fs env (d.names.map some) (execs body env) Fb) :
  SiK W A fs (.ref a) (fun vs=>if vs.length=d.np then bnd (Fb (vs.map some++List.replicate (d.names.length - d.np) none)) finF else bad):=by
 intro s io m vs us H G hu
 dsimp only
 simp only [bT8,Bool.and_eq_true,beq_iff_eq,Bool.not_eq_true',decide_eq_true_eq,List.isEmpty_iff,Option.isNone_iff_eq_none] at hh
 obtain ⟨⟨⟨⟨⟨⟨⟨⟨⟨⟨⟨⟨⟨⟨⟨h1,h2⟩,h3⟩,h4⟩,h5⟩,h6⟩,h7⟩,h8⟩,h9⟩,h10⟩,h11⟩,h12⟩,h13⟩,h14⟩,h15⟩,h16⟩:=hh
 have hdef:fd.defaults=.none:=by
  cases q:fd.defaults <;> rw [q] at h11 <;> first | rfl | (exact absurd h11 Bool.false_ne_true)
 split
 ·rename_i hl
  intro hne
  have hlen:us.length=fd.params.args.length:=by
   have:=congrArg List.length h12
   simp at this
   rw [hu.length,hl];lia
  have hnd:(fd.params.args.map (·.arg)).Nodup:=by rw [h12];exact h14.sublist (List.take_sublist _ _)
  refine codeAny_call_function (by have:=R.depth;simp only [recursionLimit];lia) (H.get gl ho) hdata h2 h3 hb ((codeRec_of gl.X h16).keeps H.keep) ?_
  rw [aK3 h7 h8 h9 h10 hdef hnd hlen]
  refine wpAny_pure ?_
  rw [h4,h5,h6]
  have hkinds:∀ x∈d.names,fd.scope.names.lookup x=some .local \/ fd.scope.names.lookup x=some .cell:=fun x hx=>by
   have:=List.all_eq_true.mp h15 x hx
   simpa using this
  refine wpAny_newFunctionEnv_cells h1 (fun x hx=>?_) fun env he s₂ hI=>?_
  ·have hxn:x.1∈d.names:=by
    have:=(List.of_mem_zip (show (x.1,x.2)∈_ from hx)).1
    rw [h12] at this
    exact List.mem_of_mem_take this
   rcases hkinds _ hxn with e | e
   ·exact .inl e
   ·exact .inr ⟨e,cellsFrom_some _ _ _ (.inl e)⟩
  ·rw [h12] at hI
   rcases bU6 H G hl h13 hu h1 h14 hkinds rfl he hI with ⟨Z,own0⟩
   have keep:=hI.toInCall.keep
   obtain ⟨hs,htk,hse⟩:=hI.toInCall.same
   have sm:Same s s₂:=by rw [hse];exact ⟨rfl,rfl⟩
   refine ⟨gl.ok.nolimit.keeps (fun b o e=>keep b o (H.keep b o e)),codeAny_func ?_⟩
   have hsc:env.scope=fd.scope:=by rw [he];rfl
   refine wpAny_mono (hbody env hsc s₂ io m _ Z (Res.bind_ne hne)) (fun f s₃ q=>?_) fun e s₃ q=>?_
   ·obtain ⟨⟨fl,r₃⟩,m₃,io₃,e3,st3,H3,⟨kf,F3⟩,sm3⟩:=q
    have frs':∀ b∈frs (env::fs),s.heap.get? b=none \/ b∈frs fs:=fun b hb=>by
     have e:frs (env::fs)=env.locals::frs fs:=by simp [frs,Z.fr]
     rw [e] at hb
     rcases List.mem_cons.mp hb with rfl | hb
     ·exact .inl (own0 _ (.head _))
     ·exact .inr hb
    have st0:Step [] (frs fs) s.heap io m s₃.heap io₃ m₃:=st3.shrink H keep (fun b hb=>.inl (own0 b hb)) frs'
    have ee:∀ g:Fl×Lo->Mn V,bnd (Fb (vs.map some++List.replicate (d.names.length - d.np) none)) g m=g (fl,r₃) m₃:=fun g=>by show (Fb _ m).bind _=_;rw [e3];rfl
    rw [ee] at hne ⊢
    cases kf with
    | next=>exact ⟨_,m₃,io₃,rfl,st0,H3,.none,sm.trans sm3⟩
    | cont=>exact absurd rfl hne
    | ret kv=>exact ⟨_,m₃,io₃,rfl,st0,H3,kv,sm.trans sm3⟩
   ·exact q.elim
 ·exact fun h=>absurd rfl h
end
end Mini
namespace Mini
open PySem PySem.W
section
variable {W:Wd} {K:Frag} {h h' h₀:Heap} {fs:List Env} {env:Env} {vis:List (Option Str)} {s s':Shared} {io io' io₀:Io} {m m' m₀:MH} {r r':Lo} {fr fr' own own':List Addr} {A:Around} {n:Nat} {pos p:Pos}
theorem bJ9 {scope:Scope} (hc:∀ x k,(x,k)∈scope.names->k=.free->∃ c,env.cells.lookup x=some c) :
    ∃ cl,closureFor scope env=Pure.pure cl /\ (∀ x c,cl.lookup x=some c->env.cells.lookup x=some c) /\ (∀ x,(x,NameKind.free)∈scope.names->∃ c,cl.lookup x=some c):=by
  have key:∀ (l:List (Str×NameKind)) (f:(Str×NameKind)->List (Str×Addr)->Sem (ForInStep (List (Str×Addr)))) (cs:List (Str×Addr)),
      (∀ x k cs,f (x,k) cs=if k == .free then (do let c <- cellOf env x;Pure.pure (.yield ((x,c)::cs))) else Pure.pure (.yield cs)) ->
      (∀ x k,(x,k)∈l->k=.free->∃ c,env.cells.lookup x=some c)->(∀ x c,cs.lookup x=some c->env.cells.lookup x=some c) ->
      ∃ cl,forIn l cs f=Pure.pure cl /\ (∀ x c,cl.lookup x=some c->env.cells.lookup x=some c) /\ (∀ x,(x,NameKind.free)∈l->∃ c,cl.lookup x=some c) /\ (∀ x c,cs.lookup x=some c->∃ c',cl.lookup x=some c'):=by
    intro l
    induction l with
    | nil=>intro f cs _ _ h2;exact ⟨cs,rfl,h2,fun y_ q=>(by cases q),fun x c q=>⟨c,q⟩⟩
    | cons p l ih=>
      intro f cs hf hl h2
      rcases p with ⟨x,k⟩
      rw [List.forIn_cons,hf]
      by_cases q:k=.free
      · subst q
        rcases hl x .free (.head _) rfl with ⟨c,hcx⟩
        have e1:cellOf env x=Pure.pure c:=by unfold cellOf;rw [hcx]
        rw [e1]
        rcases ih f ((x,c)::cs) hf (fun y j hy=>hl y j (.tail _ hy)) (fun y c' hy=>by
          rw [List.lookup_cons] at hy
          cases z:y == x with
          | true=>rw [z] at hy;cases hy;rw [beq_iff_eq.mp z];exact hcx
          | false=>rw [z] at hy;exact h2 y c' hy) with ⟨cl,g1,g2,g3,g4⟩
        refine ⟨cl,g1,g2,fun y hy=>?_,fun y c' hy=>?_⟩
        · rcases List.mem_cons.mp hy with e | hy
          · cases e;exact g4 x c (by simp)
          · exact g3 y hy
        · by_cases z:y=x
          · subst z;exact g4 y c (by simp)
          · exact g4 y c' (by rw [List.lookup_cons];have:(y == x)=false:=by simpa using z
                              rw [this];exact hy)
      · have q':(k == NameKind.free)=false:=by simpa using q
        simp only [q',Bool.false_eq_true,if_false]
        obtain ⟨cl,g1,g2,g3,g4⟩:=ih f cs hf (fun y j hy=>hl y j (.tail _ hy)) h2
        refine ⟨cl,g1,g2,fun y hy=>?_,g4⟩
        rcases List.mem_cons.mp hy with e | hy
        · cases e;exact absurd rfl q
        · exact g3 y hy
  have e:closureFor scope env=(forIn scope.names ([]:List (Str×Addr)) (fun (p:Str×NameKind) cs=>if p.2 == .free then (do let c <- cellOf env p.1;Pure.pure (ForInStep.yield ((p.1,c)::cs))) else Pure.pure (ForInStep.yield cs)) >>= fun cs=>Pure.pure cs):=rfl
  rw [e]
  rcases key scope.names (fun (p:Str×NameKind) cs=>if p.2 == .free then (do let c <- cellOf env p.1;Pure.pure (ForInStep.yield ((p.1,c)::cs))) else Pure.pure (ForInStep.yield cs)) [] (fun x k cs=>rfl) hc (fun y_ y_ q=>by cases q) with ⟨cl,g1,g2,g3,y_⟩
  exact ⟨cl,by rw [g1];rfl,g2,g3⟩
theorem aK8 (H:HR W s.heap io m) (F:FR W s.heap io env vis r) (ho:env.locals∈own) {i:Nat} {x:Str} {v:V} {u:Value} (hv:vis[i]?=some (some x)) (hk:env.kindOf x=some .local) (k:VR W s.heap io v u) :
  Si W own A fs (RP W env vis) (storeName env x u) s io m (.ok (r.set i (some v)) m):=by
 intro y_
 have hi:i < vis.length:=(List.getElem?_eq_some_iff.mp hv).1
 have row:∀ (j:Nat) (y:Str) (w:V),vis[j]?=some (some y)->(r.set i (some v))[j]?=some (some w)->(y=x /\ w=v) \/ (y≠x /\ r[j]?=some (some w)):=by
  intro j y w h1 h2
  by_cases q:i=j
  ·subst q
   rw [List.getElem?_set_self (by rw [F.len];exact hi)] at h2
   rw [hv] at h1
   cases h1;cases h2;exact .inl ⟨rfl,rfl⟩
  ·rw [List.getElem?_set_ne q] at h2
   refine .inr ⟨fun e=>q (F.inj i j x hv (e▸h1)),h2⟩
 refine hide fun G_ g_=>?_
 rcases F.loc with ⟨mp,hn,hl⟩
 rcases id hn with ⟨oL,esL,epL,hoL,hdL,y_⟩
 refine g_ ?_
 clear g_ G_
 refine wpAny_storeName_local hk hn (fun h' hn' hs=>?_) (by rw [F.kind];rfl)
 have kk:∀ b o,b≠env.locals->s.heap.get? b=some o->h'.get? b=some o:=fun b o q e=>(hs.2 b q).trans e
 have lv:∀ o,s.heap.get? env.locals=some o->¬ c9 o /\ ∃ o',h'.get? env.locals=some o':=fun o ho=>by
  rw [hoL] at ho;cases ho
  obtain ⟨o',y_,y_,ho',y_⟩:=id hn'
  exact ⟨dP hdL,o',ho'⟩
 have st:Step own (frs fs) s.heap io m h' io m:=fU H (L:=env.locals) ho kk lv F.nofoot
 have H':HR W h' io m:=H.ofOwn (own:=own) (L:=env.locals) ho kk lv F.nofoot F.fresh
 refine ⟨_,m,io,rfl,st,H',?_,rfl,rfl⟩
 refine ⟨F.kind,F.glob,F.blt,F.nofoot,F.fresh,⟨_,hn',fun j y w h1 h2 h3=>?_⟩,fun j y w h1 h2 h3=>?_,fun y c hy=>?_,F.celex,F.apart,F.inj,by simp [F.len]⟩
 ·rcases row j y w h1 h2 with ⟨rfl,rfl⟩ | ⟨q,h2⟩
  ·exact ⟨u,by simp,k.step st⟩
  ·obtain ⟨u',e,k'⟩:=hl j y w h1 h2 h3
   exact ⟨u',by simp [q,e],k'.step st⟩
 ·rcases row j y w h1 h2 with ⟨rfl,rfl⟩ | ⟨q,h2⟩
  ·rw [hk] at h3;simp at h3
  ·obtain ⟨c,u',e,k1,k2⟩:=F.cel j y w h1 h2 h3
   refine ⟨c,u',e,?_,k2.step st⟩
   obtain ⟨oc,hoc,hdc⟩:=k1
   exact ⟨oc,kk c oc (F.cells y c e).2.2 hoc,hdc⟩
 ·obtain ⟨⟨o,oc,hoc,hdc⟩,k2,k3⟩:=F.cells y c hy
  exact ⟨⟨o,oc,kk c oc k3 hoc,hdc⟩,k2,k3⟩
theorem FR.weak (F:FR W h io env vis r) (k:∀ (j:Nat) (w:V),r'[j]?=some (some w)->r[j]?=some (some w)) (hl:r'.length=r.length):FR W h io env vis r':=by
 obtain ⟨mp,hn,hl'⟩:=F.loc
 exact ⟨F.kind,F.glob,F.blt,F.nofoot,F.fresh,⟨mp,hn,fun i x v h1 h2 h3=>hl' i x v h1 (k i v h2) h3⟩,fun i x v h1 h2 h3=>F.cel i x v h1 (k i v h2) h3,F.cells,F.celex,F.apart,F.inj,hl.trans F.len⟩
noncomputable def fL (ifs:List Expr) (env:Env) (b:Bool):Sem Bool:=forIn ifs b fun c r=>if r=true then do let ok <- isTrue c env (eval c env);Pure.pure (ForInStep.yield ok) else Pure.pure (ForInStep.yield r)
theorem aX9 (ifs:List Expr):fL ifs env false=Pure.pure false:=by
 induction ifs with
 | nil=>rfl
 | cons c cs ih=>unfold fL;rw [List.forIn_cons];exact ih
theorem dD1:SiB W A fs env vis (fL [] env true) (fun y_=>ret true):=fun y_ y_ y_ y_ Z=>.pure (u:=true) Z.H rfl
theorem cS8 {c:Expr} {cs:List Expr} {ct cts:Lo->Mn Bool} (hc:SiB W A fs env vis (isTrue c env (eval c env)) ct) (hs:SiB W A fs env vis (fL cs env true) cts) :
  SiB W A fs env vis (fL (c::cs) env true) (fun r=>bnd (ct r) fun b=>if b then cts r else ret false):=by
 intro s io m r Z hne
 unfold fL
 rw [List.forIn_cons]
 refine wpAny_bind ?_
 simp only [if_true]
 refine wpAny_bind (wpAny_mono (hc s io m r Z (Res.bind_ne hne)) (fun b s₁ q=>wpAny_pure ?_) fun y_ y_ q=>q)
 obtain ⟨b',m₁,io₁,e1,st,H₁,rfl,sm⟩:=q
 have ee:bnd (ct r) (fun b=>if b then cts r else ret false) m=(if b' then cts r else ret false) m₁:=by show (ct r m).bind _=_;rw [e1];rfl
 dsimp only at hne ⊢
 rw [ee] at hne ⊢
 cases b' with
 | false=>
  show wpAny _ _ (fL cs env false) _ _ _
  rw [aX9]
  exact wpAny_pure ⟨false,m₁,io₁,rfl,st,H₁,rfl,sm⟩
 | true=>exact wpAny_mono (hs s₁ io₁ m₁ r (Z.step H₁ st) hne) (fun y_ y_ z=>z.mono st sm) fun y_ y_ z=>z
theorem aD2 {env:Env}:∀ {names:List (Str×NameKind)} {x:Str},names.lookup x=some .free ->
  (names.map fun (n,k)=>if (k == NameKind.free&&env.scope.kind == .function&&env.kindOf n == some .cell) then (n,NameKind.cell) else (n,k)).lookup x=some .cell \/ (names.map fun (n,k)=>if (k == NameKind.free&&env.scope.kind == .function&&env.kindOf n == some .cell) then (n,NameKind.cell) else (n,k)).lookup x=some .free
 | [],_,h=>by simp at h
 | (n,k)::r,x,h=>by
  have ih:=@aD2 env r x
  simp only [List.map_cons]
  cases hx:x == n with
  | true=>
   simp only [List.lookup_cons,hx] at h
   cases h
   by_cases hc:(NameKind.free == NameKind.free&&env.scope.kind == .function&&env.kindOf n == some .cell)=true
   ·rw [if_pos hc];left;simp [List.lookup_cons,hx]
   ·rw [if_neg hc];right;simp [List.lookup_cons,hx]
  | false=>
   simp only [List.lookup_cons,hx] at h
   by_cases hc:(k == NameKind.free&&env.scope.kind == .function&&env.kindOf n == some .cell)=true
   ·rw [if_pos hc];simp only [List.lookup_cons,hx];exact ih h
   ·rw [if_neg hc];simp only [List.lookup_cons,hx];exact ih h
structure CompOk (scope:Scope) (env:Env) (vis vis':List (Option Str)) (nl:Nat):Prop where
 kind:scope.kind=.function
 names:∀ x∈scope.names,x.2=.local->scope.names.lookup x.1=some .local
 cell:∀ x∈scope.names,x.2≠.cell
 cap:∀ x∈scope.names,x.2=.free->∃ i:Nat,vis[i]?=some (some x.1) /\ (env.kindOf x.1=some .cell \/ env.kindOf x.1=some .free)
 see:∀ (i:Nat) (x:Str),vis'[i]?=some (some x)->(vis.length <= i /\ scope.names.lookup x=some .local) \/ (vis[i]?=some (some x) /\ scope.names.lookup x=some .free)
 inj:∀ (i j:Nat) (x:Str),vis'[i]?=some (some x)->vis'[j]?=some (some x)->i=j
 len:vis'.length=vis.length+nl
theorem bJ7 {scope:Scope} {vis':List (Option Str)} {nl:Nat} {cl:List (Str×Addr)} {C:Addr} (ck:CompOk scope env vis vis' nl) (H:HR W h io m) (F:FR W h io env vis r) (g2:∀ x c,cl.lookup x=some c->env.cells.lookup x=some c) (g3:∀ x,(x,NameKind.free)∈scope.names->∃ c,cl.lookup x=some c)
  (hk:∀ b o,h.get? b=some o->h'.get? b=some o) (hC:h.get? C=none) (hn:h'.Ns C (fun y_=>none)):FR W h' io (compEnvC scope cl C env) vis' (r++List.replicate nl none):=by
 have basN:W.base.get? C=none:=by
  cases q:W.base.get? C with
  | none=>rfl
  | some o=>rw [H.keep _ _ q] at hC;cases hC
 have nf:¬ dG io C:=fun f=>by
  obtain ⟨o,ho,y_⟩:=H.foot f
  rw [hC] at ho;cases ho
 have st:Step [] [] h io m h' io m:=.of_keeps H hk
 have F':=F.step0 H st
 have old:∀ (i:Nat) (x:Str) (v:V),vis'[i]?=some (some x)->(r++List.replicate nl none)[i]?=some (some v)->vis[i]?=some (some x) /\ scope.names.lookup x=some .free /\ r[i]?=some (some v):=by
  intro i x v h1 h2
  have hi:i < r.length:=by
   rcases Nat.lt_or_ge i r.length with q | q
   ·exact q
   ·rw [List.getElem?_append_right q] at h2
    have:=List.mem_of_getElem? h2
    simp at this
  rw [List.getElem?_append_left hi] at h2
  rcases ck.see i x h1 with ⟨q,_⟩ | ⟨q1,q2⟩
  ·rw [F.len] at hi;lia
  ·exact ⟨q1,q2,h2⟩
 have kd:∀ x,scope.names.lookup x=some .free->(compEnvC scope cl C env).kindOf x=some .cell \/ (compEnvC scope cl C env).kindOf x=some .free:=fun x hx=>aD2 hx
 have capk:∀ x,scope.names.lookup x=some .free->env.kindOf x=some .cell \/ env.kindOf x=some .free:=fun x hx=>by
  obtain ⟨i,y_,q⟩:=ck.cap (x,.free) (mem_of_lookup hx) rfl
  exact q
 refine ⟨ck.kind,F.glob,F.blt,nf,basN,⟨_,hn,fun i x v h1 h2 h3=>?_⟩,fun i x v h1 h2 h3=>?_,fun x c hc=>?_,fun i x h1 h2=>?_,fun x y c h1 h2=>F.apart x y c (g2 x c h1) (g2 y c h2),ck.inj,by simp [F.len,ck.len]⟩
 ·obtain ⟨q1,q2,q3⟩:=old i x v h1 h2
  rcases kd x q2 with e | e <;> rw [e] at h3 <;> cases h3
 ·refine hide fun G_ g_=>?_
  rcases old i x v h1 h2 with ⟨q1,q2,q3⟩
  rcases F'.cel i x v q1 q3 (capk x q2) with ⟨c,u,e,k1,k2⟩
  refine g_ ?_
  clear g_ G_
  rcases g3 x (mem_of_lookup q2) with ⟨c',hc'⟩
  have:=g2 x c' hc'
  rw [e] at this;cases this
  exact ⟨c,u,hc',k1,k2⟩
 ·obtain ⟨k1,k2,k3⟩:=F'.cells x c (g2 x c hc)
  refine ⟨k1,k2,fun e=>?_⟩
  obtain ⟨⟨y_,o,ho,y_⟩,y_⟩:=F.cells x c (g2 x c hc)
  rw [e] at ho;rw [show (compEnvC scope cl C env).locals=C from rfl,hC] at ho;cases ho
 ·rcases ck.see i x h1 with ⟨_,q⟩ | ⟨q1,q2⟩
  ·have:(compEnvC scope cl C env).kindOf x=some .local:=lookup_relabel_local q
   rcases h2 with e | e <;> rw [this] at e <;> cases e
  ·exact g3 x (mem_of_lookup q2)
theorem cF8 {g:Gd} {step:V->Mn (Option V)}:∀ {vs:List V} {m:MH},bH g step vs m≠.bad->∃ l m',bH g step vs m=.ok l m':=by
 intro vs
 induction vs with
 | nil=>
  intro m h
  by_cases q:g.stays m=true
  ·exact ⟨[],m,if_pos q⟩
  ·exact absurd (if_neg q) h
 | cons v vs ih=>
  intro m h
  by_cases q:g.stays m=true
  ·have ec:bH g step (v::vs) m=((step v m).nox).bind (fun o=>bnd (bH g step vs) fun r=>ret (d9 o r)):=if_pos q
   rw [ec] at h ⊢
   cases e:step v m with
   | bad=>rw [e] at h;exact absurd rfl h
   | exc c m'=>rw [e] at h;exact absurd rfl h
   | ok o m'=>
    rw [e] at h
    have h':(bH g step vs m').bind (fun r=>ret (d9 o r))≠.bad:=h
    obtain ⟨l,m'',e'⟩:=ih (Res.bind_ne h')
    refine ⟨d9 o l,m'',?_⟩
    show (bH g step vs m').bind (fun r=>ret (d9 o r))=_
    rw [e'];rfl
  ·exact absurd (if_neg q) h
theorem bJ8 {g:Gd} {step:V->Mn (Option V)} {v:V} {vs:List V} {L:List V} {m mL:MH} (h:bH g step (v::vs) m=.ok L mL):g.stays m=true /\ ∃ o m' L',step v m=.ok o m' /\ bH g step vs m'=.ok L' mL /\ L=d9 o L':=by
 by_cases q:g.stays m=true
 ·have ec:bH g step (v::vs) m=((step v m).nox).bind (fun o=>bnd (bH g step vs) fun r=>ret (d9 o r)):=if_pos q
  rw [ec] at h
  refine ⟨q,?_⟩
  cases e:step v m with
  | bad=>rw [e] at h;cases h
  | exc c m'=>rw [e] at h;cases h
  | ok o m'=>
   rw [e] at h
   have h':(bH g step vs m').bind (fun r=>ret (d9 o r))=.ok L mL:=h
   cases e2:bH g step vs m' with
   | bad=>rw [e2] at h';cases h'
   | exc c m''=>rw [e2] at h';cases h'
   | ok l m''=>
    rw [e2] at h'
    cases h'
    exact ⟨o,m',l,rfl,e2,rfl⟩
 ·have ec:bH g step (v::vs) m=.bad:=if_neg q
  rw [ec] at h;cases h
theorem b7 {g:Gd} {step:V->Mn (Option V)} {vs:List V} {L:List V} {m mL:MH} (h:bH g step vs m=.ok L mL):g.stays m=true:=by
 cases q:g.stays m with
 | true=>rfl
 | false=>
  have z:¬ g.stays m=true:=by rw [q];exact Bool.false_ne_true
  have ec:bH g step vs m=.bad:=by cases vs with
   | nil=>exact if_neg z
   | cons y_ y_=>exact if_neg z
  rw [ec] at h;cases h
end
end Mini
namespace Mini
open PySem PySem.W
section
variable {W:Wd} {K:Frag} {h h' h₀:Heap} {fs:List Env} {env:Env} {vis:List (Option Str)} {s s' s₀:Shared} {io io' io₀:Io} {m m' m₀:MH} {r r':Lo} {fr fr' own own':List Addr} {A:Around} {n:Nat} {pos p:Pos}
noncomputable def TgL (vis vis':List (Option Str)):List Nat->List Expr->Prop
 | [],es=>es=[]
 | i::is,es=>∃ x p es',es=.Name x p::es' /\ vis'[i]?=some (some x) /\ vis.length <= i /\ TgL vis vis' is es'
inductive CTg (A:Around) (vis vis':List (Option Str)):CT->Expr->Prop
 | one (j:Nat) (x:Str) (px:Pos):vis'[j]?=some (some x)->vis.length <= j->CTg A vis vis' (.one j) (.Name x px)
 | many (is:List Nat) (es:List Expr) (k:Nat) (p:Pos):A.handled=none->TgL vis vis' is es->CTg A vis vis' (.many is) (.Tuple es k p)
noncomputable def Hol (vis:List (Option Str)) (row r:Lo):Prop:=r.length=row.length /\ ∀ a w,a < vis.length->row[a]?=some (some w)->r[a]?=some (some w)
theorem Hol.set {vis:List (Option Str)} {row r:Lo} {j:Nat} {v:Option V} (h:Hol vis row r) (hj:vis.length <= j):Hol vis row (r.set j v):=
 ⟨by rw [List.length_set];exact h.1,fun a w ha e=>by rw [List.getElem?_set_ne (fun q=>Nat.not_lt.mpr hj (by rw [q];exact ha))];exact h.2 a w ha e⟩
theorem cA3 {t:CT} {v:V} {r r':Lo} {m m':MH} (h:aE1 t v r m=.ok r' m'):m'=m:=by
 cases t with
 | one i=>cases h;rfl
 | many is=>
  cases v with
  | tup vs=>
   have h:ofO (cA is vs r) m=.ok r' m':=h
   cases q:cA is vs r with
   | none=>rw [q] at h;cases h
   | some r1=>rw [q] at h;cases h;rfl
  | _=>cases h
theorem TgL.tgs {cenv:Env} {vis vis':List (Option Str)} (lk:∀ (j:Nat) (x:Str),vis'[j]?=some (some x)->vis.length <= j->cenv.kindOf x=some .local):∀ {is:List Nat} {es:List Expr},TgL vis vis' is es->Tgs cenv vis' is es
 | [],_,h=>h
 | i::is,_,h=>by
  rcases h with ⟨x,p,es',e,hv,hi,t⟩
  exact ⟨x,p,es',e,hv,.inl (lk i x hv hi),t.tgs lk⟩
theorem cK3 {cenv:Env} {vis':List (Option Str)} {row:Lo} (lk:∀ (j:Nat) (x:Str),vis'[j]?=some (some x)->vis.length <= j->cenv.kindOf x=some .local):∀ {is:List Nat} {elts:List Expr},TgL vis vis' is elts->∀ {vs:List V} {us:List Value} {s:Shared} {io:Io} {m:MH} {r:Lo},HR W s.heap io m->FR W s.heap io cenv vis' r->Hol vis row r->VRs W s.heap io vs us ->
  Si W [cenv.locals] A fs (fun h io r' (_:Unit)=>FR W h io cenv vis' r' /\ Hol vis row r') (assignInOrder ((assignEach elts cenv).map (·.2)) us) s io m (ofO (cA is vs r) m)
 | [],_,h,vs,us,s,io,m,r,H,F,hl,k=>by
  cases h
  induction k using VRs.elim with
  | nil=>exact Si.pure (P:=fun h io r' (_:Unit)=>FR W h io cenv vis' r' /\ Hol vis row r') H ⟨F,hl⟩
  | cons y_ y_=>exact Si.bad
 | i::is,_,z,vs,us,s,io,m,r,H,F,hl,k=>by
  rcases z with ⟨x,p,es',e,hv,hi,t⟩
  subst e
  induction k using VRs.elim with
  | nil=>exact Si.bad
  | @cons v u vs us k1 k2=>
   refine Si.bind (R:=(.ok (r.set i (some v)) m:Res Lo)) (f:=fun r' m'=>ofO (cA is vs r') m') (.holding (.standAt (pos:=p) (.bindName (aK8 (own:=[cenv.locals]) H F (.head _) hv (lk i x hv hi) k1)))) fun y_ s₁ io₁ m₁ r₁ e st H1 kF sm=>?_
   cases e
   exact cK3 lk t H1 kF (hl.set hi) (k2.step st)
theorem bV0 {cenv:Env} {vis':List (Option Str)} {row:Lo} {t:CT} {tg:Expr} (g:CTg A vis vis' t tg) (lk:∀ (j:Nat) (x:Str),vis'[j]?=some (some x)->vis.length <= j->cenv.kindOf x=some .local) {v:V} {u:Value} (H:HR W s.heap io m) (F:FR W s.heap io cenv vis' row) (k:VR W s.heap io v u) :
  Si W [cenv.locals] A fs (fun h io r' (_:Unit)=>FR W h io cenv vis' r' /\ Hol vis row r') (assign tg cenv u) s io m (aE1 t v row m):=by
 have h0:Hol vis row row:=⟨rfl,fun y_ y_ y_ e=>e⟩
 cases g with
 | one j x px hv hj=>
  intro hne
  refine wpAny_assign_Name (wpAny_mono (aK8 (own:=[cenv.locals]) (A:=A) (fs:=fs) H F (.head _) hv (lk j x hv hj) k (fun q=>nomatch q)) (fun y_ s₂ q=>?_) fun y_ y_ q=>q)
  rcases q with ⟨r₂,mq,io₂,e2,st2,H2,F2,sm2⟩
  cases e2
  exact ⟨_,_,_,rfl,st2,H2,⟨F2,h0.set hj⟩,sm2⟩
 | many is es c p hh ht=>
  induction k using VR.elim with
  | @tup a vs c xs h1 h4=>
   show Si W [cenv.locals] A fs _ _ s io m (ofO (cA is xs row) m)
   intro hne
   have hl:is.length=xs.length:=by
    cases q:cA is xs row with
    | none=>rw [q] at hne;exact absurd rfl hne
    | some r'=>exact fM q
   have tl:=(ht.tgs lk).len
   refine wpAny_assign_Tuple hh ⟨_,h1,rfl,c,rfl⟩ (by rw [tl.1,hl];have:=h4.length;simpa using this.symm) tl.2 fun h' hx=>?_
   have hk:∀ b o,s.heap.get? b=some o->h'.get? b=some o:=fun b o e=>hx b o (fun q=>by rw [q,aQ] at e;cases e) e
   have st:Step [cenv.locals] (frs fs) s.heap io m h' io m:=.of_keeps H hk
   have st0:Step [] (frs fs) s.heap io m h' io m:=.of_keeps H hk
   exact wpAny_mono (cK3 (s:={ s with heap:=h' }) lk ht (H.of_keeps hk) (F.step0 H st0) h0 (h4.step st) hne) (fun y_ y_ z=>z.mono st ⟨rfl,rfl⟩) fun y_ y_ z=>z
  | _=>exact Si.bad
theorem bV1 {elt target iter:Expr} {ifs:List Expr} {scope:Scope} {it acc:Value} {env:Env} {R:Result->Shared->Prop} (I:Nat->Shared->Prop)
  (turn:∀ n s,I n s->wpAny (model W.prog W.w) A (pyNext it) (fun o s₁=>match o with
   | none=>R (.ok .next) s₁
   | some v=>wpAny (model W.prog W.w) A (letOwnedTupleGo target it v) (fun y_ s₁=>wpAny (model W.prog W.w) A (assign target env v) (fun y_ s₂=>wpAny (model W.prog W.w) A (fL ifs env true) (fun ok s₃=>
     if ok=true then wpAny (model W.prog W.w) A (eval elt env) (fun x s₄=>wpAny (model W.prog W.w) A (call (.builtin "list.append") [acc,x]) (fun y_ s₅=>∃ k,k < n /\ I k s₅) (notedBy (model W.prog W.w) A env fun e s'=>R (.error e) s') s₄) (notedBy (model W.prog W.w) A env fun e s'=>R (.error e) s') s₃
     else ∃ k,k < n /\ I k s₃) (notedBy (model W.prog W.w) A env fun e s'=>R (.error e) s') s₂) (notedBy (model W.prog W.w) A env fun e s'=>R (.error e) s') s₁) (notedBy (model W.prog W.w) A env fun e s'=>R (.error e) s') s₁) (notedBy (model W.prog W.w) A env fun e s'=>R (.error e) s') s)
  (n:Nat) (h:I n s):codeAny (model W.prog W.w) A (.compLoop (.ListComp elt [⟨target,iter,ifs,0⟩] scope pos) 0 it acc env) R s:=by
 refine codeAny_loop rfl I (fun n s hI=>?_) n h
 refine wpAny_noted ?_
 rw [compTurn_list]
 have up:∀ {α:Type} {t:Sem α} {Q Q':α->Shared->Prop} {E:Value->Shared->Prop} {s:Shared},wpAny (model W.prog W.w) A t Q E s->(∀ a s,Q a s->Q' a s)->wpAny (model W.prog W.w) A t Q' E s:=fun h k=>wpAny_mono h k fun y_ y_ q=>q
 refine wpAny_bind (wpAny_standAt (wpAny_bind (up (turn n s hI) fun o s₁ h₁=>?_)))
 cases o with
 | none=>exact wpAny_pure h₁
 | some v=>
  refine wpAny_bind (up h₁ fun y_ s₁ h₁=>wpAny_bind (up h₁ fun y_ s₂ h₂=>wpAny_bind (up h₂ fun ok s₃ h₃=>?_)))
  cases ok with
  | false=>exact wpAny_pure ⟨rfl,h₃⟩
  | true=>exact wpAny_bind (wpAny_bind (up h₃ fun x s₄ h₄=>wpAny_bind (up h₄ fun y_ s₅ h₅=>wpAny_pure (wpAny_pure ⟨rfl,h₅⟩))))
noncomputable def eK (t:CT) (row:Lo) (cif:Lo->Mn Bool) (celt:Lo->Mn V) (v:V):Mn (Option V):=
 bnd (aE1 t v row) fun r'=>bnd (cif r') fun b=>if b then bnd (celt r') fun x=>ret (some x) else ret none
theorem aJ0 {us:Array Value} {c:Nat}:¬ c9 (fH us c):=by
 rintro (⟨e,y_⟩ | ⟨y_,y_,y_,e⟩)
 ·simp at e
 ·cases e
inductive CInv (W:Wd) (fs:List Env) (s₀:Shared) (io₀:Io) (m₀:MH) (cenv:Env) (vis':List (Option Str)) (row:Lo) (St:Nat->Heap->Io->Prop) (D:Addr) (g:Gd) (f:V->Mn (Option V)) (vs L:List V) (mL:MH) (k:Nat) (s':Shared):Prop
 | mk (i:Nat) (io':Io) (m':MH) (outs L':List V) (us:Array Value) (c:Nat):k=vs.length - i->i <= vs.length->Step [] (frs fs) s₀.heap io₀ m₀ s'.heap io' m'->HR W s'.heap io' m'->FR W s'.heap io' cenv vis' row->St i s'.heap io'->s'.heap.get? D=some (fH us c)->VRs W s'.heap io' outs us.toList->¬ dG io' D->Same s₀ s' ->
   bH g f (vs.drop i) m'=.ok L' mL->L=outs++L'->CInv W fs s₀ io₀ m₀ cenv vis' row St D g f vs L mL k s'
theorem bV2 {elt iter:Expr} {ifs:List Expr} {scope:Scope} {cpos:Pos} {tg:Expr} {t:CT} {cenv:Env} {vis':List (Option Str)} {row:Lo} {D I:Addr} {wr:List Addr} {g:Gd} {vs L:List V} {St:Nat->Heap->Io->Prop} {c0:Nat} {cif:Lo->Mn Bool} {celt:Lo->Mn V} {io₂:Io} {m₂ mL:MH} {RR:Result->Shared->Prop}
  (H0:HR W s₀.heap io₀ m₀) (G0:FF W s₀.heap io₀ fs) (hw:Wk W A I wr g vs St) (hnew:∀ b∈wr,s₀.heap.get? b=none) (hD0:s₀.heap.get? D=none) (hC0:s₀.heap.get? cenv.locals=none) (hDC:D≠cenv.locals) (hDw:D∉wr) (hCw:cenv.locals∉wr)
  (hg:CTg A vis vis' t tg) (lk:∀ (j:Nat) (x:Str),vis'[j]?=some (some x)->vis.length <= j->cenv.kindOf x=some .local) (hrow:∀ a w,row[a]?=some (some w)->a < vis.length) (hcel:∀ y c,cenv.cells.lookup y=some c->∃ o,s₀.heap.get? c=some o)
  (hifs:SiB W A fs cenv vis' (fL ifs cenv true) cif) (helt:SiE W A fs cenv vis' (eval elt cenv) celt)
  (st₂:Step [] (frs fs) s₀.heap io₀ m₀ s.heap io₂ m₂) (H₂:HR W s.heap io₂ m₂) (F₂:FR W s.heap io₂ cenv vis' row) (hst₂:St 0 s.heap io₂) (hD₂:s.heap.get? D=some (fH #[] c0)) (nfD:¬ dG io₂ D) (sm₂:Same s₀ s)
  (hL:bH g (eK t row cif celt) vs m₂=.ok L mL) (hlen:L.length <= lid)
  (fin:∀ s' io' us c,Step [] (frs fs) s₀.heap io₀ m₀ s'.heap io' mL->HR W s'.heap io' mL->s'.heap.get? D=some (fH us c)->VRs W s'.heap io' L us.toList->¬ dG io' D->(∃ mC,s'.heap.Ns cenv.locals mC) /\ ¬ dG io' cenv.locals->Same s₀ s'->RR (.ok .next) s') :
  codeAny (model W.prog W.w) A (.compStart (.ListComp elt [⟨tg,iter,ifs,0⟩] scope cpos) 0 (.ref I) (.ref D) cenv) RR s:=by
 have hFr:∀ b∈frs fs,∃ o,s₀.heap.get? b=some o:=fun b hb=>by
  refine hide fun G_ g_=>?_
  rcases List.mem_filterMap.mp hb with ⟨e,he,hf⟩
  rcases G0 e he with ⟨y_,L,o,y_,y_,h1,y_,y_,h4,y_⟩
  refine g_ ?_
  clear g_ G_
  rw [h1] at hf;cases hf;exact ⟨o,h4⟩
 have frN:∀ b,s₀.heap.get? b=none->b∉frs fs:=fun b e q=>by rcases hFr b q with ⟨o,ho⟩;rw [e] at ho;cases ho
 have hbase:∀ b o,W.base.get? b=some o->s₀.heap.get? b=some o:=H0.keep
 have basD:W.base.get? D=none:=by
  cases q:W.base.get? D with
  | none=>rfl
  | some o=>rw [hbase _ _ q] at hD0;cases hD0
 have celN:∀ y c,cenv.cells.lookup y=some c->∀ b,s₀.heap.get? b=none->c≠b:=fun y c hy b hb e=>by
  rcases hcel y c hy with ⟨o,ho⟩
  rw [e,hb] at ho;cases ho
 have loop:codeAny (model W.prog W.w) A (.compLoop (.ListComp elt [⟨tg,iter,ifs,0⟩] scope cpos) 0 (.ref I) (.ref D) cenv) RR s:=by
  refine bV1 (I:=CInv W fs s₀ io₀ m₀ cenv vis' row St D g (eK t row cif celt) vs L mL) (fun k s' hI=>?_) vs.length ⟨0,io₂,m₂,[],L,#[],c0,by simp,Nat.zero_le _,st₂,H₂,F₂,hst₂,hD₂,.nil,nfD,sm₂,by simpa using hL,by simp⟩
  obtain ⟨i,io',m',outs,L',us,c,hk',hi,st,H,F,hst,hD,hus,nf,sm,he,hLe⟩:=hI
  have hgd:=b7 he
  have sft:=hw.soft hst
  by_cases hlt:i < vs.length
  ·have hvi:vs[i]?=some vs[i]:=List.getElem?_eq_getElem hlt
   rw [List.drop_eq_getElem_cons hlt] at he
   obtain ⟨y_,o,m₅,L₅,es,ec,eL⟩:=bJ8 he
   refine hw.item hvi hst H hgd fun u h₂ tk ku hst₂ kk₂=>hw.lot (s:={ s' with heap:=h₂,toks:=tk }) hst₂ fun h₁ hst₁ kk₁=>?_
   have kk:∀ b o,b∉wr->s'.heap.get? b=some o->h₁.get? b=some o:=fun b o hb e=>kk₁ b o hb (kk₂ b o hb e)
   have sd:Side W wr s₀.heap s'.heap io' h₁:=⟨kk,hnew,fun b hb=>(sft b hb).1,fun b hb=>(sft b hb).2⟩
   have H1:=sd.hr H hbase
   have st1:=sd.step H st
   have F1:=F.sideN sd hCw fun y c hy q=>celN y c hy c (hnew c q) rfl
   have hD1:h₁.get? D=some (fH us c):=kk _ _ hDw hD
   have hus1:=hus.sol sd.sol
   have ku1:=ku.sol sd.sol
   have es0:(aE1 t vs[i] row m').bind (fun r'=>bnd (cif r') fun b=>if b then bnd (celt r') fun x=>ret (some x) else ret none)=.ok o m₅:=es
   have hne0:aE1 t vs[i] row m'≠.bad:=fun q=>by rw [q] at es0;cases es0
   refine wpAny_mono (bV0 (s:={ s' with heap:=h₁,toks:=tk }) (A:=A) (fs:=fs) hg lk H1 F1 ku1 hne0) (fun y_ s₂ q=>?_) fun e s₂ q=>?_
   rotate_left
   ·exact q.elim
   obtain ⟨r₂,mq,io₂',e2,st2,H2,⟨F2,hol⟩,sm2⟩:=q
   have em:=(cA3 e2).symm
   subst em
   rw [e2] at es0
   have st2':Step [] (frs fs) s₀.heap io₀ m₀ s₂.heap io₂' m':=by
    refine ((st1.wk (own':=[cenv.locals]) fun y_ q=>nomatch q).trans st2).shrink H0 (fun y_ y_ e=>e) (fun b hb=>?_) fun b hb=>.inr hb
    rw [List.mem_singleton.mp hb];exact .inl hC0
   have hD2:s₂.heap.get? D=some (fH us c):=st2.keep _ _ hD1 nf (by simpa using hDC) (frN _ hD0)
   have nf2:¬ dG io₂' D:=st2.nofoot hD1 nf
   have hus2:=hus1.step st2
   have hst2:St (i+1) s₂.heap io₂':=hw.stay hst₁ H1 H2 st2 (fun b hb=>⟨fun q=>hCw (by rw [<- List.mem_singleton.mp q];exact hb),frN _ (hnew b hb)⟩) hgd hgd
   have Z2:Sit W fs cenv vis' s₂ io₂' m' r₂:=⟨H2,F2,G0.step0 st2'⟩
   have es':(cif r₂ m').bind (fun b=>if b then bnd (celt r₂) fun x=>ret (some x) else ret none)=.ok o m₅:=es0
   have hne1:cif r₂ m'≠.bad:=fun q=>by rw [q] at es';cases es'
   refine wpAny_mono (hifs s₂ io₂' m' _ Z2 hne1) (fun ok s₃ q=>?_) fun e s₃ q=>?_
   rotate_left
   ·exact q.elim
   obtain ⟨ok',m₃,io₃,e3,st3,H3,rfl,sm3⟩:=q
   rw [e3] at es'
   have Z3:=Z2.step H3 st3
   have hD3:s₃.heap.get? D=some (fH us c):=st3.keep _ _ hD2 nf2 (fun q=>nomatch q) (frN _ hD0)
   have wrN:∀ b∈wr,b∉([]:List Addr) /\ b∉frs fs:=fun b hb=>⟨(fun q=>nomatch q),frN _ (hnew b hb)⟩
   have weak:∀ {h:Heap} {io:Io},FR W h io cenv vis' r₂->FR W h io cenv vis' row:=fun F=>F.weak (fun a w e=>hol.2 a w (hrow a w e) e) hol.1.symm
   cases ok' with
   | false=>
    simp only [Bool.false_eq_true,if_false]
    have es2:(Res.ok none m₃:Res (Option V))=.ok o m₅:=es'
    cases es2
    refine ⟨vs.length - (i+1),hk'▸Nat.sub_succ_lt_self _ _ hlt,i+1,io₃,m₃,outs,L₅,us,c,rfl,hlt,st2'.trans st3,H3,weak Z3.F,hw.stay hst2 H2 H3 st3 wrN hgd (b7 ec),hD3,hus2.step st3,st3.nofoot hD2 nf2,(sm.trans (Same.trans ⟨rfl,rfl⟩ sm2)).trans sm3,ec,?_⟩
    rw [hLe,eL];rfl
   | true=>
    simp only [if_true]
    have es2:(celt r₂ m₃).bind (fun x=>ret (some x))=.ok o m₅:=es'
    have hne2:celt r₂ m₃≠.bad:=fun q=>by rw [q] at es2;cases es2
    refine wpAny_mono (helt s₃ io₃ m₃ _ Z3 hne2) (fun y s₄ q=>?_) fun e s₄ q=>?_
    rotate_left
    ·exact q.elim
    obtain ⟨y',m₄,io₄,e4,st4,H4,k4,sm4⟩:=q
    rw [e4] at es2
    cases es2
    have nf3:=st3.nofoot hD2 nf2
    have hD4:s₄.heap.get? D=some (fH us c):=st4.keep _ _ hD3 nf3 (fun q=>nomatch q) (frN _ hD0)
    have nf4:=st4.nofoot hD3 nf3
    have hus4:=(hus2.step st3).step st4
    have hst4:St (i+1) s₄.heap io₄:=hw.stay hst2 H2 H4 (st3.trans st4) wrN hgd (b7 ec)
    have ol:us.size <= lid:=by
     have e1:=hus.length
     have e2:L.length=outs.length+L'.length:=by rw [hLe,List.length_append]
     have:us.size=outs.length:=by simpa using e1
     lia
    refine wpAny_list_append_plain ⟨c,hD4⟩ (fun h₅ ⟨c5,hD5⟩ hs5=>?_) (aK ol)
    have kk5:∀ b o,b≠D->s₄.heap.get? b=some o->h₅.get? b=some o:=fun b o q e=>(hs5.2 b q).trans e
    have lv5:∀ o,s₄.heap.get? D=some o->¬ c9 o /\ ∃ o',h₅.get? D=some o':=fun o ho=>by
     rw [hD4] at ho;cases ho;exact ⟨aJ0,_,hD5⟩
    have st5:Step [D] (frs fs) s₄.heap io₄ m₄ h₅ io₄ m₄:=fU H4 (L:=D) (.head _) kk5 lv5 nf4
    have H5:HR W h₅ io₄ m₄:=H4.ofOwn (own:=[D]) (L:=D) (.head _) kk5 lv5 nf4 basD
    have st5':Step [] (frs fs) s₀.heap io₀ m₀ h₅ io₄ m₄:=by
     refine ((((st2'.trans st3).trans st4).wk (own':=[D]) fun y_ q=>nomatch q).trans st5).shrink H0 (fun y_ y_ e=>e) (fun b hb=>?_) fun b hb=>.inr hb
     rw [List.mem_singleton.mp hb];exact .inl hD0
    have F5:FR W h₅ io₄ cenv vis' row:=(weak (Z3.F.step0 H3 st4)).step H4 st5 (by simpa using Ne.symm hDC) fun y c hy=>by simpa using celN y c hy D hD0
    refine ⟨vs.length - (i+1),hk'▸Nat.sub_succ_lt_self _ _ hlt,i+1,io₄,m₄,outs++[y'],L₅,us.push y,c5,rfl,hlt,st5',H5,F5,hw.stay hst4 H4 H5 st5 (fun b hb=>⟨fun q=>hDw (by rw [<- List.mem_singleton.mp q];exact hb),frN _ (hnew b hb)⟩) (b7 ec) (b7 ec),hD5,?_,nf4,((sm.trans (Same.trans ⟨rfl,rfl⟩ sm2)).trans sm3).trans (sm4.trans ⟨rfl,rfl⟩),ec,?_⟩
    ·rw [Array.toList_push];exact (hus4.step st5).snoc (VR.step st5 k4)
    ·rw [hLe,eL];simp [d9]
  ·have hi':i=vs.length:=by lia
   subst hi'
   refine hw.done hst H hgd fun h₁ tk kk=>?_
   have sd:Side W wr s₀.heap s'.heap io' h₁:=⟨kk,hnew,fun b hb=>(sft b hb).1,fun b hb=>(sft b hb).2⟩
   rw [List.drop_length] at he
   have ec:∀ {step:V->Mn (Option V)},bH g step [] m'=.ok [] m':=if_pos hgd
   rw [ec] at he
   cases he
   rw [List.append_nil] at hLe
   subst hLe
   have F1:=F.sideN sd hCw fun y c hy q=>celN y c hy c (hnew c q) rfl
   obtain ⟨mC,hn,y_⟩:=F1.loc
   exact fin { s' with heap:=h₁,toks:=tk } io' us c (sd.step H st) (sd.hr H hbase) (kk _ _ hDw hD) (hus.sol sd.sol) nf ⟨⟨mC,hn⟩,F1.nofoot⟩ (sm.trans ⟨rfl,rfl⟩)
 exact codeAny_compStart_list loop (hw.self hst₂ loop)
end
end Mini
namespace Mini
open PySem PySem.W
section
variable {W:Wd} {K:Frag} {h h' h₀:Heap} {fs:List Env} {env:Env} {vis:List (Option Str)} {s s' s₀:Shared} {io io' io₀:Io} {m m' m₀:MH} {r r':Lo} {fr fr' own own':List Addr} {A:Around} {n:Nat} {pos p:Pos}
theorem VRs.ext (x:∀ (n:Nat) (p:Addr×Addr),io[n]?=some p->io'[n]?=some p) {v:List V} {u:List Value} (k:VRs W h io v u):VRs W h io' v u:=k.mono (fun y_ y_ e y_=>e) x
theorem ERs.ext (x:∀ (n:Nat) (p:Addr×Addr),io[n]?=some p->io'[n]?=some p) {kvs:List (Ky×V)} {es:List DictEntry} (e:ERs W h io kvs es):ERs W h io' kvs es:=e.mono (fun y_ y_ e y_=>e) x
theorem FEs.ext (x:∀ (n:Nat) (p:Addr×Addr),io[n]?=some p->io'[n]?=some p) {fs:List (Nat×V)} {mA:Str->Option Value} (e:FEs W h io fs mA):FEs W h io' fs mA:=e.mono (fun y_ y_ e y_=>e) x
theorem OR.ext (x:∀ (n:Nat) (p:Addr×Addr),io[n]?=some p->io'[n]?=some p) {a d:Addr} {o:MObj} (k:OR W h io a d o):OR W h io' a d o:=by
 cases o with
 | list xs=>
  rcases k with ⟨e,vs,n,h1,h4,h5⟩
  exact ⟨e,vs,n,h1,h4.ext x,h5⟩
 | dict kvs ep=>
  rcases k with ⟨e,o,es,n,h1,h2,h3,h4,h5⟩
  exact ⟨e,o,es,n,h1,h2,h3,h4.ext x,h5⟩
 | inst c fs=>
  rcases k with ⟨e,mA,h1,h2,h3,h4⟩
  exact ⟨e,mA,h1,h2,h3.ext x,h4⟩
theorem dG4 {D:Addr} {ob:MObj} (st:Step own fr h₀ io₀ m₀ h io m) (H:HR W h io m) (hO:OR W h (io++[(D,D)]) D D ob) (nf:¬ dG io D) (hD0:h₀.get? D=none) (basD:W.base.get? D=none) :
  Step own fr h₀ io₀ m₀ h (io++[(D,D)]) (m++[ob]) /\ HR W h (io++[(D,D)]) (m++[ob]) /\ VR W h (io++[(D,D)]) (.ref m.length) (.ref D):=by
 have ex:∀ (n:Nat) (p:Addr×Addr),io[n]?=some p->(io++[(D,D)])[n]?=some p:=fun n p e=>by
  rw [List.getElem?_append_left (List.getElem?_eq_some_iff.mp e).1];exact e
 have last:(io++[(D,D)])[m.length]?=some (D,D):=by rw [<- H.len];simp
 refine ⟨⟨st.alive,st.solid,st.keep,st.slots,?_,fun n p kvs e hi hm=>?_⟩,⟨H.keep,by simp [H.len],fun n p o hi hm=>?_,fun b f=>?_,fun i j p q hij hi hj=>?_⟩,.ref last⟩
 ·rcases st.grow with ⟨new,e,hn⟩
  refine ⟨new++[(D,D)],by rw [e,List.append_assoc],fun p hp=>?_⟩
  rcases List.mem_append.mp hp with hp | hp
  ·exact hn p hp
  ·rw [List.mem_singleton.mp hp];exact ⟨hD0,hD0⟩
 ·rcases st.dicts n p kvs e hi hm with ⟨k',e',q1,q2,q3⟩
  exact ⟨k',e',by rw [List.getElem?_append_left (List.getElem?_eq_some_iff.mp q1).1];exact q1,q2,q3⟩
 ·rcases Nat.lt_or_ge n m.length with hlt | hge
  ·rw [List.getElem?_append_left hlt] at hm
   rw [List.getElem?_append_left (by rw [H.len];exact hlt)] at hi
   exact (H.obj n p o hi hm).ext ex
  ·have hn:n=m.length:=by
    have:=(List.getElem?_eq_some_iff.mp hm).1
    simp at this;lia
   subst hn
   rw [last] at hi
   cases hi
   rw [List.getElem?_append_right (Nat.le_refl _)] at hm
   simp at hm
   subst hm
   exact hO
 ·rcases d8 f with f | ⟨p,hp,e⟩
  ·exact H.fresh b f
  ·rw [List.mem_singleton.mp hp] at e
   rcases e with e | e <;> rw [e] <;> exact basD
 ·have nfp:∀ (k:Nat) (p:Addr×Addr),io[k]?=some p->p.1≠D /\ p.2≠D:=fun k p hk=>⟨fun e=>nf ⟨p,List.mem_of_getElem? hk,.inl e.symm⟩,fun e=>nf ⟨p,List.mem_of_getElem? hk,.inr e.symm⟩⟩
  have cut:∀ (k:Nat) (p:Addr×Addr),(io++[(D,D)])[k]?=some p->io[k]?=some p \/ (k=io.length /\ p=(D,D)):=fun k p hk=>by
   rcases Nat.lt_or_ge k io.length with hlt | hge
   ·rw [List.getElem?_append_left hlt] at hk;exact .inl hk
   ·have:=(List.getElem?_eq_some_iff.mp hk).1
    simp at this
    have hn:k=io.length:=by lia
    subst hn
    simp at hk
    exact .inr ⟨rfl,hk.symm⟩
  rcases cut i p hi with a | ⟨a,rfl⟩ <;> rcases cut j q hj with b | ⟨b,rfl⟩
  ·exact H.apart i j p q hij a b
  ·have:=nfp i p a;exact ⟨this.1,this.1,this.2⟩
  ·have:=nfp j q b;exact ⟨Ne.symm this.1,Ne.symm this.2,Ne.symm this.2⟩
  ·lia
theorem cW1 {D:Addr} {us:Array Value} {c:Nat} {L:List V} (st:Step own fr h₀ io₀ m₀ h io m) (H:HR W h io m) (hD:h.get? D=some (fH us c)) (hus:VRs W h io L us.toList) (hl:L.length <= lid) (nf:¬ dG io D) (hD0:h₀.get? D=none) (basD:W.base.get? D=none) :
  Step own fr h₀ io₀ m₀ h (io++[(D,D)]) (m++[.list L]) /\ HR W h (io++[(D,D)]) (m++[.list L]) /\ VR W h (io++[(D,D)]) (.ref m.length) (.ref D):=
 dG4 st H ⟨rfl,us,c,hD,hus.ext fun n p e=>by rw [List.getElem?_append_left (List.getElem?_eq_some_iff.mp e).1];exact e,hl⟩ nf hD0 basD
theorem bF6 {elt iter:Expr} {ifs:List Expr} {scope:Scope} {tg:Expr} {t:CT} {fp:Pos} {vis':List (Option Str)} {nl:Nat} {csrc:Lo->Mn (List V×Gd)} {cif:Lo->Mn Bool} {celt:Lo->Mn V} {use:Option (Value->Sem Unit)} {Q:Value->Shared->Prop} {E:Value->Shared->Prop}
  (ck:CompOk scope env vis vis' nl) (hs:∀ x,foldedSetIterable iter env x=Pure.pure x) (hg:CTg A vis vis' t tg) (hsrc:SiSrc W A fs env vis iter csrc)
  (hifs:∀ cl C,SiB W A fs (compEnvC scope cl C env) vis' (fL ifs (compEnvC scope cl C env) true) cif) (helt:∀ cl C,SiE W A fs (compEnvC scope cl C env) vis' (eval elt (compEnvC scope cl C env)) celt)
  (Z:Sit W fs env vis s io m r) (hne:(csrc r m).bind (fun p=>bnd (bH p.2 (eK t (r++List.replicate nl none) cif celt) p.1) fun l=>if l.length <= lid then alloc (.list l) else bad)≠.bad)
  (hX:∀ e s',NX e s'->E e s')
  (fin:∀ s' io' D C L us c mL p m₂,csrc r m=.ok p m₂->bH p.2 (eK t (r++List.replicate nl none) cif celt) p.1 m₂=.ok L mL->L.length <= lid->s.heap.get? D=none->s.heap.get? C=none->D≠C->Step [] (frs fs) s.heap io m s'.heap io' mL->HR W s'.heap io' mL->s'.heap.get? D=some (fH us c)->VRs W s'.heap io' L us.toList->¬ dG io' D->(∃ mC,s'.heap.Ns C mC) /\ ¬ dG io' C->Same s s'->compPost (model W.prog W.w) A E use Q (.ref D) C (.ok .next) s') :
  wpAny (model W.prog W.w) A (comprehension (.ListComp elt [⟨tg,iter,ifs,0⟩] scope pos) scope env fp (newList []) false (eval iter env) use) Q E s:=by
 obtain ⟨cl,g1,g2,g3⟩:=bJ9 (scope:=scope) (env:=env) fun y k hy hk=>by
  rcases ck.cap (y,k) hy hk with ⟨i,q1,q2⟩
  exact Z.F.celex i y q1 q2
 refine wpAny_comprehension_free (g:=⟨tg,iter,ifs,0⟩) (gs:=[]) rfl hs g1 ck.kind ck.names ?_
 refine wpAny_mono (hsrc s io m r Z (Res.bind_ne hne)) (fun xv s₁ q=>wpAny_mono q (fun it s₂ q=>?_) hX) hX
 rcases q with ⟨⟨vs,g⟩,m₂,io₂,e2,st₂,H₂,⟨I,wr,St,rfl,hw,h0,hnew⟩,sm₂⟩
 rw [e2] at hne
 have hne':(bH g (eK t (r++List.replicate nl none) cif celt) vs m₂).bind (fun l=>if l.length <= lid then alloc (.list l) else bad)≠.bad:=hne
 rcases cF8 (Res.bind_ne hne') with ⟨L,mL,eL⟩
 have hlen:L.length <= lid:=by
  rcases Nat.lt_or_ge lid L.length with q | q
  ·refine absurd ?_ hne'
   rw [eL]
   show (if L.length <= lid then alloc (.list L) else bad) mL=_
   rw [if_neg (by lia)];rfl
  ·exact q
 have Z2:=Z.step H₂ st₂
 refine wpAny_newList ?_ (by decide)
 have k3:∀ b o,s₂.heap.get? b=some o->(s₂.heap.push (fH #[] 0)).get? b=some o:=aL _
 refine wpAny_newFunctionEnv ck.cell (fun y hy=>nomatch hy) (fun h₄ hn₄ hs₄=>?_) ck.kind
 have k4:∀ b o,(s₂.heap.push (fH #[] 0)).get? b=some o->h₄.get? b=some o:=fun b o e=>by
  have hb:b≠(s₂.heap.push (fH #[] 0)).objs.size:=fun q=>by rw [q,aQ] at e;cases e
  exact (hs₄.2 b hb).trans (aL _ _ _ e)
 have sz:(s₂.heap.push (fH #[] 0)).objs.size=s₂.heap.objs.size+1:=Heap.size_push ..
 have kk:∀ b o,s₂.heap.get? b=some o->h₄.get? b=some o:=fun b o e=>k4 b o (k3 b o e)
 have cD:s₂.heap.get? s₂.heap.objs.size=none:=aQ _
 have cC3:(s₂.heap.push (fH #[] 0)).get? (s₂.heap.push (fH #[] 0)).objs.size=none:=aQ _
 have cC:s₂.heap.get? (s₂.heap.push (fH #[] 0)).objs.size=none:=by
  cases q:s₂.heap.get? (s₂.heap.push (fH #[] 0)).objs.size with
  | none=>rfl
  | some o=>rw [k3 _ _ q] at cC3;cases cC3
 have hD0:s.heap.get? s₂.heap.objs.size=none:=cQ st₂ cD
 have hC0:s.heap.get? (s₂.heap.push (fH #[] 0)).objs.size=none:=cQ st₂ cC
 have hDC:s₂.heap.objs.size≠(s₂.heap.push (fH #[] 0)).objs.size:=by rw [sz];exact Nat.ne_of_lt (Nat.lt_succ_self _)
 have st4:Step [] (frs fs) s₂.heap io₂ m₂ h₄ io₂ m₂:=.of_keeps H₂ kk
 have H4:HR W h₄ io₂ m₂:=H₂.of_keeps kk
 have hn':h₄.Ns (s₂.heap.push (fH #[] 0)).objs.size (fun y_=>none):=hn₄
 have F4:FR W h₄ io₂ (compEnvC scope cl (s₂.heap.push (fH #[] 0)).objs.size env) vis' (r++List.replicate nl none):=bJ7 ck H₂ Z2.F g2 g3 kk cC hn'
 have lk:∀ (j:Nat) (x:Str),vis'[j]?=some (some x)->vis.length <= j->(compEnvC scope cl (s₂.heap.push (fH #[] 0)).objs.size env).kindOf x=some .local:=fun j x hv hj=>by
  refine lookup_relabel_local ?_
  rcases ck.see j x hv with ⟨_,q⟩ | ⟨q,_⟩
  ·exact q
  ·exact absurd (List.getElem?_eq_some_iff.mp q).1 (Nat.not_lt.mpr hj)
 have hrow:∀ (a:Nat) (w:V),(r++List.replicate nl (none:Option V))[a]?=some (some w)->a < vis.length:=fun a w e=>by
  rcases Nat.lt_or_ge a r.length with q | q
  ·rw [<- Z.F.len];exact q
  ·rw [List.getElem?_append_right q] at e
   have:=List.mem_of_getElem? e
   simp at this
 show codeAny (model W.prog W.w) A (.compStart _ 0 (.ref I) (.ref s₂.heap.objs.size) (compEnvC scope cl (s₂.heap.push (fH #[] 0)).objs.size env)) _ _
 refine bV2 (s:={ s₂ with heap:=h₄,toks:=s₂.toks+0 }) (s₀:=s) (c0:=0) Z.H Z.G hw hnew hD0 hC0 hDC ?_ ?_ hg lk hrow (fun y c hy=>?_) (hifs _ _) (helt _ _) (st₂.trans st4) H4 F4 (hw.stay h0 H₂ H4 st4 (fun b hb=>⟨(fun q=>nomatch q),?_⟩) (b7 eL) (b7 eL)) (k4 _ _ (Heap.get?_push_size _ rfl)) (fun f=>?_) (sm₂.trans ⟨rfl,rfl⟩) eL hlen
  fun s' io' us c a1 a2 a3 a4 a5 a6 a7=>fin s' io' _ _ L us c mL _ m₂ e2 eL hlen hD0 hC0 hDC a1 a2 a3 a4 a5 a6 a7
 ·intro q;rcases hw.alive h0 _ q with ⟨y_,hz⟩;rw [cD] at hz;cases hz
 ·intro q;rcases hw.alive h0 _ q with ⟨y_,hz⟩;rw [show (compEnvC scope cl (s₂.heap.push (fH #[] 0)).objs.size env).locals=(s₂.heap.push (fH #[] 0)).objs.size from rfl,cC] at hz;cases hz
 ·rcases Z.F.cells y c (g2 y c hy) with ⟨⟨y_,o,ho,y_⟩,y_⟩
  exact ⟨o,ho⟩
 ·intro q
  rcases List.mem_filterMap.mp q with ⟨e,he,hf⟩
  rcases Z.G e he with ⟨y_,L',o,y_,y_,h1,y_,y_,h4,y_⟩
  rw [h1] at hf;cases hf;rw [hnew _ hb] at h4;cases h4
 ·rcases H₂.foot f with ⟨o,ho,y_⟩
  rw [cD] at ho;cases ho
theorem bP1 {C:Addr} {mC:Str->Option Value} (hC0:h₀.get? C=none) (hn:h.Ns C mC) (nf:¬ dG io C) (hs:Heap.SameBut C h h'):Side W [C] h₀ h io h':=
 ⟨fun b o hb e=>(hs.2 b (by simpa using hb)).trans e,fun b hb=>by rw [List.mem_singleton.mp hb];exact hC0,fun b hb=>by rw [List.mem_singleton.mp hb];exact nf,fun b hb o ho=>by
  rw [List.mem_singleton.mp hb] at ho
  rcases hn with ⟨o',es,ep,ho',hd,y_⟩
  rw [ho'] at ho;cases ho;exact dP hd⟩
theorem dE8 {elt iter:Expr} {ifs:List Expr} {scope:Scope} {tg:Expr} {t:CT} {vis':List (Option Str)} {nl:Nat} {csrc:Lo->Mn (List V×Gd)} {cif:Lo->Mn Bool} {celt:Lo->Mn V}
  (ck:CompOk scope env vis vis' nl) (hs:∀ x,foldedSetIterable iter env x=Pure.pure x) (hg:CTg A vis vis' t tg) (hsrc:SiSrc W A fs env vis iter csrc)
  (hifs:∀ cl C,SiB W A fs (compEnvC scope cl C env) vis' (fL ifs (compEnvC scope cl C env) true) cif) (helt:∀ cl C,SiE W A fs (compEnvC scope cl C env) vis' (eval elt (compEnvC scope cl C env)) celt) :
  SiE W A fs env vis (eval (.ListComp elt [⟨tg,iter,ifs,0⟩] scope pos) env) (fun r=>bnd (csrc r) fun p=>bnd (bH p.2 (eK t (r++List.replicate nl none) cif celt) p.1) fun l=>if l.length <= lid then alloc (.list l) else bad):=by
 intro s io m r Z hne
 dsimp only at hne ⊢
 refine bF6 (Q:=NP W [] (frs fs) s io m (VP W) _) (use:=none) ck hs hg hsrc hifs helt Z hne (fun y_ y_ q=>q) ?_
 intro s' io' D C L us c mL p m₂ e1 e2 hl hD0 hC0 hDC st H hD hus nf hC sm
 rcases hC with ⟨⟨mC,hn⟩,nfC⟩
 refine ⟨mC,hn,fun h' hs'=>?_⟩
 have sd:Side W [C] s.heap s'.heap io' h':=bP1 hC0 hn nfC hs'
 have st':=sd.step H st
 have H':=sd.hr H Z.H.keep
 have basD:W.base.get? D=none:=by
  cases q:W.base.get? D with
  | none=>rfl
  | some o=>rw [Z.H.keep _ _ q] at hD0;cases hD0
 rcases cW1 st' H' (sd.keep _ _ (by simpa using hDC) hD) (hus.sol sd.sol) hl nf hD0 basD with ⟨a1,a2,a3⟩
 refine ⟨.ref mL.length,mL++[.list L],_,?_,a1,a2,a3,sm.trans ⟨rfl,rfl⟩⟩
 show (csrc r m).bind _=_
 rw [e1]
 show (bH p.2 _ p.1 m₂).bind _=_
 rw [e2]
 show (if L.length <= lid then alloc (.list L) else bad) mL=_
 rw [if_pos hl];rfl
noncomputable def aC7 (csrc:Lo->Mn (List V×Gd)) (cif:Lo->Mn Bool) (celt:Lo->Mn V) (t:CT) (nl i:Nat) (r:Lo) (m:MH):Res (Fl×Lo):=
 bnd (bnd (csrc r) fun p=>bnd (bH p.2 (eK t (r++List.replicate nl none) cif celt) p.1) fun l=>if l.length <= lid then alloc (.list l) else bad) (fun v=>bnd (fun m=>.ok (r.set i (some v)) m) fun r'=>ret (Fl.next,r')) m
theorem bH2 {elt iter:Expr} {ifs:List Expr} {scope:Scope} {tg:Expr} {t:CT} {py cpos:Pos} {vis':List (Option Str)} {nl i:Nat} {y:Str} {csrc:Lo->Mn (List V×Gd)} {cif:Lo->Mn Bool} {celt:Lo->Mn V}
  (ck:CompOk scope env vis vis' nl) (hs:∀ x,foldedSetIterable iter env x=Pure.pure x) (hg:CTg A vis vis' t tg) (hsrc:SiSrc W A (env::fs) env vis iter csrc)
  (hifs:∀ cl C,SiB W A (env::fs) (compEnvC scope cl C env) vis' (fL ifs (compEnvC scope cl C env) true) cif) (helt:∀ cl C,SiE W A (env::fs) (compEnvC scope cl C env) vis' (eval elt (compEnvC scope cl C env)) celt)
  (hsw:swapsWithSole [.Name y py] (.ListComp elt [⟨tg,iter,ifs,0⟩] scope cpos) pos.line env=Pure.pure true) (hyv:vis[i]?=some (some y)) (hyk:env.kindOf y=some .local) :
  SiS W A fs env vis (exec (.Assign [.Name y py] (.ListComp elt [⟨tg,iter,ifs,0⟩] scope cpos) pos) env) (fun r=>bnd (bnd (csrc r) fun p=>bnd (bH p.2 (eK t (r++List.replicate nl none) cif celt) p.1) fun l=>if l.length <= lid then alloc (.list l) else bad) fun v=>bnd (fun m=>.ok (r.set i (some v)) m) fun r'=>ret (.next,r')):=by
 intro s io m r Z
 show Si W (cI env) A (env::fs) (SP W env vis) _ s io m (aC7 csrc cif celt t nl i r m)
 intro hne
 rw [exec_Assign_arm]
 refine wpAny_bind (wpAny_standAt ?_)
 rw [hsw]
 refine wpAny_bind (wpAny_pure ?_)
 simp only [if_true]
 have hne0:(csrc r m).bind (fun p=>bnd (bH p.2 (eK t (r++List.replicate nl none) cif celt) p.1) fun l=>if l.length <= lid then alloc (.list l) else bad)≠.bad:=Res.bind_ne hne
 refine wpAny_bind ?_
 suffices main:wpAny (model W.prog W.w) A (comprehension (.ListComp elt [⟨tg,iter,ifs,0⟩] scope cpos) scope env (firstIterPos [⟨tg,iter,ifs,0⟩] cpos) (newList []) false (eval iter env) (some fun v=>assignAll v ((assignEach [.Name y py] env).map (·.2)))) (fun y_ s'=>NP W (cI env) (frs (env::fs)) s io m (SP W env vis) (aC7 csrc cif celt t nl i r m) Flow.next s') NX s from
  wpAny_bind (wpAny_mono main (fun y_ s' q=>wpAny_pure (wpAny_pure q)) fun y_ y_ q=>q)
 have lift:∀ e s',NX e s'->NX e s':=fun y_ y_ q=>q
 have go:=bF6 (W:=W) (A:=A) (fs:=env::fs) (env:=env) (vis:=vis) (s:=s) (io:=io) (m:=m) (r:=r) (pos:=cpos) (fp:=firstIterPos [⟨tg,iter,ifs,0⟩] cpos) (elt:=elt) (iter:=iter) (ifs:=ifs) (scope:=scope) (tg:=tg) (t:=t) (vis':=vis') (nl:=nl) (csrc:=csrc) (cif:=cif) (celt:=celt)
  (use:=some fun v=>assignAll v ((assignEach [.Name y py] env).map (·.2))) (Q:=fun y_ s'=>NP W (cI env) (frs (env::fs)) s io m (SP W env vis) (aC7 csrc cif celt t nl i r m) Flow.next s') (E:=NX) ck hs hg hsrc hifs helt Z.sit hne0 lift
 refine go ?_
 clear go
 intro s' io' D C L us c mL p m₂ e1 e2 hl hD0 hC0 hDC st H hD hus nf hC sm
 rcases hC with ⟨⟨mC,hn⟩,nfC⟩
 have eT:aC7 csrc cif celt t nl i r m=.ok (.next,r.set i (some (.ref mL.length))) (mL++[.list L]):=by
  simp only [aC7,bnd,e1,Res.bind,e2,if_pos hl,alloc,ret]
 have basD:W.base.get? D=none:=by
  cases q:W.base.get? D with
  | none=>rfl
  | some o=>rw [Z.H.keep _ _ q] at hD0;cases hD0
 rcases cW1 st H hD hus hl nf hD0 basD with ⟨a1,a2,a3⟩
 have nfC':¬ dG (io'++[(D,D)]) C:=fun f=>by
  rcases d8 f with f | ⟨q,hq,e⟩
  ·exact nfC f
  ·rw [List.mem_singleton.mp hq] at e
   rcases e with e | e <;> exact hDC e.symm
 have Z':Stt W fs env vis s' (io'++[(D,D)]) (mL++[.list L]) r:=⟨a2,Z.F.step0 Z.H a1,Z.G.step0 a1,Z.fr,Z.dis⟩
 have hLo:∃ o,s.heap.get? env.locals=some o:=by rcases Z.F.loc with ⟨y_,⟨o,y_,y_,ho,y_⟩,y_⟩;exact ⟨o,ho⟩
 have hCl:C∉cI env:=fun q=>by
  rcases List.mem_cons.mp q with e | q
  ·rcases hLo with ⟨o,ho⟩;rw [<- e,hC0] at ho;cases ho
  ·rcases List.mem_filterMap.mp q with ⟨⟨z,c'⟩,hm,hq⟩
   rcases Z.F.cells z C hq with ⟨⟨y_,o,ho,y_⟩,y_⟩
   rw [hC0] at ho;cases ho
 have nfr:C∉frs (env::fs):=fun q=>by
  rcases List.mem_filterMap.mp q with ⟨e,he,hf⟩
  rcases Z.sit.G e he with ⟨y_,L',o,y_,y_,h1,y_,y_,h4,y_⟩
  rw [h1] at hf;cases hf;rw [hC0] at h4;cases h4
 have as:=aX0 (W:=W) (fs:=fs) (A:=A) (pos:=py) hyv (.inl hyk) s' _ _ r _ _ Z' a3 (fun q=>nomatch q)
 have key:wpAny (model W.prog W.w) A (assign (.Name y py) env (.ref D)) (fun y_ s''=>∃ mC,s''.heap.Ns C mC /\ ∀ h',Heap.SameBut C s''.heap h'->NP W (cI env) (frs (env::fs)) s io m (SP W env vis) (aC7 csrc cif celt t nl i r m) Flow.next { s'' with heap:=h' }) NX s':=by
  refine wpAny_mono as (fun y_ s'' q=>?_) fun e s'' q=>?_
  rotate_left
  ·exact q.elim
  rcases q with ⟨r₂,m₃,io₃,e3,st3,H3,F3,sm3⟩
  cases e3
  rcases hn with ⟨oC,esC,epC,hoC,hdC,hrC⟩
  have hoC':=st3.keep _ _ hoC nfC' hCl nfr
  have hn3:s''.heap.Ns C mC:=⟨oC,esC,epC,hoC',hdC,hrC⟩
  refine ⟨mC,hn3,fun h' hs'=>?_⟩
  have nfC3:=st3.nofoot hoC nfC'
  have sd:Side W [C] s.heap s''.heap io₃ h':=bP1 hC0 hn3 nfC3 hs'
  have stT:=(a1.wk (own':=cI env) fun y_ q=>nomatch q).trans st3
  have F':FR W h' io₃ env vis (r.set i (some (.ref mL.length))):=F3.side sd hLo fun z c hz=>by rcases Z.F.cells z c hz with ⟨⟨y_,o,ho,y_⟩,y_⟩;exact ⟨o,ho⟩
  exact ⟨(.next,r.set i (some (.ref mL.length))),_,io₃,eT,sd.step H3 stT,sd.hr H3 Z.H.keep,⟨.next,F'⟩,(sm.trans sm3).trans ⟨rfl,rfl⟩⟩
 exact key
end
end Mini
namespace Mini
open PySem PySem.W
noncomputable def dR:Ty->String
 | .int=>"int"
 | .bool=>"bool"
 | .str=>"str"
 | .list=>"list"
 | .tuple=>"tuple"
 | .dict=>"dict"
 | .cls _=>""
section
variable {W:Wd} {K:Frag} {h h' h₀:Heap} {fs:List Env} {env:Env} {vis:List (Option Str)} {s s' s₀:Shared} {io io' io₀:Io} {m m' m₀:MH} {r r':Lo} {fr fr' own own':List Addr} {A:Around} {n:Nat} {pos p:Pos}
structure IsiT (W:Wd) (A:Around) (E:Value->Shared->Prop) (t:Ty):Prop where
 fn:∀ {s:Shared} {Q:Value->Shared->Prop},(∀ tk,Q (.bool false) { s with toks:=tk })->wpAny (model W.prog W.w) A (call (.builtin "isinstance") [.none,.type (dR t)]) Q E s
 fb:∀ {s:Shared} {Q:Value->Shared->Prop} (c:Bool),(∀ tk,Q (.bool (t == .int||t == .bool)) { s with toks:=tk })->wpAny (model W.prog W.w) A (call (.builtin "isinstance") [.bool c,.type (dR t)]) Q E s
 fi:∀ {s:Shared} {Q:Value->Shared->Prop} (k:Int) (u:Tok),(∀ tk,Q (.bool (t == .int)) { s with toks:=tk })->wpAny (model W.prog W.w) A (call (.builtin "isinstance") [.int k u,.type (dR t)]) Q E s
 fs:∀ {s:Shared} {Q:Value->Shared->Prop} (x:Str) (u:Tok),(∀ tk,Q (.bool (t == .str)) { s with toks:=tk })->wpAny (model W.prog W.w) A (call (.builtin "isinstance") [.str x u,.type (dR t)]) Q E s
 ft:∀ {s:Shared} {Q:Value->Shared->Prop} (a:Addr) (o:Obj),s.heap.get? a=some o->o.cls=.type "tuple"->(∀ tk,Q (.bool (t == .tuple)) { s with toks:=tk })->wpAny (model W.prog W.w) A (call (.builtin "isinstance") [.ref a,.type (dR t)]) Q E s
 fl:∀ {s:Shared} {Q:Value->Shared->Prop} (a:Addr) (o:Obj),s.heap.get? a=some o->o.cls=.type "list"->(∀ tk,Q (.bool (t == .list)) { s with toks:=tk })->wpAny (model W.prog W.w) A (call (.builtin "isinstance") [.ref a,.type (dR t)]) Q E s
 fd:∀ {s:Shared} {Q:Value->Shared->Prop} (a:Addr) (o:Obj),s.heap.get? a=some o->o.cls=.type "dict"->(∀ tk,Q (.bool (t == .dict)) { s with toks:=tk })->wpAny (model W.prog W.w) A (call (.builtin "isinstance") [.ref a,.type (dR t)]) Q E s
theorem isiT (E:Value->Shared->Prop) {t:Ty} (ht:∀ c,t≠.cls c):IsiT W A E t:=by
 cases t with
 | int=>exact ⟨fun {s} {Q} h=>IsiPair.NoneType_int (h _),fun {s} {Q} y_ h=>IsiPair.bool_int (h s.toks),fun {s} {Q} y_ y_ h=>IsiPair.int_int (h s.toks),fun {s} {Q} y_ y_ h=>IsiPair.str_int (h _),fun {s} {Q} y_ y_ e c h=>IsiPair.tuple_int e c (h _),fun {s} {Q} y_ y_ e c h=>IsiPair.list_int e c (h _),fun {s} {Q} y_ y_ e c h=>IsiPair.dict_int e c (h _)⟩
 | bool=>exact ⟨fun {s} {Q} h=>IsiPair.NoneType_bool (h _),fun {s} {Q} y_ h=>IsiPair.bool_bool (h s.toks),fun {s} {Q} y_ y_ h=>IsiPair.int_bool (h _),fun {s} {Q} y_ y_ h=>IsiPair.str_bool (h _),fun {s} {Q} y_ y_ e c h=>IsiPair.tuple_bool e c (h _),fun {s} {Q} y_ y_ e c h=>IsiPair.list_bool e c (h _),fun {s} {Q} y_ y_ e c h=>IsiPair.dict_bool e c (h _)⟩
 | str=>exact ⟨fun {s} {Q} h=>IsiPair.NoneType_str (h _),fun {s} {Q} y_ h=>IsiPair.bool_str (h _),fun {s} {Q} y_ y_ h=>IsiPair.int_str (h _),fun {s} {Q} y_ y_ h=>IsiPair.str_str (h s.toks),fun {s} {Q} y_ y_ e c h=>IsiPair.tuple_str e c (h _),fun {s} {Q} y_ y_ e c h=>IsiPair.list_str e c (h _),fun {s} {Q} y_ y_ e c h=>IsiPair.dict_str e c (h _)⟩
 | list=>exact ⟨fun {s} {Q} h=>IsiPair.NoneType_list (h _),fun {s} {Q} y_ h=>IsiPair.bool_list (h _),fun {s} {Q} y_ y_ h=>IsiPair.int_list (h _),fun {s} {Q} y_ y_ h=>IsiPair.str_list (h _),fun {s} {Q} y_ y_ e c h=>IsiPair.tuple_list e c (h _),fun {s} {Q} y_ y_ e c h=>IsiPair.list_list e c (h s.toks),fun {s} {Q} y_ y_ e c h=>IsiPair.dict_list e c (h _)⟩
 | tuple=>exact ⟨fun {s} {Q} h=>IsiPair.NoneType_tuple (h _),fun {s} {Q} y_ h=>IsiPair.bool_tuple (h _),fun {s} {Q} y_ y_ h=>IsiPair.int_tuple (h _),fun {s} {Q} y_ y_ h=>IsiPair.str_tuple (h _),fun {s} {Q} y_ y_ e c h=>IsiPair.tuple_tuple e c (h s.toks),fun {s} {Q} y_ y_ e c h=>IsiPair.list_tuple e c (h _),fun {s} {Q} y_ y_ e c h=>IsiPair.dict_tuple e c (h _)⟩
 | dict=>exact ⟨fun {s} {Q} h=>IsiPair.NoneType_dict (h _),fun {s} {Q} y_ h=>IsiPair.bool_dict (h _),fun {s} {Q} y_ y_ h=>IsiPair.int_dict (h _),fun {s} {Q} y_ y_ h=>IsiPair.str_dict (h _),fun {s} {Q} y_ y_ e c h=>IsiPair.tuple_dict e c (h _),fun {s} {Q} y_ y_ e c h=>IsiPair.list_dict e c (h _),fun {s} {Q} y_ y_ e c h=>IsiPair.dict_dict e c (h s.toks)⟩
 | cls c=>exact absurd rfl (ht c)
structure IsiE (S:Sig) (m:MH) (t:Ty):Prop where
 en:aQ8 S .none t m=.ok false m
 eb:∀ b,aQ8 S (.bool b) t m=.ok (t == .int||t == .bool) m
 ei:∀ i,aQ8 S (.int i) t m=.ok (t == .int) m
 es:∀ x,aQ8 S (.str x) t m=.ok (t == .str) m
 et:∀ x,aQ8 S (.tup x) t m=.ok (t == .tuple) m
 er:∀ n,aQ8 S (.ref n) t m=(match m[n]? with | some (.list _)=>.ok (t == .list) m | some (.dict _ _)=>.ok (t == .dict) m | _=>.bad)
 ec:∀ k,aQ8 S (.scr k) t m=.bad
theorem dC4 {S:Sig} {t:Ty} (ht:∀ c,t≠.cls c):IsiE S m t:=by
 cases t with
 | cls c=>exact absurd rfl (ht c)
 | _=>exact ⟨rfl,fun y_=>rfl,fun y_=>rfl,fun y_=>rfl,fun y_=>rfl,fun y_=>rfl,fun y_=>rfl⟩
theorem cR6 {S:Sig} (H:HR W s.heap io m) {t:Ty} (ht:∀ c,t≠.cls c) {v:V} {u:Value} (k:VR W s.heap io v u):Si W own A fs BV (call (.builtin "isinstance") [u,.type (dR t)]) s io m (aQ8 S v t m):=by
 have X:=fun E=>isiT (W:=W) (A:=A) E ht
 have e:=dC4 (S:=S) (m:=m) ht
 induction k using VR.elim with
 | none=>rw [e.en];exact fun y_=>(X _).fn fun tk=>fP H
 | bool b=>rw [e.eb];exact fun y_=>(X _).fb b fun tk=>fP H
 | int i t=>rw [e.ei];exact fun y_=>(X _).fi i t fun tk=>fP H
 | str x t hx=>rw [e.es];exact fun y_=>(X _).fs x t fun tk=>fP H
 | tup ha hx=>rw [e.et];exact fun y_=>(X _).ft _ _ ha rfl fun tk=>fP H
 | @ref n a d hi=>
  rw [e.er]
  cases hm:m[n]? with
  | none=>exact .bad
  | some o=>
   have ho:=H.obj _ _ _ hi hm
   cases o with
   | list xs=>
    rcases ho with ⟨y_,us,c,h1,y_⟩
    exact fun y_=>(X _).fl _ _ h1 rfl fun tk=>fP H
   | dict kvs e=>
    rcases ho with ⟨y_,o,es,c,h1,h2,y_⟩
    exact fun y_=>(X _).fd _ _ h1 h2.1 fun tk=>fP H
   | inst c fs=>exact .bad
 | scr=>rw [e.ec];exact .bad
end
end Mini
namespace Mini
open PySem PyProof.Rows
section
variable {prog:Program} {w:World} {A:Around} {E:Value->Shared->Prop} {s:Shared} {a₀:Array Keyed}
theorem cZ7 {st:SortSt} {Q:Option Nat->SortSt->Prop} (h0:IntKeys a₀) (h1:1 <= a₀.size) (hB:SBase a₀ st) (hs:SortedTo (arrOf st) a₀.size) (h:Q (some a₀.size) st):wpS (model prog w) A E s (countRun' 0 a₀.size) Q st:=by
 rw [countRun0_eq]
 refine wpS_bind (wpS_ascLoop h0 (Nat.le_refl _) (Nat.le_refl 1) h1 hB (fun i j hij hj=>hs i j hij (Nat.lt_of_lt_of_le hj h1)) fun n hn1 hn2 hsn hor=>?_)
 have e:n=a₀.size:=by
  rcases hor with e | e
  ·exact e
  ·rcases Nat.lt_or_ge n a₀.size with q | q
   ·exact absurd e (Int.not_lt.mpr (hs (n - 1) n (Nat.sub_le _ _) q))
   ·exact Nat.le_antisymm hn2 q
 dsimp only
 rw [if_pos (by simpa using e),e]
 exact wpS_pure h
theorem aT1:∀ (f n r:Nat),r <= 1->minRun' f n r <= n+r
 | 0,_,_,_=>Nat.le_refl _
 | f+1,n,r,h=>by
  rw [minRun'_succ]
  by_cases q:n < 64
  ·rw [if_pos q];exact Nat.le_refl _
  ·rw [if_neg q]
   have mx:max r (n % 2) <= 1:=Nat.max_le.mpr ⟨h,Nat.le_of_lt_succ (Nat.mod_lt n (by decide))⟩
   have h2:n / 2+1 <= n:=Nat.div_lt_self (Nat.lt_of_lt_of_le (by decide) (Nat.not_lt.mp q)) (by decide)
   exact Nat.le_trans (aT1 f (n / 2) _ mx) (Nat.le_trans (Nat.add_le_add_left mx _) (Nat.le_trans h2 (Nat.le_add_right _ _)))
theorem cG9 {c:Prop} [Decidable c] {α:Type} {x y:StateT SortSt Sem α} {Q:α->SortSt->Prop} {st:SortSt} (h:¬ c) (k:wpS (model prog w) A E s y Q st):wpS (model prog w) A E s (if c then x else y) Q st:=by rw [if_neg h];exact k
theorem bK8 {c:Prop} [Decidable c] {α:Type} {x y:StateT SortSt Sem α} {Q:α->SortSt->Prop} {st:SortSt} (h:c) (k:wpS (model prog w) A E s x Q st):wpS (model prog w) A E s (if c then x else y) Q st:=by rw [if_pos h];exact k
theorem cO5 {st:SortSt} {Q:Unit->SortSt->Prop} (h0:IntKeys (arrOf st)) (hB:SBase (arrOf st) st) (h2:1 <= (arrOf st).size) (hs:SortedTo (arrOf st) (arrOf st).size)
  (h:∀ st',(arrOf st').Perm (arrOf st)->failedOf st'=none->SortedTo (arrOf st') (arrOf st).size->Q () st'):wpS (model prog w) A E s sortRuns' Q st:=by
 have hmr:minRun' (arrOf st).size (arrOf st).size 0 <= (arrOf st).size:=aT1 _ _ 0 (Nat.zero_le _)
 rw [sortRuns'_eq]
 refine wpS_bind (wpS_get (wpS_bind (wpS_mono (wpS_forRange
  (I:=fun x c st'=>(x=0 /\ c=(none,0) /\ st'=st) \/ (1 <= x /\ c=(none,(arrOf st).size) /\ SDone (arrOf st) st'))
  (Q:=fun c st'=>c=(none,(arrOf st).size) /\ SDone (arrOf st) st') ?step ?fin (.inl ⟨rfl,rfl,rfl⟩)) ?post)))
 case fin=>
  rintro c st' (⟨hx,y_,y_⟩ | ⟨y_,hc,hD⟩)
  ·lia
  ·exact ⟨hc,hD⟩
 case step=>
  rintro x c st' y_ hx (⟨rfl,rfl,rfl⟩ | ⟨hx1,rfl,hD⟩)
  ·refine cG9 (Nat.not_le.mpr h2) (wpS_bind ?_)
   refine cZ7 h0 h2 hB hs ?_
   refine cG9 (Nat.not_lt.mpr hmr) (wpS_bind (wpS_get ?_))
   have hb:(pendingOf st').back?=none:=by rw [hB.pend];rfl
   rw [hb]
   exact wpS_bind (wpS_modify (wpS_pure (.inr ⟨by lia,by rw [Nat.zero_add],hB.done hs⟩)))
  ·exact bK8 (Nat.le_refl _) (wpS_pure ⟨rfl,hD⟩)
 case post=>
  rintro c st' ⟨rfl,hD⟩
  refine wpS_bind (wpS_mono (wpS_forRange (I:=fun y_ c st''=>st''=st' /\ c=(none,())) (Q:=fun c st''=>st''=st' /\ c=(none,())) ?_ (fun y_ y_ hh=>hh) ⟨rfl,rfl⟩) ?_)
  ·rintro x c st'' y_ y_ ⟨rfl,rfl⟩
   exact wpS_bind (wpS_get (bK8 (by rw [hD.2.2.1];exact Nat.le_refl 1) (wpS_pure ⟨rfl,rfl⟩)))
  ·rintro c st'' ⟨rfl,rfl⟩
   exact wpS_pure (h _ hD.1 hD.2.1 hD.2.2.2)
theorem bO5 {vs:List Value} {ns:List Int} (hI:IntsAre vs ns) (hp:ns.Pairwise (· < ·)):SortedTo (pairsOf vs) (pairsOf vs).size:=by
 intro i j hij hj
 have hi:i < (pairsOf vs).size:=Nat.lt_of_le_of_lt hij hj
 rw [K_eq hi,K_eq hj]
 rw [pairsOf_size] at hi hj
 have e:∀ (k:Nat) (hk:k < vs.length) (hk':k < (pairsOf vs).size),(pairsOf vs)[k].1=vs[k]:=fun k hk hk'=>by simp [pairsOf]
 rw [e i hi,e j hj]
 have hn:=hI.nums
 have g:∀ (k:Nat) (hk:k < vs.length),∃ hk':k < ns.length,numOf vs[k]=ns[k]:=fun k hk=>by
  subst hn
  exact ⟨by rw [List.length_map];exact hk,by rw [List.getElem_map]⟩
 rcases g i hi with ⟨hi',e1⟩
 rcases g j hj with ⟨hj',e2⟩
 rw [e1,e2]
 rcases Nat.lt_or_ge i j with q | q
 ·exact Int.le_of_lt (List.pairwise_iff_getElem.mp hp i j hi' hj' q)
 ·have:=Nat.le_antisymm hij q
  subst this
  exact Int.le_refl _
theorem aT5 {a:Addr} {vs:List Value} {ns:List Int} {n:Nat} {P:Fin->Shared->Prop} (ho:s.heap.get? a=some (seqObj "list" vs.toArray n))
  (hI:IntsAre vs ns) (hc:vs.length < 64 \/ ns.Pairwise (· < ·)) (hl:vs.length <= sizeLine)
  (h:∀ (out:Array Value) (ns':List Int),IntsAre out.toList ns'->ns'.Perm ns->ns'.Pairwise (· <= ·)->P (.done (.ret .none)) { s with heap:=sortedHeap s.heap a vs out }) :
  wpAny (model prog w) A (Builtin.«list.sort» ⟨[.ref a],[]⟩) P E s:=by
 rcases hc with h64 | hp
 ·exact list_sort_tree ho hI h64 h
 by_cases h64:vs.length < 64
 ·exact list_sort_tree ho hI h64 h
 rw [list_sort_plain]
 have ha:a < s.heap.objs.size:=Heap.lt_size ho
 refine wpAny_bind (listItems_at ho rfl ?_)
 refine wpAny_bind (listUpdate_at ho rfl ?_ (hsz:=by simpa using hl))
 obtain ⟨e1,ho1⟩:∃ e1,(s.heap.update a (Obj.mapSeq fun y_=>#[])).get? a=some (seqObj "list" #[] e1):=⟨_,get?_update_seq ho (fun y_=>#[])⟩
 refine wpAny_bind (seqEpoch_at ho1 rfl ?_)
 refine wpAny_bind (wpAny_newTuple ?_ (by simpa using hl))
 refine wpAny_bind (wpAny_newList ?_)
 refine wpAny_holding ?_
 have ho6:(((s.heap.update a (Obj.mapSeq fun y_=>#[])).push (seqObj "tuple" vs.toArray 0)).push (seqObj "list" #[] 0)).get? a=some (seqObj "list" #[] e1):=by
  rw [Heap.get?_push_ne _ _ _ (by rw [size_push',Heap.size_update];exact Nat.ne_of_lt (Nat.lt_succ_of_lt ha)),Heap.get?_push_ne _ _ _ (by rw [Heap.size_update];exact Nat.ne_of_lt ha)]
  exact ho1
 show wpAny (model prog w) A _ P E { s with heap:=((s.heap.update a (Obj.mapSeq fun y_=>#[])).push (seqObj "tuple" vs.toArray 0)).push (seqObj "list" #[] 0) }
 dsimp only
 have hsz:vs.toArray.size=vs.length:=by simp
 have h2:¬ vs.toArray.size < 2:=by lia
 rw [if_neg h2,if_neg h2]
 obtain ⟨v₁,v₂,rest,rfl⟩:∃ v₁ v₂ rest,vs=v₁::v₂::rest:=by
  cases vs with
  | nil=>exact absurd (by decide) h64
  | cons v₁ vs=>
   cases vs with
   | nil=>exact absurd (show 1 < 64 by decide) h64
   | cons v₂ rest=>exact ⟨v₁,v₂,rest,rfl⟩
 rw [keyKind_ints hI]
 refine wpAny_bind (wpAny_pure ?_)
 refine wpAny_bind (wpAny_mono (cO5 (st:=SortSt.mk' oneType' ((v₁::v₂::rest).toArray.zip (v₁::v₂::rest).toArray) #[] 7 none)
  (Q:=fun y_ st'=>(arrOf st').Perm (pairsOf (v₁::v₂::rest)) /\ failedOf st'=none /\ SortedTo (arrOf st') (pairsOf (v₁::v₂::rest)).size)
  hI.intKeys ⟨Array.Perm.refl _,rfl,rfl,rfl⟩ (by rw [show arrOf _=pairsOf (v₁::v₂::rest) from rfl,pairsOf_size];simp) (bO5 hI hp) fun st' a1 a2 a3=>⟨a1,a2,a3⟩) ?_ fun y_ y_ e=>e)
 rintro ⟨⟨⟩,st'⟩ s' ⟨rfl,hp',hf,hs⟩
 dsimp only
 refine wpAny_bind (seqEpoch_at ho6 rfl ?_)
 refine wpAny_bind (listUpdate_at ho6 rfl ?_ (hsz2:=by refine Nat.le_trans (Nat.le_of_eq ((Array.size_map ..).trans (hp'.size_eq.trans (pairsOf_size _)))) ?_;exact Nat.le_succ_of_le hl))
 rw [hf]
 simp only [bne_self_eq_false,Bool.false_eq_true,if_false]
 rcases sorted_out hI hp' hs with ⟨ns',q1,q2,q3⟩
 exact wpAny_pure (h _ ns' q1 q2 q3)
end
end Mini
namespace Mini
open PySem PySem.W PySem.Calls PyProof.Rows
section
variable {prog:Program} {w:World} {A:Around} {d:Addr} {ep:Nat} {o:Obj} {es:Array DictEntry}
noncomputable def cR5 (es:Array DictEntry) (i:Nat) (v:Value):Prop:=∃ e,es[i]?=some e /\ v=e.key
theorem bS7 (hh:A.handled=none) {I:Addr} (hne:d≠I) (hdat:o.data=.dict es ep):Walks prog w A I [I,d] [I] es.size (cR5 es) (fun i h=>h.IsKeyIter I d i es.size ep /\ h.get? d=some o) where
 sub:=fun b hb=>by rw [List.mem_singleton.mp hb];exact .head _
 frame:=fun y_ y_ y_ st hk=>⟨st.1.at fun o e=>hk I (.head _) o e,hk d (.tail _ (.head _)) o st.2⟩
 item:=fun i s Q E hi st hQ=>by
  refine aT9 st.1 st.2 hdat hi fun h' hit' hs'=>?_
  exact hQ _ h' s.toks ⟨_,Array.getElem?_eq_getElem hi,rfl⟩ ⟨hit',hs'.extBut d o hne st.2⟩ fun b o hb e=>hs'.extBut b o (fun h=>hb (by rw [h];exact .head _)) e
 done:=fun s Q E st hQ=>bE2 hh st.1 st.2 hdat (Nat.le_refl _) fun h' he'=>hQ h' s.toks fun b o hb e=>he' b o (fun h=>hb (by rw [h];exact .head _)) e
 self:=fun y_ y_ y_ y_ st hQ=>wpAny_pyIter_keyiter st.1 hQ
theorem kraw (hd:(d == sysModules)=false) (hc:o.ExactDict) (hdat:o.data=.dict es ep):KdlSrc prog w "dict" d d es.size (cR5 es) (fun h=>h.get? d=some o) where
 type:=fun y_ hm=>⟨o,hm,hc.1⟩
 there:=fun y_ hm=>⟨Heap.lt_size hm,Heap.lt_size hm⟩
 keep:=fun y_ y_ hm hk=>hk d (.inl rfl) o hm
 notList:=by decide
 notTuple:=by decide
 hint:=fun y_ y_ y_ y_ hm hq=>kdl_hint_dict ⟨o,hm,hc.1⟩ hq
 iter:=fun y_ y_ hh hm=>⟨_,_,(fun y_ y_ hq=>aU0 hd hm hc hdat hq),bS7 hh (Nat.ne_of_lt (Heap.lt_size hm)) hdat,⟨⟨_,Heap.get?_push_size _ rfl,rfl,rfl⟩,Heap.get?_push_of_some _ hm⟩⟩
theorem bI9 {acc:Array Value} (h:ItemsOf (cR5 es) acc es.size):acc.toList=es.toList.map (·.key):=by
 refine List.ext_getElem? fun i=>?_
 rw [Array.getElem?_toList,List.getElem?_map,Array.getElem?_toList]
 rcases Nat.lt_or_ge i acc.size with q | q
 ·rcases h.2 i _ (Array.getElem?_eq_getElem q) with ⟨e,h1,h2⟩
  rw [Array.getElem?_eq_getElem q,h1,h2];rfl
 ·rw [Array.getElem?_eq_none q,Array.getElem?_eq_none (by rw [<- h.1];exact q)];rfl
end
end Mini
namespace Mini
open PySem PySem.W PyProof.Rows
noncomputable def dG0:Bi->Value
 | .len=>.builtin "len"
 | .abs=>.builtin "abs"
 | .int=>.type "int"
 | .str=>.type "str"
 | .list=>.type "list"
 | .tuple=>.type "tuple"
 | .dict=>.type "dict"
 | .sorted=>.builtin "sorted"
 | .max2=>.builtin "max"
 | .min2=>.builtin "min"
 | .max1=>.builtin "max"
 | .lenset=>.none
section
variable {W:Wd} {K:Frag} {h h' h₀:Heap} {fs:List Env} {env:Env} {vis:List (Option Str)} {s s' s₀:Shared} {io io' io₀:Io} {m m' m₀:MH} {r r':Lo} {fr fr' own own':List Addr} {A:Around} {n:Nat} {pos p:Pos}
theorem aS7 {D:Addr} {us:Array Value} {c tk:Nat} {L:List V} (H:HR W s.heap io m) (hk:∀ b o,s.heap.get? b=some o->h'.get? b=some o) (hD:h'.get? D=some (fH us c)) (hus:VRs W s.heap io L us.toList) (hl:L.length <= lid) (hD0:s.heap.get? D=none) :
  NP W own fr s io m (VP W) (alloc (.list L) m) (.ref D) { s with heap:=h',toks:=tk }:=by
 have st:Step own fr s.heap io m h' io m:=.of_keeps H hk
 have nf:¬ dG io D:=fun f=>by
  obtain ⟨o,ho,y_⟩:=H.foot f
  rw [hD0] at ho;cases ho
 have basD:W.base.get? D=none:=by
  cases q:W.base.get? D with
  | none=>rfl
  | some o=>rw [H.keep _ _ q] at hD0;cases hD0
 obtain ⟨a1,a2,a3⟩:=cW1 st (H.of_keeps hk) hD (hus.step st) hl nf hD0 basD
 exact ⟨_,_,_,rfl,a1,a2,a3,rfl,rfl⟩
theorem aA0 {k:Nat} (hk:k <= lid):(k:Int) < 2 ^ 63:=by have:lid=4194304:=rfl;lia
theorem cS2 {xs:List V} {is:List Int} {us:List Value} (h:aB3 xs=some is) (k:VRs W s.heap io xs us):IntsAre us is /\ is.length=xs.length:=by
 induction xs generalizing is us with
 | nil=>cases k;cases h;exact ⟨.nil,rfl⟩
 | cons x xs ih=>
  refine VRs.dCons k fun y_ y_ k1 k2=>?_
  ·
   induction k1 using VR.elim <;> first | (exact nomatch (show (none:Option (List Int))=some _ from h)) | skip
   cases q:aB3 xs with
   | none=>have h:(aB3 xs).map _=some is:=h;rw [q] at h;cases h
   | some js=>
    have h:(aB3 xs).map _=some is:=h
    rw [q] at h
    simp only [Option.map_some,Option.some.injEq] at h
    subst h
    rcases ih q k2 with ⟨a,b⟩
    exact ⟨.cons _ _ a,by simp [b]⟩
theorem bB6 {us:List Value} {is:List Int} (k:IntsAre us is):VRs W h io (is.map V.int) us:=by
 induction k with
 | nil=>exact .nil
 | cons n t y_ ih=>exact .cons (.int n t) ih
theorem aC4 (x:Int):∀ l:List Int,(Mini.insI x l).Perm (x::l)
 | []=>.refl _
 | y::r=>by
  unfold Mini.insI;split
  ·exact .refl _
  ·exact ((aC4 x r).cons y).trans (.swap _ _ _)
theorem dZ:∀ ns,(Mini.sortI ns).Perm ns
 | []=>.refl _
 | x::r=>(aC4 x _).trans ((dZ r).cons x)
theorem aH3 (x:Int):∀ l:List Int,l.Pairwise (· <= ·)->(Mini.insI x l).Pairwise (· <= ·)
 | [],_=>by simp [Mini.insI]
 | y::r,h=>by
  rcases List.pairwise_cons.mp h with ⟨h1,h2⟩
  unfold Mini.insI;split
  ·refine List.pairwise_cons.mpr ⟨fun z hz=>?_,h⟩
   rcases List.mem_cons.mp hz with rfl | hz
   ·assumption
   ·have:=h1 z hz;lia
  ·refine List.pairwise_cons.mpr ⟨fun z hz=>?_,aH3 x r h2⟩
   rcases List.mem_cons.mp ((aC4 x r).mem_iff.mp hz) with rfl | hz
   ·lia
   ·exact h1 z hz
theorem aD1:∀ ns,(Mini.sortI ns).Pairwise (· <= ·)
 | []=>.nil
 | x::r=>aH3 x _ (aD1 r)
theorem aV5 {ns ns':List Int} (hp:ns'.Perm ns) (hs:ns'.Pairwise (· <= ·)):ns'=Mini.sortI ns:=
 List.Perm.eq_of_pairwise (fun y_ y_ y_ y_ a b=>Int.le_antisymm a b) hs (aD1 ns) (hp.trans (dZ ns).symm)
theorem int_dict (H:HR W s.heap io m) {k:Nat} {p:Addr×Addr} {kvs:List (Ky×V)} {e:Nat} {is:List Int} (hi:io[k]?=some p) (hm:m[k]?=some (.dict kvs e)) (hk:fI kvs=some is) :
  ∃ (l:List (Int×Value)) (ep:Nat),s.heap.DictAt (intKind W.prog W.w) p.1 l ep /\ l.map (·.1)=is /\ is.length=kvs.length /\ kvs.length <= lid:=by
 refine hide fun G_ g_=>?_
 rcases H.obj _ _ _ hi hm with ⟨y_,o,es,c,h1,h2,h3,h4,h5,h6⟩
 have keys:∀ (kvs:List (Ky×V)) (is:List Int),fI kvs=some is->kvs.map (·.1)=is.map Ky.int:=by
  intro kvs
  induction kvs with
  | nil=>intro is h;cases h;rfl
  | cons q r ih=>
   intro is h
   rcases q with ⟨q1,q2⟩
   cases q1 <;> first | (exact nomatch (show (none:Option (List Int))=some is from h)) | skip
   cases w:fI r with
   | none=>have h:(fI r).map _=some is:=h;rw [w] at h;cases h
   | some js=>
    have h:(fI r).map _=some is:=h
    rw [w] at h
    simp only [Option.map_some,Option.some.injEq] at h
    subst h
    simp [ih js w]
 have ke:=keys kvs is hk
 have hall:∀ q∈kvs,∃ j,q.1=Ky.int j:=fun q hq=>by
  have:q.1∈kvs.map (·.1):=List.mem_map.mpr ⟨q,hq,rfl⟩
  rw [ke] at this
  obtain ⟨j,y_,e⟩:=List.mem_map.mp this
  exact ⟨j,e.symm⟩
 rcases h4.pairs intEmb hall with ⟨l,l1,l2,l3⟩
 refine g_ ?_
 clear g_ G_
 have l4:l.map (·.1)=is:=by
  rw [ke] at l2
  have:(l.map (·.1)).map Ky.int=is.map Ky.int:=by rw [List.map_map];exact l2
  exact (List.map_inj_right fun y_ y_ e=>dC0 e).mp this
 refine ⟨l,c,⟨o,es,h1,h2,h3,?_,l1,?_⟩,l4,?_,h6⟩
 ·intro e he
  exact h4.keysOf intEmb hall e (by simpa using he)
 ·rw [l4]
  rw [ke] at h5
  exact (List.pairwise_map.mp h5).imp fun h q=>h (by rw [q])
 ·have:=congrArg List.length ke
  simpa using this.symm
noncomputable def cW6:Bi->Bool
 | .len | .abs | .list | .sorted | .max2 | .min2=>true
 | _=>false
set_option tactic.hygienic true in
theorem cC9 {l:List (Int×Value)} {acc:Array Value} (h:ItemsOf (fun i v=>∃ k x,l[i]?=some (k,x) /\ (intKind W.prog W.w).is k v=true) acc l.length):IntsAre acc.toList (l.map (·.1)):=by
 have key:∀ (l:List (Int×Value)) (vs:List Value),vs.length=l.length->(∀ (j:Nat) (v:Value),vs[j]?=some v->∃ k x,l[j]?=some (k,x) /\ (intKind W.prog W.w).is k v=true)->IntsAre vs (l.map (·.1)):=by
  intro l
  induction l with
  | nil=>intro vs hl _;cases vs with
   | nil=>exact .nil
   | cons=>cases hl
  | cons q r ih=>
   intro vs hl hv
   cases vs with
   | nil=>cases hl
   | cons v vs=>
    obtain ⟨k,x,e1,e2⟩:=hv 0 v rfl
    simp at e1
    subst e1
    have:∃ t,v=.int k t:=by
     cases v <;> simp [intKind,Value.isInt] at e2
     rename_i j t
     exact ⟨t,by rw [e2]⟩
    rcases this with ⟨t,rfl⟩
    exact .cons k t (ih vs (by simpa using hl) fun j v e=>by simpa using hv (j+1) v (by simpa using e))
 exact key l acc.toList (by simpa using h.1) fun j v e=>h.2 j v (by rw [<- Array.getElem?_toList];exact e)
theorem cG3 {Pr:Bi->List V->Prop} (l1:∀ s,Pr .len [.str s]) (l2:∀ xs,Pr .len [.tup xs]) (l3:∀ ns,Pr .len [.scr ns]) (l4:∀ n,Pr .len [.ref n]) (a1:∀ i,Pr .abs [.int i]) (i1:∀ c,Pr .int [.bool c]) (i2:∀ s,Pr .int [.str s]) (s1:∀ i,Pr .str [.int i]) (t1:∀ xs,Pr .list [.tup xs]) (t2:∀ n,Pr .list [.ref n])
  (o1:∀ n,Pr .sorted [.ref n]) (u1:∀ n,Pr .tuple [.ref n]) (d1:∀ n,Pr .dict [.ref n]) (x1:∀ i j,Pr .max2 [.int i,.int j]) (x2:∀ i j,Pr .min2 [.int i,.int j]) (bad:∀ b vs,cW6 b=false \/ biV b vs=(fun y_=>.bad)->Pr b vs) (b:Bi) (vs:List V):Pr b vs:=by
 cases hb:cW6 b with
 | false=>exact bad b vs (.inl hb)
 | true=>
  cases vs with
  | nil=>exact bad b [] (.inr (by cases b <;> rfl))
  | cons v vs=>
   cases vs with
   | nil=>
    cases b <;> first | (cases hb;done) | skip
    all_goals cases v <;> first | (exact l1 _) | (exact l2 _) | (exact l3 _) | (exact l4 _) | (exact a1 _) | (exact i1 _) | (exact i2 _) | (exact s1 _) | (exact t1 _) | (exact t2 _) | (exact o1 _) | (exact u1 _) | (exact d1 _) | (exact bad _ _ (.inr rfl))
   | cons v' vs=>
    cases vs with
    | nil=>
     cases b <;> first | (exact bad _ _ (.inr rfl)) | skip
     all_goals cases v <;> first | (exact bad _ _ (.inr rfl)) | skip
     all_goals cases v' <;> first | (exact x1 _ _) | (exact x2 _ _) | (exact bad _ _ (.inr rfl))
    | cons v'' vs=>exact bad _ _ (.inr (by cases b <;> first | rfl | (cases v <;> first | rfl | (cases v' <;> rfl))))
set_option tactic.hygienic true in
theorem dF9 (ok:WOk W) (hh:A.handled=none) {b:Bi} (hb:cW6 b=true):SiF W A fs (dG0 b) (biV b):=by
 intro s io m vs us H G hu
 revert us
 revert hb
 refine cG3 (Pr:=fun b vs=>cW6 b=true->∀ us,VRs W s.heap io vs us->Si W [] A fs (VP W) (call (dG0 b) us) s io m (biV b vs m)) ?_ ?_ ?_ ?_ ?_ ?_ ?_ ?_ ?_ ?_ ?_ ?_ ?_ ?_ ?_ ?_ b vs
 ·intro x hb us hu
  refine VRs.d1 hu fun y_ k1=>?_;refine VR.dStr k1 fun t hx=>?_
  show Si W [] A fs (VP W) _ s io m (if x.length <= lid then .ok (.int x.length) m else .bad)
  split
  ·rename_i hl
   exact fun y_=>P.len_str (by have:=aA0 hl;lia) (bI H (.int _ _))
  ·exact .bad
 ·intro xs hb us hu
  refine VRs.d1 hu fun y_ k1=>?_;refine VR.dTup k1 fun a ws c ha hx=>?_
  show Si W [] A fs (VP W) _ s io m (if xs.length <= lid then .ok (.int xs.length) m else .bad)
  split
  ·rename_i hl
   have e:ws.size=xs.length:=hx.size
   have:=PyProof.Rows.len_tuple (prog:=W.prog) (w:=W.w) (A:=A) (E:=NX) (s:=s) (Q:=NP W [] (frs fs) s io m (VP W) (.ok (.int xs.length) m)) ⟨_,ha,rfl,c,rfl⟩ (by rw [e];exact aA0 hl) (by rw [e];exact bI H (.int _ _))
   exact fun y_=>this
  ·exact .bad
 ·intro ns hb us hu
  refine VRs.d1 hu fun y_ k1=>?_;refine VR.dScr k1 fun l o ws c hl hc hd hi hn=>?_
  have e:ws.size=ns.length:=by simpa using hi.length
  refine fun y_=>Calls.call_len_list ⟨o,H.keep _ _ hl,hc,c,hd⟩ (by rw [e];exact aA0 hn) ?_
  rw [e];exact bI H (.int _ _)
 ·intro k hb us hu
  refine VRs.d1 hu fun y_ k1=>?_;refine VR.dRef k1 fun a d hi=>?_
  show Si W [] A fs (VP W) _ s io m (match m[k]? with | some (.list xs)=>.ok (.int xs.length) m | _=>.bad)
  split
  ·rename_i xs hm
   obtain ⟨y_,ws,c,h1,h2,h3⟩:=H.obj _ _ _ hi hm
   have e:ws.size=xs.length:=h2.size
   refine fun y_=>Calls.call_len_list ⟨_,h1,rfl,c,rfl⟩ (by rw [e];exact aA0 h3) ?_
   rw [e];exact bI H (.int _ _)
  ·exact .bad
 ·intro i hb us hu
  refine VRs.d1 hu fun y_ k1=>?_;cases k1
  exact fun y_=>PyProof.Rows.call_abs_int fun u tk=>bI H (.int _ _)
 ·intro i hb;cases hb
 ·intro x hb us hu;exact .bad
 ·intro i hb;cases hb
 ·intro xs hb us hu;exact .bad
 ·intro k hb us hu
  refine VRs.d1 hu fun y_ k1=>?_;refine VR.dRef k1 fun a d hi=>?_
  show Si W [] A fs (VP W) _ s io m (match m[k]? with | some (.list xs)=>alloc (.list xs) m | some (.dict kvs _)=>alloc (.list (kvs.map fun p=>p.1.val)) m | _=>.bad)
  split
  ·rename_i xs hm
   obtain ⟨y_,ws,c,h1,h2,h3⟩:=H.obj _ _ _ hi hm
   refine fun y_=>call_list_seq a (.inl rfl) h1 rfl rfl (fun h' c' hk hD=>?_) (by rw [h2.size];exact aK h3)
   exact aS7 (tk:=s.toks) H hk hD h2 h3 (aQ _)
  ·rename_i kvs e hm
   obtain ⟨y_,o,es,ep,h1,h2,h3,h4,h5⟩:=H.obj _ _ _ hi hm
   have ky:=h4.keys
   have el:es.size=kvs.length:=by have:=ky.length;simpa using this
   refine fun y_=>kdl_call (kraw (H.notSys ok ⟨_,List.mem_of_getElem? hi,.inl rfl⟩) h2 h3) hh h1 (by rw [el];exact aK h5.2) fun h' tk acc c' hk' hD hacc=>?_
   exact aS7 (tk:=tk) H hk' hD (by rw [bI9 hacc];exact ky) (by rw [List.length_map];exact h5.2) (aQ _)
  ·exact .bad
 ·intro k hb us hu
  refine VRs.d1 hu fun y_ k1=>?_;refine VR.dRef k1 fun a d hi=>?_
  show Si W [] A fs (VP W) _ s io m (match m[k]? with | some (.list xs)=>(match aB3 xs with | some is=>if is.length < 64 then alloc (.list ((sortI is).map .int)) m else .bad | Option.none=>.bad) | some (.dict kvs _)=>(match fI kvs with | some is=>if is.length < 64 \/ is.Pairwise (· < ·) then alloc (.list ((sortI is).map .int)) m else .bad | Option.none=>.bad) | _=>.bad)
  split
  ·rename_i xs hm
   split
   ·rename_i is hk
    split
    ·rename_i h64
     obtain ⟨y_,ws,c,h1,h2,h3⟩:=H.obj _ _ _ hi hm
     rcases cS2 (s:=s) hk h2 with ⟨ia,il⟩
     refine fun y_=>sorted_ints (vs:=ws.toList) (ns:=is) ⟨_,h1,rfl,c,by simp⟩ ia (by rw [h2.length,<- il];exact h64) fun out ns' a1 a2 a3=>?_
     rw [aV5 a2 a3] at a1
     rcases sortedAll_at s.heap ws.toList out with ⟨ce,hat⟩
     refine aS7 (tk:=s.toks) H (fun b o e=>sortedAll_old e) hat (bB6 a1) (by simp [(dZ is).length_eq];have:lid=4194304:=rfl;lia) ?_
     cases q:s.heap.get? (s.heap.objs.size+1) with
     | none=>rfl
     | some o=>exact absurd (Heap.lt_size q) (Nat.not_lt.mpr (Nat.le_succ _))
    ·exact .bad
   ·exact .bad
  ·rename_i kvs e hm
   split
   ·rename_i is hk
    split
    ·rename_i h64
     obtain ⟨l,ep,q1,q2,q3,q4⟩:=int_dict H hi hm hk
     have e:l.length=kvs.length:=by rw [<- q3,<- q2];simp
     intro y_
     refine Calls.call_function_entry kind_sorted plain_sorted entry_sorted (args_sorted1 _) ?_
     unfold Builtin.«sorted»
     refine wpAny_bind (m:=checkCount "sorted" 1 1 _) (wpAny_pure ?_)
     refine wpAny_bind (kdu_collect (A:=A.in1) (kdl_dict (H.notSys ok ⟨_,List.mem_of_getElem? hi,.inl rfl⟩)) hh q1 (by rw [e];exact aK q4) fun h' tk acc hk' hacc=>?_)
     have ia:=cC9 hacc
     rw [q2] at ia
     have il:is.length=kvs.length:=q3
     have al:acc.toList.length=kvs.length:=by
      have:acc.size=l.length:=hacc.1
      simp only [Array.length_toList];lia
     have hl:acc.toList.length < 64 \/ is.Pairwise (· < ·):=h64.imp (fun q=>by lia) id
     have sl:acc.toList.length <= sizeLine:=by rw [al];exact aK q4
     refine wpAny_bind (wpAny_newList ?_ sl)
     have hoL:(h'.push (seqObj "list" acc.toList.toArray 0)).get? h'.objs.size=some (seqObj "list" acc.toList.toArray 0):=Heap.get?_push_size _ rfl
     refine wpAny_bind (wpAny_holding (wpAny_call_entry slot_list_sort ⟨_,hoL,rfl⟩ entry_list_sort (aT5 hoL ia hl sl fun out ns' a1 a2 a3=>⟨_,rfl,?_⟩) (args_list_sort _)))
     refine wpAny_pure ⟨_,rfl,?_⟩
     rw [aV5 a2 a3] at a1
     rcases sortedHeap_at (out:=out) hoL with ⟨ce,hat⟩
     have dead:s.heap.get? h'.objs.size=none:=by
      cases q:s.heap.get? h'.objs.size with
      | none=>rfl
      | some o=>have:=hk' _ _ q;rw [aQ] at this;cases this
     refine aS7 (tk:=tk) H (fun b o e=>?_) hat (bB6 a1) (by rw [List.length_map,(dZ is).length_eq,il];exact q4) dead
     have e1:=aL (seqObj "list" acc.toList.toArray 0) b o (hk' b o e)
     rw [sortedHeap_old (Nat.ne_of_lt (Heap.lt_size (hk' b o e))) (Heap.lt_size e1)]
     exact e1
    ·exact .bad
   ·exact .bad
  ·exact .bad
 ·intro i hb;cases hb
 ·intro i hb;cases hb
 ·intro i j hb us hu
  refine VRs.d2 hu fun y_ y_ k1 k2=>?_;cases k1;cases k2
  show Si W [] A fs (VP W) _ s io m (.ok (.int (if j > i then j else i)) m)
  refine fun y_=>max_two_ints hh fun h' tk hk=>?_
  have st:Step [] (frs fs) s.heap io m h' io m:=.of_keeps H hk
  split <;> exact ⟨_,m,io,rfl,st,H.of_keeps hk,.int _ _,rfl,rfl⟩
 ·intro i j hb us hu
  refine VRs.d2 hu fun y_ y_ k1 k2=>?_;cases k1;cases k2
  show Si W [] A fs (VP W) _ s io m (.ok (.int (if j < i then j else i)) m)
  refine fun y_=>min_two_ints hh fun h' tk hk=>?_
  have st:Step [] (frs fs) s.heap io m h' io m:=.of_keeps H hk
  split <;> exact ⟨_,m,io,rfl,st,H.of_keeps hk,.int _ _,rfl,rfl⟩
 ·intro b vs hq hb us hu
  rcases hq with hq | hq
  ·rw [hq] at hb;cases hb
  ·rw [hq];exact .bad
end
end Mini
namespace Mini
open PySem PySem.W PyProof.Rows
noncomputable def bO7:Nat->String
 | 0=>"list"
 | 1=>"dict"
 | _=>"str"
noncomputable def bO8:Sm->String
 | .append=>"append"
 | .pop=>"pop"
 | .clear=>"clear"
 | .get=>"get"
 | .join=>"join"
 | .split=>"split"
 | .count=>"count"
 | .index=>"index"
noncomputable def smId (k:Nat) (n:Sm):String:=match k,n with
 | 0,.append=>"list.append"
 | 0,.pop=>"list.pop"
 | 0,.count=>"list.count"
 | 0,.index=>"list.index"
 | 1,.pop=>"dict.pop"
 | 1,.get=>"dict.get"
 | 2,.split=>"str.split"
 | 0,.clear=>"list.clear"
 | 1,.clear=>"dict.clear"
 | _,_=>"str.join"
section
variable {W:Wd} {K:Frag} {h h' h₀:Heap} {fs:List Env} {env:Env} {vis:List (Option Str)} {s s' s₀:Shared} {io io' io₀:Io} {m m' m₀:MH} {r r':Lo} {fr fr' own own':List Addr} {A:Around} {n:Nat} {pos p:Pos}
theorem aL6 {α β:Type} {P:Heap->Io->β->α->Prop} (H:HR W s.heap io m) {i:Nat} {p:Addr×Addr} {xs xs':List V} (hi:io[i]?=some p) (hm:m[i]?=some (.list xs)) {h':Heap} {tk:Nat} (hs:Heap.SameBut p.1 s.heap h') {us':Array Value} {c':Nat} (h1:h'.get? p.1=some (fH us' c')) (h2:VRs W s.heap io xs' us'.toList) (h3:xs'.length <= lid) {v:β} {u:α}
  (hP:∀ st:Step own fr s.heap io m h' io (m.set i (.list xs')),P h' io v u):NP W own fr s io m P (.ok v (m.set i (.list xs'))) u { s with heap:=h',toks:=tk }:=by
 rcases H.obj _ _ _ hi hm with ⟨hpp,y_⟩
 have hk:∀ b o,b≠p.1->b≠p.2->s.heap.get? b=some o->h'.get? b=some o:=fun b o q y_ ho=>aA4 hs b o q ho
 have hd:∀ kv ep,MObj.list xs=.dict kv ep->∃ kvs2 e2,MObj.list xs'=.dict kvs2 e2 /\ ep < e2:=fun kv ep q=>by cases q
 have st:Step own fr s.heap io m h' io (m.set i (.list xs')):=aE0 H hi hm hk ⟨_,h1⟩ ⟨_,hpp▸h1⟩ hd
 exact ⟨v,_,io,rfl,st,H.set hi hm hk hd ⟨_,h1⟩ ⟨_,hpp▸h1⟩ ⟨hpp,us',c',h1,h2.step st,h3⟩,hP st,rfl,rfl⟩
set_option tactic.hygienic true in
theorem bZ0 {xs:List V} {l:List Str} {us:List Value} (h:dY xs=some l) (k:VRs W s.heap io xs us):∃ ts:List (Str×Tok),us=strValues ts /\ ts.map (·.1)=l /\ ∀ x∈l,PyData.strOk x=true:=by
 induction xs generalizing l us with
 | nil=>cases k;cases h;exact ⟨[],rfl,rfl,fun y_ q=>nomatch q⟩
 | cons x xs ih=>
  refine VRs.dCons k fun y_ y_ k1 k2=>?_
  ·
   induction k1 using VR.elim <;> first | (exact nomatch (show (none:Option (List Str))=some _ from h)) | skip
   rename_i y t hy
   cases q:dY xs with
   | none=>have h:(dY xs).map _=some l:=h;rw [q] at h;cases h
   | some js=>
    have h:(dY xs).map _=some l:=h
    rw [q] at h
    simp only [Option.map_some,Option.some.injEq] at h
    subst h
    obtain ⟨ts,a,b,c⟩:=ih q k2
    refine ⟨(y,t)::ts,by rw [a];rfl,by simp [b],fun z hz=>?_⟩
    rcases List.mem_cons.mp hz with rfl | hz
    ·exact hy
    ·exact c z hz
theorem cD9 (sep:Str) (l:List Str):Txt.join sep l=aJ3 sep l:=by
 show (⟨(l.drop 1).foldl (fun acc p=>acc++sep.cps++p.cps) (l.headD Str.empty).cps⟩:Str)=aJ3 sep l
 cases l with
 | nil=>rfl
 | cons x r=>
  show (⟨r.foldl (fun acc p=>acc++sep.cps++p.cps) x.cps⟩:Str)=r.foldl (fun acc p=>acc++sep++p) x
  induction r generalizing x with
  | nil=>rfl
  | cons y r ih=>exact ih (x++sep++y)
theorem cD1 {sep:Str} {l:List Str} (hs:PyData.strOk sep=true) (hl:∀ x∈l,PyData.strOk x=true):PyData.strOk (aJ3 sep l)=true:=by
 cases l with
 | nil=>show PyData.strOk Str.empty=true;simp [PyData.strOk,Str.empty]
 | cons x r=>
  have key:∀ (r:List Str) (x:Str),PyData.strOk x=true->(∀ y∈r,PyData.strOk y=true)->PyData.strOk (r.foldl (fun acc p=>acc++sep++p) x)=true:=by
   intro r
   induction r with
   | nil=>intro x hx _;exact hx
   | cons y r ih=>intro x hx hr;exact ih _ (eJ (eJ hx hs) (hr y (.head _))) fun z hz=>hr z (.tail _ hz)
  exact key r x (hl x (.head _)) fun y hy=>hl y (.tail _ hy)
theorem cH5 {k:Nat} {sm:Sm} (h:smH k sm=true):(k=0 /\ sm=.append) \/ (k=0 /\ sm=.pop) \/ (k=2 /\ sm=.join) \/ (k=1 /\ sm=.pop) \/ (k=1 /\ sm=.get):=by
 rcases k with _ | _ | _ | k <;> cases sm <;> first | (exact .inl ⟨rfl,rfl⟩) | (exact .inr (.inl ⟨rfl,rfl⟩)) | (exact .inr (.inr (.inl ⟨rfl,rfl⟩))) | (exact .inr (.inr (.inr (.inl ⟨rfl,rfl⟩)))) | (exact .inr (.inr (.inr (.inr ⟨rfl,rfl⟩)))) | (exact absurd h Bool.false_ne_true)
theorem Si.res0 {α β:Type} {P:Heap->Io->α->β->Prop} {t:Sem β} {R R':Res α} (x:Si W own A fs P t s io m R) (e:R'=R):Si W own A fs P t s io m R':=e▸x
theorem cZ3 {q:Nat} {n:Sm} {vs:List V} {o:Option MObj} (hm:m[q]?=o):dH 0 (.ref q) n vs m=(match (generalizing:=false) o with | some (.list xs)=>bS0 q xs n vs m | _=>.bad):=by subst hm;rfl
theorem bO6 {o:V} {n:Sm} {vs:List V} {u:Value} {t:Sem Value} (kx:VR W s.heap io o u) (h:∀ (q:Nat) (a d:Addr) (xs:List V),o=.ref q->u=.ref a->io[q]?=some (a,d)->m[q]?=some (.list xs)->Si W [] A fs (VP W) t s io m (bS0 q xs n vs m)):Si W [] A fs (VP W) t s io m (dH 0 o n vs m):=by
 induction kx using VR.elim with
 | @ref q a d hi=>
  cases hm:m[q]? with
  | none=>rw [cZ3 hm];exact .bad
  | some o=>
   rw [cZ3 hm]
   cases o with
   | list xs=>exact h q a d xs rfl rfl hi hm
   | _=>exact .bad
 | _=>exact .bad
set_option tactic.hygienic true in
theorem cZ2 (ok:WOk W) {k:Nat} {sm:Sm} (hH:smH k sm=true) (H:HR W s.heap io m) {x:V} {u:Value} {vs:List V} {us:List Value} (kx:VR W s.heap io x u) (hu:VRs W s.heap io vs us) :
  Si W [] A fs (VP W) (call (.builtin (smId k sm)) (u::us)) s io m (dH k x sm vs m):=by
 rcases cH5 hH with ⟨rfl,rfl⟩ | ⟨rfl,rfl⟩ | ⟨rfl,rfl⟩ | ⟨rfl,rfl⟩ | ⟨rfl,rfl⟩
 ·refine bO6 kx fun q a d xs ho hu' hi hm=>?_
  subst ho;subst hu'
  rcases H.obj _ _ _ hi hm with ⟨y_,ws,c,h1,h2,h3⟩
  induction hu using VRs.elim with
  | nil=>exact .bad
  | cons k1 k2=>
   induction k2 using VRs.elim with
   | cons y_ y_=>exact .bad
   | nil=>
    show Si W [] A fs (VP W) _ s io m (if xs.length < lid then _ else _)
    split
    ·rename_i hl
     refine fun y_=>wpAny_list_append_plain ⟨c,h1⟩ (fun h' ⟨c',hD⟩ hs=>?_) (by rw [h2.size];exact aK h3)
     exact aL6 (tk:=s.toks) H hi hm hs hD (by rw [Array.toList_push];exact h2.snoc k1) (by simp;lia) fun y_=>.none
    ·exact .bad
 ·refine bO6 kx fun q a d xs ho hu' hi hm=>?_
  subst ho;subst hu'
  rcases H.obj _ _ _ hi hm with ⟨y_,ws,c,h1,h2,h3⟩
  induction hu using VRs.elim with
  | nil=>exact .bad
  | cons k1 k2=>
   induction k2 using VRs.elim with
   | cons y_ y_=>exact .bad
   | nil=>
    induction k1 using VR.elim with
    | int j t=>
     show Si W [] A fs (VP W) _ s io m (if 0 <= j then (match xs[j.toNat]? with | some v=>if j.natAbs < 2 ^ 60 then .ok v (m.set q (.list (xs.eraseIdx j.toNat))) else .bad | Option.none=>.bad) else .bad)
     by_cases hj:0 <= j
     ·rw [if_pos hj]
      cases hv:xs[j.toNat]? with
      | none=>exact .bad
      | some v=>
       show Si W [] A fs (VP W) _ s io m (if j.natAbs < 2 ^ 60 then _ else _)
       by_cases hlt:j.natAbs < 2 ^ 60
       ·rw [if_pos hlt]
        rcases h2.get hv with ⟨y,hy,ky⟩
        have hlen:j.toNat < xs.length:=(List.getElem?_eq_some_iff.mp hv).1
        have hy':ws[j.toNat]?=some y:=by rw [<- Array.getElem?_toList];exact hy
        have hsz:ws.size=xs.length:=h2.size
        refine fun y_=>call_meets PySem.F.slot_list_pop ⟨_,h1,rfl⟩ PySem.F.entry_list_pop (PySem.F.args_list_pop_2 _ _) (PySem.MeetsSeq.list_pop_at a ws c j t j.toNat y ?_ ?_ hy' (by rw [hsz];exact aK h3)) ⟨h1,?_⟩
        ·unfold Builtin.List.listFitsIndex;simp;lia
        ·unfold seqIndex?
         rw [hsz]
         simp only [show ¬ j < 0 from by lia,if_false]
         rw [if_pos (by simp;lia)]
        ·have q:=PySem.IsL.update h1 (fun xs=>xs.eraseIdxIfInBounds j.toNat)
         have e:(ws.eraseIdxIfInBounds j.toNat).toList=ws.toList.eraseIdx j.toNat:=by
          unfold Array.eraseIdxIfInBounds
          rw [dif_pos (by lia)]
          simp
         exact aL6 (tk:=s.toks) H hi hm (Heap.SameBut.update ..) q (by rw [e];exact h2.eraseIdx _) (by have:=List.length_eraseIdx_le xs j.toNat;lia) fun st=>ky.step st
       ·rw [if_neg hlt];exact .bad
     ·rw [if_neg hj];exact .bad
    | _=>exact .bad
 ·induction kx using VR.elim with
  | str z tz hz=>
   induction hu using VRs.elim with
   | nil=>exact .bad
   | cons k1 k2=>
    induction k2 using VRs.elim with
    | cons y_ y_=>exact .bad
    | nil=>
     induction k1 using VR.elim with
     | @ref q a d hi=>
      show Si W [] A fs (VP W) _ s io m (match m[q]? with | some (.list xs)=>(match dY xs with | some l=>if fG z l <= lid then .ok (.str (aJ3 z l)) m else .bad | Option.none=>.bad) | _=>.bad)
      cases hm:m[q]? with
      | none=>exact .bad
      | some o=>
       cases o with
       | list xs=>
        cases hl:dY xs with
        | none=>show Si W [] A fs (VP W) _ s io m (match dY xs with | some l=>if fG z l <= lid then .ok (.str (aJ3 z l)) m else .bad | Option.none=>.bad);rw [hl];exact .bad
        | some l=>
         show Si W [] A fs (VP W) _ s io m (match dY xs with | some l=>if fG z l <= lid then .ok (.str (aJ3 z l)) m else .bad | Option.none=>.bad)
         rw [hl]
         show Si W [] A fs (VP W) _ s io m (if fG z l <= lid then .ok (.str (aJ3 z l)) m else .bad)
         by_cases hlen:fG z l <= lid
         ·rw [if_pos hlen]
          rcases H.obj _ _ _ hi hm with ⟨y_,ws,c,h1,h2,h3⟩
          rcases bZ0 (s:=s) hl h2 with ⟨ts,e1,e2,e3⟩
          have htl:Builtin.Str.tooLong ((ts.map (·.1)).toArray.foldl (·+·.length+z.length) 0)=false:=by
           rw [e2]
           have:sizeLine=16777216:=sizeLine_eq
           have q:(l.toArray.foldl (·+·.length+z.length) 0)=fG z l:=by simp [fG]
           rw [q]
           unfold Builtin.Str.tooLong
           have:lid=4194304:=rfl
           simp;lia
          refine fun y_=>call_meets PySem.F.slot_str_join (typeIs_str _ _ _) PySem.F.entry_str_join (PySem.F.args_str_join_2 _ _) (meets_str_join_list z tz a ts htl) ⟨⟨_,h1,rfl,c,?_⟩,post_join ts ⟨joinFit_length htl,fun t' k'=>?_⟩⟩
          ·show Data.seq ws c=_
           rw [<- e1,Array.toArray_toList]
          ·rw [e2,cD9]
           exact bI H (.str _ _ (cD1 hz e3))
         ·rw [if_neg hlen];exact .bad
       | _=>exact .bad
     | _=>exact .bad
  | _=>exact .bad
 ·induction kx using VR.elim with
  | @ref q a d hi=>
   cases hm:m[q]? with
   | none=>exact Si.res0 .bad (by show (match m[q]? with | some (.dict kvs e)=>aI3 q kvs e .pop vs m | _=>.bad)=_;rw [hm])
   | some o=>
    cases o with
    | dict kvs e=>
     refine Si.res0 (R:=aI3 q kvs e .pop vs m) ?_ (by show (match m[q]? with | some (.dict kvs e)=>aI3 q kvs e .pop vs m | _=>.bad)=_;rw [hm])
     induction hu using VRs.elim with
     | nil=>exact .bad
     | cons k1 k2=>
      induction k2 using VRs.elim with
      | cons y_ y_=>exact .bad
      | nil=>
       induction k1 using VR.elim with
       | int j t=>
        by_cases hs:aJ (.int j) kvs=true
        ·cases hl:bP (.int j) kvs with
         | none=>exact Si.res0 .bad (by show (if aJ (.int j) kvs=true then (match bP (.int j) kvs with | some v=>Res.ok v (m.set q (.dict (eX (.int j) kvs) (e+1))) | Option.none=>.bad) else .bad)=_;rw [if_pos hs,hl])
         | some v=>exact Si.res0 (cA7 H hi hm hs hl) (by show (if aJ (.int j) kvs=true then (match bP (.int j) kvs with | some v=>Res.ok v (m.set q (.dict (eX (.int j) kvs) (e+1))) | Option.none=>.bad) else .bad)=_;rw [if_pos hs,hl])
        ·exact Si.res0 .bad (if_neg hs)
       | _=>exact .bad
    | _=>exact Si.res0 .bad (by show (match m[q]? with | some (.dict kvs e)=>aI3 q kvs e .pop vs m | _=>.bad)=_;rw [hm])
  | _=>exact .bad
 ·induction kx using VR.elim with
  | @ref q a d hi=>
   cases hm:m[q]? with
   | none=>exact Si.res0 .bad (by show (match m[q]? with | some (.dict kvs e)=>aI3 q kvs e .get vs m | _=>.bad)=_;rw [hm])
   | some o=>
    cases o with
    | dict kvs e=>
     refine Si.res0 (R:=aI3 q kvs e .get vs m) ?_ (by show (match m[q]? with | some (.dict kvs e)=>aI3 q kvs e .get vs m | _=>.bad)=_;rw [hm])
     induction hu using VRs.elim with
     | nil=>exact .bad
     | cons k1 k2=>
      induction k2 using VRs.elim with
      | nil=>exact .bad
      | cons k2 k3=>
       induction k3 using VRs.elim with
       | cons y_ y_=>exact .bad
       | nil=>
        induction k1 using VR.elim with
        | int j t=>
         by_cases hs:aJ (.int j) kvs=true
         ·exact Si.res0 (aZ7 ok H hi hm hs k2) (if_pos hs)
         ·exact Si.res0 .bad (if_neg hs)
        | _=>exact .bad
    | _=>exact Si.res0 .bad (by show (match m[q]? with | some (.dict kvs e)=>aI3 q kvs e .get vs m | _=>.bad)=_;rw [hm])
  | _=>exact .bad
end
end Mini
namespace Mini
open PySem PySem.W PyProof.Rows
noncomputable def cS0:Expr->Bool
 | .Name _ _=>true
 | _=>false
noncomputable def eQ:Expr->Bool
 | .Call f a b _=>!(cS0 f&&a.isEmpty&&b.isEmpty)
 | _=>true
section
variable {W:Wd} {K:Frag} {h h' h₀:Heap} {fs:List Env} {env:Env} {vis:List (Option Str)} {s s' s₀:Shared} {io io' io₀:Io} {m m' m₀:MH} {r r':Lo} {fr fr' own own':List Addr} {A:Around} {n:Nat} {pos p apos:Pos}
set_option tactic.hygienic true in
theorem bB3 {o:Expr} {name:Str} (h:eQ o=true):attributeBase o name env (eval o env)=eval o env:=by
 cases o <;> first | rfl | skip
 rename_i f es kws pos
 cases f <;> first | rfl | skip
 cases es <;> first | rfl | skip
 cases kws <;> first | rfl | (exact aJ2 h)
theorem aS0 {es:List Expr} (h:aR es=true):(backTo pos (starEach es env)).all (fun x=>!x.1)=true:=by
 induction es with
 | nil=>rfl
 | cons e rest ih=>rw [eM h];exact ih (fQ h)
theorem cO3 (k:Nat) (sm:Sm) (h:smH k sm=true):PlainAttrs (bO7 k) /\ Slot (bO7 k) (Str.ofString (bO8 sm)) (smId k sm) /\ typeOf (.builtin (smId k sm))=Pure.pure (.type "method_descriptor"):=by
 rcases cH5 h with ⟨rfl,rfl⟩ | ⟨rfl,rfl⟩ | ⟨rfl,rfl⟩ | ⟨rfl,rfl⟩ | ⟨rfl,rfl⟩
 ·exact ⟨PySem.F.plainAttrs_list,slot_list_append,type_list_append⟩
 ·exact ⟨PySem.F.plainAttrs_list,PySem.F.slot_list_pop,PySem.F.type_list_pop⟩
 ·exact ⟨PySem.F.plainAttrs_str,PySem.F.slot_str_join,PySem.F.type_str_join⟩
 ·exact ⟨PySem.F.plainAttrs_dict,PySem.F.slot_dict_pop,PySem.F.type_dict_pop⟩
 ·exact ⟨PySem.F.plainAttrs_dict,PySem.F.slot_dict_get,PySem.F.type_dict_get⟩
theorem Si.res {α β:Type} {P:Heap->Io->α->β->Prop} {t:Sem β} {R R':Res α} (x:Si W own A fs P t s io m R) (e:R'=R):Si W own A fs P t s io m R':=e▸x
set_option tactic.hygienic true in
theorem cU0 (ok:WOk W) {o:Expr} {es:List Expr} {sm:Sm} {co:Lo->Mn V} {cl:Lo->Mn (List V)} (hb:eQ o=true) (hs:aR es=true) (hfew:es.length < 29) (hline:(apos.endLine == pos.line)=true) (ho:SiE W A fs env vis (eval o env) co) (hl:SiL W A fs env vis (spliced (backTo pos (starEach es env))) cl) :
  SiE W A fs env vis (eval (.Call (.Attribute o (Str.ofString (bO8 sm)) apos) es [] pos) env) (fun r=>bnd (co r) fun x=>fun m=>match smK x m with | some k=>if smH k sm then bnd (cl r) (fun vs=>dH k x sm vs) m else .bad | none=>.bad):=by
 intro s io m r Z hne
 dsimp only at hne ⊢
 refine wpAny_Call_method_late (bB3 hb) ?_ hline rfl ?_
 ·rw [aS0 hs];rw [arm_keywordEach_nil];simp [backToKw];lia
 refine wpAny_mono (ho s io m r Z (Res.bind_ne hne)) (fun ov s₁ q=>?_) fun y_ y_ q=>q
 obtain ⟨x,m₁,io₁,e1,st,H₁,kx,sm₁⟩:=q
 have ee:∀ f:V->Mn V,bnd (co r) f m=f x m₁:=fun f=>by show (co r m).bind _=_;rw [e1];rfl
 rw [ee] at hne ⊢
 cases hk:smK x m₁ with
 | none=>rw [hk] at hne;exact absurd rfl hne
 | some k=>
  rw [hk] at hne
  dsimp only at hne ⊢
  by_cases hH:smH k sm=true
  ·rw [if_pos hH] at hne ⊢
   have Z₁:=Z.step H₁ st
   have ty:s₁.TypeIs ov (bO7 k) /\ (∀ a,ov=.ref a->∃ ob,s₁.heap.get? a=some ob /\ ob.dict=none):=by
    induction kx using VR.elim with
    | @ref q a d hi=>
     simp only [smK] at hk
     split at hk
     ·rename_i xs hm
      cases hk
      obtain ⟨y_,ws,c,h1,y_⟩:=H₁.obj _ _ _ hi hm
      exact ⟨⟨_,h1,rfl⟩,fun b e=>by cases e;exact ⟨_,h1,rfl⟩⟩
     ·rename_i kvs e hm
      cases hk
      obtain ⟨y_,o',es',c,h1,h2,y_⟩:=H₁.obj _ _ _ hi hm
      exact ⟨⟨_,h1,h2.1⟩,fun b e=>by cases e;exact ⟨_,h1,h2.2.1⟩⟩
     ·cases hk
    | str x t hx=>cases hk;exact ⟨typeIs_str _ _ _,fun y_ e=>nomatch e⟩
    | none=>cases hk
    | bool b=>cases hk
    | int i t=>cases hk
    | tup=>cases hk
    | scr=>cases hk
   have call:wpAny (model W.prog W.w) A (callWith pos (.builtin (smId k sm)) [ov] (backTo pos (starEach es env)) []) (NP W [] (frs fs) s io m (VP W) (bnd (cl r) (fun vs=>dH k x sm vs) m₁)) NX s₁:=by
    refine Calls.callWith_builtin (dK hs) (dE hs ?_)
    refine wpAny_mono (hl s₁ io₁ m₁ r Z₁ (Res.bind_ne hne)) (fun us s₂ q=>?_) fun y_ y_ q=>q
    obtain ⟨vs,m₂,io₂,e2,st2,H2,kv,sm2⟩:=q
    have ee2:bnd (cl r) (fun vs=>dH k x sm vs) m₁=dH k x sm vs m₂:=by show (cl r m₁).bind _=_;rw [e2];rfl
    rw [ee2] at hne ⊢
    exact wpAny_mono (cZ2 ok hH H2 (VR.step st2 kx) kv hne) (fun y_ y_ z=>z.mono (st.trans st2) (sm₁.trans sm2)) fun y_ y_ z=>z
   obtain ⟨p1,p2,p3⟩:=cO3 k sm hH
   exact ⟨_,_,p1,p2,p3,ty.1,ty.2,call⟩
  ·rw [if_neg hH] at hne;exact absurd rfl hne
theorem cP1 (R:AR A fs n) (H:HR W s.heap io m) {x y v:V} {u iu vu:Value} (kx:VR W s.heap io x u) (ky:VR W s.heap io y iu) (kv:VR W s.heap io v vu):Si W own A fs (fun y_ y_ (_ _:Unit)=>True) (setItem u iu vu) s io m (dJ x y v m):=by
 have bad:∀ {R:Res Unit},R=.bad->Si W own A fs (fun y_ y_ (_ _:Unit)=>True) (setItem u iu vu) s io m R:=fun e=>e▸.bad
 induction kx using VR.elim with
 | @ref q a d hi=>
  cases hm:m[q]? with
  | none=>exact bad (by unfold dJ;dsimp only;rw [hm])
  | some o=>
   cases o with
   | inst c fls=>exact bad (by unfold dJ;dsimp only;rw [hm])
   | dict kvs e=>
    have ee:dJ (.ref q) y v m=match dN y with | some k=>if aJ k kvs&&kvs.length < lid then .ok () (m.set q (.dict (put k v kvs) (e+1))) else .bad | Option.none=>.bad:=by unfold dJ;dsimp only;rw [hm] <;> rfl
    refine Si.res ?_ ee
    cases hk:dN y with
    | none=>exact .bad
    | some k=>
     dsimp only
     by_cases hc:(aJ k kvs&&decide (kvs.length < lid))=true
     ·refine Si.res ?_ (if_pos hc)
      rcases Bool.and_eq_true_iff.mp hc with ⟨h1,h2⟩
      exact cA2 H R hi hm ky kv hk h1 (of_decide_eq_true h2)
     ·exact Si.res .bad (if_neg hc)
   | list xs=>exact bad (by unfold dJ;dsimp only;rw [hm])
 | _=>exact bad rfl
theorem a_idx {o i:Expr} {co ci:Lo->Mn V} (R:AR A (env::fs) n) (ho:SiE W A (env::fs) env vis (eval o env) co) (hi:SiE W A (env::fs) env vis (eval i env) ci):SiA W A fs env vis (.Subscript o i pos) (fun v r=>bnd (co r) fun x=>bnd (ci r) fun y=>bnd (dJ x y v) fun y_=>ret r):=by
 intro s io m r v u Z k
 rw [arm_assign_Subscript]
 refine Si.bindE (Si.holding (ho s io m r Z.sit)) fun ov s₁ io₁ m₁ x y_ st₁ H₁ kx sm₁=>?_
 have Z₁:=Z.step H₁ st₁
 refine Si.bindE (Si.holding (hi s₁ io₁ m₁ r Z₁.sit)) fun iv s₂ io₂ m₂ y y_ st₂ H₂ ky sm₂=>.standAt ?_
 have Z₂:=Z₁.step H₂ st₂
 refine Si.bindE (Si.holding (cP1 R H₂ (VR.step st₂ kx) ky ((VR.step st₁ k).step st₂))) fun y_ s₃ io₃ m₃ y_ y_ st₃ H₃ y_ sm₃=>?_
 exact fun y_=>wpAny_release ⟨r,m₃,io₃,rfl,.refl,H₃,Z₂.F.step0 Z₂.H st₃,.refl _⟩
theorem cU2:SiE W A fs env vis (eval (.Dict [] [] pos) env) (fun y_=>alloc (.dict [] 0)):=by
 intro s io m r Z
 exact fun y_=>wpAny_Dict_empty (cQ2 (tk:=s.toks) Z.H)
theorem bB0 {x y:Str} {p' pos':Pos} {es:List Expr} {cl:Lo->Mn (List V)} (hh:A.handled=none) (gl:Gl W K) (e:nsIn K mainGlobals x=some none) (hv:bootBuiltins x=some (.type "range")) (hn:(x == ("__name__":Str))=false) (hx:env.kindOf x=some .globalImplicit) (hd:(x == ("__debug__":Str))=false)
  (e':nsIn K mainGlobals y=some none) (hv':bootBuiltins y=some (.type "list")) (hn':(y == ("__name__":Str))=false) (hx':env.kindOf y=some .globalImplicit) (hd':(y == ("__debug__":Str))=false) (hs:aR es=true)
  (hl:SiL W A fs env vis (spliced (backTo pos (starEach es env))) cl) :
  SiE W A fs env vis (eval (.Call (.Name y p') [.Call (.Name x p) es [] pos] [] pos') env) (fun r=>bnd (cl r) fun vs=>match dU vs with | some l=>if l.length <= lid then alloc (.list l) else bad | none=>bad):=by
 intro s io m r Z hne
 dsimp only at hne ⊢
 refine wpAny_Call_NameR (aD3 gl Z e' hv' hn' hx' hd' (PySem.callWith_type rfl (dE (s:=s) (es:=[.Call (.Name x p) es [] pos]) rfl ?_)))
 refine PyProof.Rows.spliced_more ?_
 refine wpAny_Call_NameR (aD3 gl Z e hv hn hx hd (PySem.callWith_type (dK hs) (dE hs ?_)))
 refine wpAny_mono (hl s io m r Z (Res.bind_ne hne)) (fun us s₁ q=>?_) fun y_ y_ q=>q
 obtain ⟨vs,m₁,io₁,e1,st,H,k,sm⟩:=q
 have ee:∀ f:List V->Mn V,bnd (cl r) f m=f vs m₁:=fun f=>by show (cl r m).bind _=_;rw [e1];rfl
 rw [ee] at hne ⊢
 show wpAny (model W.prog W.w) A (call (.type "range") us) _ _ s₁
 cases hr:dU vs with
 | none=>rw [hr] at hne;exact absurd rfl hne
 | some l=>
  rw [hr] at hne
  dsimp only at hne ⊢
  by_cases hll:l.length <= lid
  ·rw [if_pos hll] at hne ⊢
   refine fJ H k hr fun a b c o tk t u v ha hb hc h0 hsz hle hR=>?_
   refine PyProof.Rows.spliced_none ?_
   show wpAny (model W.prog W.w) A (call (.type "list") [.ref s₁.heap.objs.size]) _ _ _
   have st1:Step [] (frs fs) s₁.heap io₁ m₁ (s₁.heap.push o) io₁ m₁:=.of_keeps H (aL _)
   have H1:HR W (s₁.heap.push o) io₁ m₁:=H.of_keeps (aL _)
   refine call_list_range hh hR (aG2 ha hb hc h0) hsz.symm (Nat.le_trans hll (by decide)) fun h' tk' acc c' hk hD hacc=>?_
   have va:VRs W (s₁.heap.push o) io₁ l acc.toList:=by
    have key:∀ (l:List V) (us:List Value),us.length=l.length->(∀ (i:Nat) (v:V) (w:Value),l[i]?=some v->us[i]?=some w->VR W (s₁.heap.push o) io₁ v w)->VRs W (s₁.heap.push o) io₁ l us:=by
     intro l
     induction l with
     | nil=>intro us hl _;cases us with
      | nil=>exact .nil
      | cons=>cases hl
     | cons z zs ih=>
      intro us hl hv
      cases us with
      | nil=>cases hl
      | cons w ws=>exact .cons (hv 0 z w rfl rfl) (ih ws (by simpa using hl) fun i v w' h1 h2=>hv (i+1) v w' (by simpa using h1) (by simpa using h2))
    refine key l acc.toList ?_ fun i v w h1 h2=>?_
    ·have:acc.size=l.length:=hacc.1
     simpa using this
    ·rcases hacc.2 i w (by rw [<- Array.getElem?_toList];exact h2) with ⟨t',q⟩
     rw [hle i v h1,q]
     exact .int _ _
   have dead:s₁.heap.get? (s₁.heap.push o).objs.size=none:=by
    cases q:s₁.heap.get? (s₁.heap.push o).objs.size with
    | none=>rfl
    | some o'=>have:=aL o _ _ q;rw [aQ] at this;cases this
   exact (aS7 (s:={ s₁ with heap:=s₁.heap.push o,toks:=tk }) (tk:=tk') H1 hk hD va hll (aQ _)).mono (st.trans st1) (sm.trans ⟨rfl,rfl⟩)
  ·rw [if_neg hll] at hne;exact absurd rfl hne
end
end Mini
namespace Mini
open PySem PySem.W PyProof.Rows
section
variable {W:Wd} {K:Frag} {fs:List Env} {env:Env} {vis:List (Option Str)} {s:Shared} {io:Io} {m:MH} {r:Lo} {A:Around} {pos p:Pos}
end
end Mini
namespace Mini
open PySem PySem.W PyProof.Rows
section
variable {W:Wd} {K:Frag} {h h' h₀:Heap} {fs:List Env} {env:Env} {vis:List (Option Str)} {s s' s₀:Shared} {io io' io₀:Io} {m m' m₀:MH} {r r':Lo} {fr fr' own own':List Addr} {A:Around} {n:Nat} {pos p apos:Pos}
theorem bT6 {v:V} {u:Value} (k:VR W h io v u):handedOut u=Pure.pure u:=by induction k using VR.elim <;> rfl
theorem aZ6 {a d:Addr} {c:Nat} {mA:Str->Option Value} (hne:a≠d) (h1:h.get? a=some (cS4 (W.ca c) d)) (h2:h.Ns1 d mA):h.Inst a (W.ca c) mA:=
 ⟨_,h1,rfl,(fun y_ q=>by cases q),.inr ⟨d,rfl,fun q=>hne q.symm,h2⟩⟩
theorem cG5 {v:V} {u:Value} {k:Nat} {x:Str} (hx:W.S.attrs[k]?=some x) (hf:∀ (c:Nat) (D:ClsD),W.S.cls[c]?=some D->D.meths.lookup k=none) (H:HR W s.heap io m) (kv:VR W s.heap io v u):Si W own A fs (VP W) (getAttr u x true) s io m (aB7 v k m):=by
 intro hne
 have bad:aB7 v k m=.bad->False:=hne
 induction kv using VR.elim with
 | @ref q a d hi=>
  cases hm:m[q]? with
  | none=>exact (bad (by unfold aB7;dsimp only;rw [hm])).elim
  | some o=>
   cases o with
   | list xs=>exact (bad (by unfold aB7;dsimp only;rw [hm])).elim
   | dict kvs e=>exact (bad (by unfold aB7;dsimp only;rw [hm])).elim
   | inst c fls=>
    have ea:aB7 (.ref q) k m=ofO (aJ6 k fls) m:=by unfold aB7;dsimp only;rw [hm]
    rw [ea] at hne ⊢
    cases hg:aJ6 k fls with
    | none=>rw [hg] at hne;exact absurd rfl hne
    | some w=>
     obtain ⟨e1,mA,h1,h2,h3,D,N,mN,C⟩:=H.obj _ _ _ hi hm
     rcases h3.2 k w hg with ⟨x',u',ex',hu,kw⟩
     rw [hx] at ex'
     cases ex'
     rcases C.obj with ⟨nm,qn,bs,sn,sub,col,dd,k0,k1,k2,k3,k5,hC⟩
     have hna:mN x=none:=by rw [C.has k x hx,hf c D C.dat];rfl
     exact load_attr (H.keep _ _ hC) (C.ns.keeps H.keep) C.ga hna (C.low k x hx) (aZ6 e1 h1 h2) hu (bT6 kw) ⟨w,m,io,rfl,.refl,H,kw,.refl _⟩
 | none=>exact (bad rfl).elim
 | bool b=>exact (bad rfl).elim
 | int i t=>exact (bad rfl).elim
 | str y t hy=>exact (bad rfl).elim
 | tup=>exact (bad rfl).elim
 | scr=>exact (bad rfl).elim
theorem dE9 {o:Expr} {x:Str} {k:Nat} {ca:Lo->Mn V} (hb:eQ o=true) (hx:W.S.attrs[k]?=some x) (hf:∀ (c:Nat) (D:ClsD),W.S.cls[c]?=some D->D.meths.lookup k=none) (ho:SiE W A fs env vis (eval o env) ca) :
  SiE W A fs env vis (eval (.Attribute o x apos) env) (fun r=>bnd (ca r) fun v=>aB7 v k):=by
 intro s io m r Z
 refine Si.res (R:=(ca r m).bind fun v=>aB7 v k) ?_ rfl
 intro hne
 refine Attribute_any_ ?_ (by rw [arm_eval_Attribute,bB3 hb])
 refine wpAny_mono (ho s io m r Z (Res.bind_ne hne)) (fun u s₁ q=>?_) fun y_ y_ q=>q
 rcases q with ⟨v,m₁,io₁,e1,st,H₁,kv,sm⟩
 have ee:(ca r m).bind (fun v=>aB7 v k)=aB7 v k m₁:=by rw [e1];rfl
 rw [ee] at hne ⊢
 exact wpAny_mono (cG5 (own:=[]) (fs:=fs) hx hf H₁ kv hne) (fun y_ y_ z=>z.mono st sm) fun y_ y_ z=>z
theorem aE4 {k j:Nat} {v:V}:∀ {fls:List (Nat×V)},aJ6 j (eH k v fls)=if j=k then some v else aJ6 j fls
 | []=>by
  show (if k=j then some v else none)=_
  by_cases q:j=k
  ·rw [if_pos q,if_pos q.symm]
  ·rw [if_neg q,if_neg (fun z=>q z.symm)];rfl
 | (i,w)::fls=>by
  show aJ6 j (if i=k then (i,v)::fls else (i,w)::eH k v fls)=_
  by_cases z:i=k
  ·rw [if_pos z]
   subst z
   show (if i=j then some v else aJ6 j fls)=if j=i then some v else if i=j then some w else aJ6 j fls
   by_cases q:j=i
   ·rw [if_pos q,if_pos q.symm]
   ·rw [if_neg q,if_neg (fun z=>q z.symm),if_neg (fun z=>q z.symm)]
  ·rw [if_neg z]
   show (if i=j then some w else aJ6 j (eH k v fls))=if j=k then some v else if i=j then some w else aJ6 j fls
   rw [aE4]
   by_cases q:i=j
   ·rw [if_pos q,if_neg (fun e=>z (q.trans e)),if_pos q]
   ·rw [if_neg q,if_neg q]
theorem FEs.put {fls:List (Nat×V)} {mA:Str->Option Value} {k:Nat} {x:Str} {v:V} {u:Value} (e:FEs W h io fls mA) (hx:W.S.attrs[k]?=some x) (hu:∀ (i j:Nat) (x:Str),W.S.attrs[i]?=some x->W.S.attrs[j]?=some x->i=j) (kv:VR W h io v u) :
  FEs W h io (eH k v fls) (fun y=>if y=x then some u else mA y):=by
 constructor
 ·intro y w q
  by_cases z:y=x
  ·subst z
   have q':some u=some w:=by rw [<- q];exact (if_pos rfl).symm
   cases q'
   exact ⟨k,v,hx,by rw [aE4,if_pos rfl],kv⟩
  ·have q':mA y=some w:=by rw [<- q];exact (if_neg z).symm
   rcases e.1 y w q' with ⟨i,w',a,b,c⟩
   refine ⟨i,w',a,?_,c⟩
   rw [aE4,if_neg (fun ik=>?_)]
   ·exact b
   ·subst ik;rw [hx] at a;cases a;exact z rfl
 ·intro i w q
  rw [aE4] at q
  by_cases z:i=k
  ·rw [if_pos z] at q
   cases q
   subst z
   exact ⟨x,u,hx,if_pos rfl,kv⟩
  ·rw [if_neg z] at q
   rcases e.2 i w q with ⟨y,w',a,b,c⟩
   refine ⟨y,w',a,?_,c⟩
   show (if y=x then some u else mA y)=some w'
   rw [if_neg (fun yx=>?_)]
   ·exact b
   ·subst yx;exact z (hu i k y a hx)
theorem bL0 {fls:List (Nat×V)} {mA:Str->Option Value} (e:FEs W h io fls mA):Within mA W.S.attrs:=by
 intro y hy
 cases q:mA y with
 | none=>exact absurd q hy
 | some u=>
  rcases e.1 y u q with ⟨i,v,a,y_⟩
  exact List.mem_of_getElem? a
theorem aY1 {v y:V} {u w:Value} {k:Nat} {x:Str} (hx:W.S.attrs[k]?=some x) (hf:∀ (c:Nat) (D:ClsD),W.S.cls[c]?=some D->D.meths.lookup k=none) (H:HR W s.heap io m) (kv:VR W s.heap io v u) (ky:VR W s.heap io y w):Si W own A fs (fun y_ y_ (_ _:Unit)=>True) (setAttr u x w) s io m (dO v k y m):=by
 intro hne
 have bad:dO v k y m=.bad->False:=hne
 induction kv using VR.elim with
 | @ref q a d hi=>
  cases hm:m[q]? with
  | none=>exact (bad (by unfold dO;dsimp only;rw [hm])).elim
  | some o=>
   cases o with
   | list xs=>exact (bad (by unfold dO;dsimp only;rw [hm])).elim
   | dict kvs e=>exact (bad (by unfold dO;dsimp only;rw [hm])).elim
   | inst c fls=>
    have ea:dO (.ref q) k y m=.ok () (m.set q (.inst c (eH k y fls))):=by unfold dO;dsimp only;rw [hm]
    rw [ea]
    obtain ⟨e1,mA,h1,h2,h3,D,N,mN,C⟩:=H.obj _ _ _ hi hm
    rcases C.obj with ⟨nm,qn,bs,sn,sub,col,dd,k0,k1,k2,k3,k5,hC⟩
    have hna:mN x=none:=by rw [C.has k x hx,hf c D C.dat];rfl
    have hac:a≠W.ca c:=fun q=>by
     have:=H.fresh a ⟨_,List.mem_of_getElem? hi,.inl rfl⟩
     rw [q,hC] at this;cases this
    refine store_attr F.store_object (H.keep _ _ hC) (C.ns.keeps H.keep) C.sa hna (C.low k x hx) hac (aZ6 e1 h1 h2) (fun h' tk' I' hk hsame=>?_) (bL0 h3) (Nat.le_trans C.few (by decide))
    rcases hsame _ h1 with ⟨o₁,g1,c1,c2,c3,c4⟩
    have eo:o₁=cS4 (W.ca c) d:=by
     rcases o₁ with ⟨oc,od,odt,osl⟩
     have c4':=c4 d rfl
     dsimp only at c1 c2 c3 c4'
     rw [c1,c2,c3,c4']
    rw [eo] at g1
    rcases I' with ⟨o₂,g2,y_,y_,hd⟩
    rw [g1] at g2
    cases g2
    rcases hd with ⟨q,_⟩ | ⟨d',ed,_,hns⟩
    ·cases q
    cases ed
    have hk':∀ b o,b≠a->b≠d->s.heap.get? b=some o->h'.get? b=some o:=fun b o n1 n2 e=>hk b o n1 (fun o₀ dx e0 e2=>by rw [h1] at e0;cases e0;cases e2;exact n2) e
    have hd':∃ o',h'.get? d=some o':=let ⟨o',_,_,e,_⟩:=hns;⟨o',e⟩
    have st:Step own (frs fs) s.heap io m h' io (m.set q (.inst c (eH k y fls))):=aE0 H hi hm hk' ⟨_,g1⟩ hd' (fun y_ y_ q=>by cases q)
    exact ⟨(),_,io,rfl,st,H.set hi hm hk' (fun y_ y_ q=>by cases q) ⟨_,g1⟩ hd' ⟨e1,_,g1,hns,(h3.step st).put hx C.uniq (ky.step st),D,N,mN,C⟩,trivial,rfl,rfl⟩
 | none=>exact (bad rfl).elim
 | bool b=>exact (bad rfl).elim
 | int i t=>exact (bad rfl).elim
 | str y t hy=>exact (bad rfl).elim
 | tup=>exact (bad rfl).elim
 | scr=>exact (bad rfl).elim
theorem dG6 {o:Expr} {x:Str} {k:Nat} {co:Lo->Mn V} (hx:W.S.attrs[k]?=some x) (hf:∀ (c:Nat) (D:ClsD),W.S.cls[c]?=some D->D.meths.lookup k=none) (ho:SiE W A (env::fs) env vis (eval o env) co):SiA W A fs env vis (.Attribute o x pos) (fun v r=>bnd (co r) fun y=>bnd (dO y k v) fun y_=>ret r):=by
 intro s io m r v u Z kv
 rw [arm_assign_Attribute]
 refine Si.bindE (Si.holding (ho s io m r Z.sit)) fun ov s₁ io₁ m₁ y y_ st₁ H₁ ky sm₁=>.standAt ?_
 have Z₁:=Z.step H₁ st₁
 refine Si.bindE (Si.holding (aY1 hx hf H₁ ky (VR.step st₁ kv))) fun y_ s₃ io₃ m₃ y_ y_ st₃ H₃ y_ sm₃=>?_
 exact fun y_=>wpAny_release ⟨r,m₃,io₃,rfl,.refl,H₃,Z₁.F.step0 Z₁.H st₃,.refl _⟩
theorem dE5 {o:Expr} {x:Str} {k:Nat} {es:List Expr} {co:Lo->Mn V} {cl:Lo->Mn (List V)} {F:Nat->List V->Mn V} (gl:Gl W K) (hb:eQ o=true) (hs:aR es=true) (hfew:es.length < 29) (hline:(apos.endLine == pos.line)=true) (hx:W.S.attrs[k]?=some x)
  (hobj:∀ j,j < W.S.fns.length->∃ ob fd,K.lookup (W.fa j)=some ob /\ ob.data=.func fd /\ ob.cls=.type "function") (hF:∀ j,j < W.S.fns.length->SiF W A fs (.ref (W.fa j)) (F j))
  (ho:SiE W A fs env vis (eval o env) co) (hl:SiL W A fs env vis (spliced (backTo pos (starEach es env))) cl) :
  SiE W A fs env vis (eval (.Call (.Attribute o x apos) es [] pos) env) (fun r=>bnd (co r) fun v=>bnd (fE W.S k v) fun j=>bnd (cl r) fun vs=>F j (v::vs)):=by
 intro s io m r Z hne
 dsimp only at hne ⊢
 rw [arm_eval_Call,bB3 hb]
 refine wpAny_bind (wpAny_mono (ho s io m r Z (Res.bind_ne hne)) (fun u s₁ q=>?_) fun y_ y_ q=>q)
 rcases q with ⟨v,m₁,io₁,e1,st,H₁,kv,sm⟩
 have ee:∀ f:V->Mn V,bnd (co r) f m=f v m₁:=fun f=>by show (co r m).bind _=_;rw [e1];rfl
 rw [ee] at hne ⊢
 refine wpAny_bind (wpAny_standAt ?_)
 have hform:methodCallForm (es.length+([]:List Keyword).length) (backTo pos (starEach es env)) (backToKw pos (keywordEach [] env))=true:=by
  unfold methodCallForm
  rw [aS0 hs];rw [arm_keywordEach_nil];simp [backToKw];lia
 have hpos:methodCallPos true o env apos pos=Pure.pure pos:=by unfold methodCallPos;rw [hline];rfl
 unfold methodCall
 rw [hform]
 have bad:fE W.S k v m₁=.bad->False:=fun q=>hne (by show (fE W.S k v m₁).bind _=_;rw [q];rfl)
 induction kv using VR.elim with
 | @ref q0 a d hi=>
  cases hm:m₁[q0]? with
  | none=>exact (bad (by unfold fE;dsimp only;rw [hm])).elim
  | some ob=>
   cases ob with
   | list xs=>exact (bad (by unfold fE;dsimp only;rw [hm])).elim
   | dict kvs e=>exact (bad (by unfold fE;dsimp only;rw [hm])).elim
   | inst c fls=>
    obtain ⟨g1,mA,h1,h2,h3,D,N,mN,C⟩:=H₁.obj _ _ _ hi hm
    cases hg:aJ6 k fls with
    | some w=>exact (bad (by unfold fE;dsimp only;rw [hm];dsimp only;rw [C.dat];dsimp only;rw [hg])).elim
    | none=>
     cases hq:D.meths.lookup k with
     | none=>exact (bad (by unfold fE;dsimp only;rw [hm];dsimp only;rw [C.dat];dsimp only;rw [hg];dsimp only;rw [hq];rfl)).elim
     | some j=>
      have em:fE W.S k (.ref q0) m₁=.ok j m₁:=by unfold fE;dsimp only;rw [hm];dsimp only;rw [C.dat];dsimp only;rw [hg];dsimp only;rw [hq];rfl
      have e2:bnd (fE W.S k (.ref q0)) (fun j=>bnd (cl r) fun vs=>F j (.ref q0::vs)) m₁=bnd (cl r) (fun vs=>F j (.ref q0::vs)) m₁:=by show (fE W.S k (.ref q0) m₁).bind _=_;rw [em];rfl
      rw [e2] at hne ⊢
      rcases C.obj with ⟨nm,qn,bs,sn,sub,col,dd,k0,k1,k2,k3,k5,hC⟩
      rcases hobj j (C.mlt k j hq) with ⟨fo,fd,f1,f2,f3⟩
      have hmn:mN x=some (.ref (W.fa j)):=by rw [C.has k x hx,hq];rfl
      have hma:mA x=none:=by
       cases z:mA x with
       | none=>rfl
       | some w=>
        rcases h3.1 x w z with ⟨i',v',a1,a2,y_⟩
        rw [C.uniq i' k x a1 hx,hg] at a2;cases a2
      have Z₁:=Z.step H₁ st
      refine wpAny_bind (wpAny_holding ?_)
      unfold calleeOf
      rw [if_pos rfl]
      refine method_of (H₁.keep _ _ hC) (C.ns.keeps H₁.keep) C.ga C.gh hmn (H₁.get gl f1) f3 (C.low k x hx) (aZ6 g1 h1 h2) hma ?_
      refine wpAny_bind (wpAny_of_eq hpos ?_)
      refine Calls.callWith_function (o:=fo) (fd:=fd) (dE hs ?_)
      refine wpAny_mono (hl s₁ io₁ m₁ r Z₁ (Res.bind_ne hne)) (fun us s₂ q=>?_) fun y_ y_ q=>q
      obtain ⟨vs,m₂,io₂,e3,st2,H2,kvs,sm2⟩:=q
      have ee2:bnd (cl r) (fun vs=>F j (.ref q0::vs)) m₁=F j (.ref q0::vs) m₂:=by show (cl r m₁).bind _=_;rw [e3];rfl
      rw [ee2] at hne ⊢
      refine ⟨⟨H2.get gl f1,f2⟩,?_⟩
      exact wpAny_mono (hF j (C.mlt k j hq) _ _ _ _ _ H2 (Z₁.G.step0 st2) (.cons (.ref (st2.io_get hi)) kvs) hne) (fun y_ y_ z=>z.mono (st.trans st2) (sm.trans sm2)) fun y_ y_ z=>z
 | none=>exact (bad rfl).elim
 | bool b=>exact (bad rfl).elim
 | int i t=>exact (bad rfl).elim
 | str y t hy=>exact (bad rfl).elim
 | tup=>exact (bad rfl).elim
 | scr=>exact (bad rfl).elim
theorem bM8 {C:Addr} {rest:List Value}:A.under (.builtin "type.__call__" ⟨.ref C::rest,[]⟩)=born A:=by
 have h1:(Code.builtin "type.__call__" ⟨.ref C::rest,[]⟩).weight=1:=by kernel_rfl
 have h2:(Code.builtin "type.__call__" ⟨.ref C::rest,[]⟩).cUnits=1:=by kernel_rfl
 have h3:(Code.builtin "type.__call__" ⟨.ref C::rest,[]⟩).envs=[]:=by kernel_rfl
 have h4:(Code.builtin "type.__call__" ⟨.ref C::rest,[]⟩).guards=[]:=by kernel_rfl
 unfold Around.under born
 rw [h1,h2,h3,h4];rfl
theorem e_new {x:Str} {c k0:Nat} {D:ClsD} {N:Addr} {mN:Str->Option Value} {es:List Expr} {cl:Lo->Mn (List V)} {F:Nat->List V->Mn V} (gl:Gl W K) (e:nsIn K mainGlobals x=some (some (.ref (W.ca c)))) (hx:env.kindOf x=some .globalImplicit) (hd:(x == ("__debug__":Str))=false) (hs:aR es=true)
  (C:ClsOk W c D N mN) (hD:D.init=some k0) (hkeep:keepIn K (.ref (W.ca c))=true) (hmk:makesIn K (W.ca c)=true) (hin:findIn K (.ref (W.ca c)) "__init__"=some (some (.ref (W.fa k0)))) (hty:typeIn K (.ref (W.fa k0))=some (.type "function")) (hF:SiK W (born A) fs (.ref (W.fa k0)) (F k0))
  (hl:SiL W A fs env vis (spliced (backTo pos (starEach es env))) cl) :
  SiE W A fs env vis (eval (.Call (.Name x p) es [] pos) env) (fun r=>bnd (cl r) fun vs=>cQ7 W.S F c vs):=by
 intro s io m r Z hne
 dsimp only at hne ⊢
 refine wpAny_Call_NameR (bR4 gl Z e hx hd (callWith_of (P:=fun h=>K.In h) (by rw [dK hs];rfl) (fun h X=>keeps_K hkeep h X) (dE hs ?_)))
 refine wpAny_mono (hl s io m r Z (Res.bind_ne hne)) (fun us s₁ q=>?_) fun y_ y_ q=>q
 rcases q with ⟨vs,m₁,io₁,e1,st,H₁,kvs,sm⟩
 have X:K.In s₁.heap:=fun a o h=>H₁.get gl h
 have ee:bnd (cl r) (fun vs=>cQ7 W.S F c vs) m=(F k0 (.ref m₁.length::vs) (m₁++[.inst c []])).bind (dB2 (.ref m₁.length)):=by
  show (cl r m).bind _=_
  rw [e1]
  show cQ7 W.S F c vs m₁=_
  unfold cQ7
  rw [C.dat];dsimp only;rw [C.exc,hD];rfl
 rw [ee] at hne ⊢
 refine ⟨X,?_⟩
 rcases s₁ with ⟨hh,gg,dr,tk,os⟩
 dsimp only at st H₁ kvs X
 refine wpAny_call (make_core (makes_of X hmk) (looks_findIn X hin) (fun self=>bind_fn X self hty) (.inl rfl) ?_)
 rw [bM8]
 have keeps:∀ b o,hh.get? b=some o->((hh.push emptyDict).push (instObj (W.ca c) hh.objs.size)).get? b=some o:=fun b o h=>Heap.get?_push_of_some _ (Heap.get?_push_of_some _ h)
 have nx:hh.get? (hh.objs.size+1)=none:=Heap.get?_none_of_le (Nat.le_succ _)
 have nd:hh.get? hh.objs.size=none:=aQ hh
 have gx:((hh.push emptyDict).push (instObj (W.ca c) hh.objs.size)).get? (hh.objs.size+1)=some (instObj (W.ca c) hh.objs.size):=by heap_get
 have gd:((hh.push emptyDict).push (instObj (W.ca c) hh.objs.size)).get? hh.objs.size=some emptyDict:=Heap.get?_push_of_some _ (Heap.get?_push_at rfl rfl)
 have st2:Step [] (frs fs) hh io₁ m₁ ((hh.push emptyDict).push (instObj (W.ca c) hh.objs.size)) (io₁++[(hh.objs.size+1,hh.objs.size)]) (m₁++[.inst c []]):=eZ H₁ keeps nx nd
 have H2:HR W ((hh.push emptyDict).push (instObj (W.ca c) hh.objs.size)) (io₁++[(hh.objs.size+1,hh.objs.size)]) (m₁++[.inst c []]):=
  H₁.alloc keeps nx nd ⟨fun q=>absurd q (Nat.succ_ne_self _),fun y_=>none,gx,Heap.Ns1.of_empty ⟨_,#[],_,gd,rfl,fun e he=>absurd he (by simp),fun y_=>rfl⟩,⟨(fun y_ y_ q=>by cases q),(fun y_ y_ q=>by cases q)⟩,D,N,mN,C⟩
 have last:(io₁++[(hh.objs.size+1,hh.objs.size)])[m₁.length]?=some (hh.objs.size+1,hh.objs.size):=by rw [<- H₁.len];simp
 refine codeAny_mono (hF ⟨_,gg,dr,tk,os⟩ _ _ (.ref m₁.length::vs) (.ref (hh.objs.size+1)::us) H2 ((Z.G.step0 st).step0 st2) (.cons (.ref last) (kvs.step st2)) (Res.bind_ne hne)) (fun rr s' z=>?_)
 have st3:=st.trans st2
 cases rr with
 | error e=>exact z
 | ok f=>
  cases f with
  | ret v=>
   rcases z with ⟨u,m3,io3,e3,st4,H3,ku,sm3⟩
   have e4:(F k0 (.ref m₁.length::vs) (m₁++[.inst c []])).bind (dB2 (.ref m₁.length))=dB2 (.ref m₁.length) u m3:=by rw [e3];rfl
   rw [e4] at hne
   have hu:u=.none:=by
    cases u <;> first | rfl | exact absurd rfl hne
   subst hu
   cases ku
   refine ⟨rfl,?_⟩
   show NP W [] (frs fs) s io m (VP W) _ _ s'
   rw [e4]
   exact ⟨_,m3,io3,rfl,st3.trans st4,H3,.ref (st4.io_get last),sm.trans sm3⟩
  | _=>exact z
end
end Mini
namespace Mini
open PySem PySem.W PyProof.Rows
structure Cx where
 sc:Scope
 vis:List (Option Str)
structure Px where
 K:Frag
 S:Sig
 fa:Nat->Addr
 ca:Nat->Addr
 /-- loops may stand eW (no exception is handled) -/
 loud:Bool
 /-- what may be called: all,or these -/
 ok:Option (List Nat)
 /-- what may be called while an exception is handled -/
 qok:List Nat
noncomputable def Px.can (P:Px) (k:Nat):Bool:=match P.ok with
 | none=>true
 | some l=>l.contains k
noncomputable def Px.quiet (P:Px):Px:={ P with loud:=false,ok:=some P.qok,qok:=[] }
noncomputable def dC7 (Γ:Cx) (i:Nat) (x:Str):Bool:=(Γ.vis[i]? == some (some x))&&(Γ.sc.names.lookup x == some .local||Γ.sc.names.lookup x == some .cell||Γ.sc.names.lookup x == some .free)&&!(x == ("__debug__":Str))&&!(x == ("__classdict__":Str))
noncomputable def bJ0 (Γ:Cx) (i:Nat) (x:Str):Bool:=(Γ.vis[i]? == some (some x))&&(Γ.sc.names.lookup x == some .local||Γ.sc.names.lookup x == some .cell)
noncomputable def bJ1 (Γ:Cx) (x:Str):Bool:=(Γ.sc.names.lookup x == some .globalImplicit)&&!(x == ("__debug__":Str))&&!(x == ("__name__":Str))
noncomputable def cD4 (P:Px) (Γ:Cx) (x:Str) (id:String):Bool:=bJ1 Γ x&&(nsIn P.K mainGlobals x == some none)&&(bootBuiltins x == some (.builtin id))
noncomputable def aJ4 (P:Px) (Γ:Cx) (x:Str) (id:String):Bool:=bJ1 Γ x&&(nsIn P.K mainGlobals x == some none)&&(bootBuiltins x == some (.type id))
noncomputable def isFd (d:Data):Bool:=match d with
 | .func _=>true
 | _=>false
noncomputable def dC8 (P:Px) (Γ:Cx) (k:Nat) (x:Str):Bool:=P.can k&&bJ1 Γ x&&(nsIn P.K mainGlobals x == some (some (.ref (P.fa k))))&&(P.K.lookup (P.fa k)).any fun o=>isFd o.data
noncomputable def isBi (P:Px) (Γ:Cx) (b:Bi) (x:Str):Bool:=match dG0 b with
 | .builtin id=>cD4 P Γ x id
 | .type id=>aJ4 P Γ x id
 | _=>false
noncomputable def cR9 (P:Px) (Γ:Cx) (c:Nat) (x:Str):Bool:=bJ1 Γ x&&(nsIn P.K mainGlobals x == some (some (.ref (P.ca c))))
noncomputable def bT0 (P:Px) (n:Nat) (x:Str):Bool:=match P.S.attrs[n]? with | some y=>y == x | none=>false
noncomputable def cS1 (P:Px) (n:Nat) (x:Str):Bool:=bT0 P n x&&P.S.cls.all fun d=>(d.meths.lookup n).isNone
noncomputable def aE7 (P:Px) (N:Addr) (D:ClsD):Nat->List Str->Bool
 | _,[]=>true
 | i,x::r=>nsIn P.K N x == some ((D.meths.lookup i).map fun k=>.ref (P.fa k))&&(match fastLookup "object" x with | some none=>true | _=>false)&&aE7 P N D (i+1) r
noncomputable def six {α:Type} (l:List α):Option (α×α×α×α×α×α):=match l with
 | []=>none
 | a::l=>match l with
  | []=>none
  | b::l=>match l with
   | []=>none
   | c::l=>match l with
    | []=>none
    | d::l=>match l with
     | []=>none
     | e::l=>match l with
      | []=>none
      | f::l=>match l with
       | []=>some (a,b,c,d,e,f)
       | _::_=>none
noncomputable def dF3 (d:Data):Option ClassData:=match d with
 | .cls cd=>some cd
 | _=>none
noncomputable def bD0 (K:Frag) (C:Addr):Option Addr:=(K.lookup C).bind fun o=>(dF3 o.data).bind fun cd=>(six o.slots.toList).bind fun q=>
 if o.cls == .type "type"&&cd.mro == [.ref C,.type "object"]&&q.2.2.2.2.1 == some (.builtin "object.__new__")&&!cd.hasDel&&cd.hasDict&&!cd.abstract&&nsOkIn K cd.ns then some cd.ns else none
noncomputable def cB5 (P:Px) (c:Nat):Bool:=match P.S.cls[c]? with
 | some d=>!d.exc&&(match d.init with | some k=>decide (k < P.S.fns.length)&&findIn P.K (.ref (P.ca c)) "__init__" == some (some (.ref (P.fa k)))&&typeIn P.K (.ref (P.fa k)) == some (.type "function") | none=>false)
  &&keepIn P.K (.ref (P.ca c))&&makesIn P.K (P.ca c)
  &&(match bD0 P.K (P.ca c) with
   | some N=>nsIn P.K N "__getattribute__" == some none&&nsIn P.K N "__getattr__" == some none&&nsIn P.K N "__setattr__" == some none&&aE7 P N d 0 P.S.attrs
   | none=>false)
  &&decide P.S.attrs.Nodup&&decide (P.S.attrs.length <= 1000)&&(d.meths.all fun q=>decide (q.2 < P.S.fns.length))
 | none=>false
noncomputable def isCst:Lt->Const->Bool
 | .none,.none=>true
 | .bool b,.bool d=>b == d
 | .int i,.int j=>i == j
 | .str x,.str y=>x == y&&PyData.strOk x
 | _,_=>false
noncomputable def dC5 (v:Value) (l:Lt):Bool:=match l with
 | .int i=>(match v with | .int j _=>i == j | _=>false)
 | .str x=>(match v with | .str y _=>x == y&&PyData.strOk x | _=>false)
 | .bool b=>(match v with | .bool c=>b == c | _=>false)
 | .none=>(match v with | .none=>true | _=>false)
noncomputable def dC9 (P:Px) (Γ:Cx) (i:Nat) (x:Str):Bool:=bJ1 Γ x&&(nsIn P.K mainGlobals x).any fun o=>o.any fun v=>(P.S.globs[i]?).any fun p=>dC5 v p.2
noncomputable def dC6:Bool->BoolOp->Bool
 | true,.And=>true
 | false,.Or=>true
 | _,_=>false
noncomputable def eV {β:Type} (d:β) (hBoolOp:BoolOp->List Expr->β) (hBinOp:Expr->Operator->Expr->β) (hUnaryOp:UnaryOp->Expr->β) (hIfExp:Expr->Expr->Expr->β) (hDict:List (Option Expr)->List Expr->β) (hSet:β) (hListComp:Expr->List Comprehension->Scope->β) (hSetComp:β) (hDictComp:β) (hCompare:Expr->List CmpOp->List Expr->β) (hCall:Expr->List Expr->List Keyword->Pos->β) (hConstant:Const->β) (hAttribute:Expr->Str->Pos->β) (hSubscript:Expr->Expr->β) (hName:Str->Pos->β) (hList:List Expr->β) (hTuple:List Expr->β) (hSlice:Option Expr->Option Expr->Option Expr->β) (e:Expr):β:=Expr.casesOn (motive_1:=fun y_=>β) e (fun a0 a1 y_=>hBoolOp a0 a1) (fun y_ y_ y_=>d) (fun a0 a1 a2 y_=>hBinOp a0 a1 a2) (fun a0 a1 y_=>hUnaryOp a0 a1) (fun y_ y_ y_ y_=>d) (fun a0 a1 a2 y_=>hIfExp a0 a1 a2) (fun a0 a1 y_=>hDict a0 a1) (fun y_ y_ y_=>hSet) (fun a0 a1 a2 y_=>hListComp a0 a1 a2) (fun y_ y_ y_ y_=>hSetComp) (fun y_ y_ y_ y_ y_=>hDictComp) (fun y_ y_ y_ y_=>d) (fun y_ y_=>d) (fun y_ y_=>d) (fun y_ y_=>d) (fun a0 a1 a2 y_=>hCompare a0 a1 a2) (fun a0 a1 a2 a3=>hCall a0 a1 a2 a3) (fun y_ y_ y_ y_=>d) (fun y_ y_=>d) (fun a0 y_ y_=>hConstant a0) (fun a0 a1 a2=>hAttribute a0 a1 a2) (fun a0 a1 y_=>hSubscript a0 a1) (fun y_ y_=>d) (fun a0 a1=>hName a0 a1) (fun a0 y_=>hList a0) (fun a0 y_ y_=>hTuple a0) (fun a0 a1 a2 y_=>hSlice a0 a1 a2)
noncomputable def cQ5:Expr->Bool:=eV true (fun y_ y_=>true) (fun y_ y_ y_=>true) (fun y_ y_=>true) (fun y_ y_ y_=>true) (fun y_ y_=>true) true (fun y_ y_ y_=>true) true true (fun y_ y_ y_=>true) (fun y_ y_ y_ y_=>true) (fun y_=>true) (fun y_ y_ y_=>true) (fun y_ y_=>true) (fun y_ y_=>true) (fun y_=>true) (fun y_=>true) (fun y_ y_ y_=>false)
noncomputable def aO6:Expr->Bool:=eV true (fun y_ y_=>true) (fun y_ y_ y_=>true) (fun y_ y_=>true) (fun y_ y_ y_=>true) (fun y_ y_=>true) false (fun y_ y_ y_=>true) true true (fun y_ y_ y_=>true) (fun y_ y_ y_ y_=>true) (fun y_=>true) (fun y_ y_ y_=>true) (fun y_ y_=>true) (fun y_ y_=>true) (fun y_=>true) (fun y_=>true) (fun y_ y_ y_=>true)
noncomputable def bI4:CE->Bool
 | .cnst .none=>true
 | _=>false
noncomputable def cD3:UnaryOp->Bool | .Not=>true | _=>false
noncomputable def aS1:Expr->Bool:=eV true (fun y_ y_=>false) (fun y_ y_ y_=>true) (fun op y_=>!cD3 op) (fun y_ y_ y_=>false) (fun y_ y_=>true) true (fun y_ y_ y_=>true) true true (fun y_ y_ y_=>false) (fun y_ y_ y_ y_=>true) (fun y_=>true) (fun y_ y_ y_=>true) (fun y_ y_=>true) (fun y_ y_=>true) (fun y_=>true) (fun y_=>true) (fun y_ y_ y_=>true)
noncomputable def aI8 (scope:Scope) (x:List Str):List (Option Str)->List (Option Str)
 | []=>x.map some
 | o::r=>(match o with | some y=>(match scope.names.lookup y with | some .free=>some y | _=>none) | none=>none)::aI8 scope x r
noncomputable def cO8 (scope:Scope) (sc:Scope):Scope:=
 { scope with names:=scope.names.map fun (n,k)=>if (k == .free&&sc.kind == .function&&sc.names.lookup n == some .cell) then (n,.cell) else (n,k) }
noncomputable def aM3 (scope:Scope) (x:List Str) (Γ:Cx):Cx:=⟨cO8 scope Γ.sc,aI8 scope x Γ.vis⟩
noncomputable def bV3 (scope:Scope) (x:List Str) (Γ:Cx):Bool:=
 scope.kind == .function&&(scope.names.all fun p=>!(p.2 == .local)||scope.names.lookup p.1 == some .local)&&(scope.names.all fun p=>!(p.2 == .cell))&&
 (scope.names.all fun p=>!(p.2 == .free)||(Γ.vis.contains (some p.1)&&(Γ.sc.names.lookup p.1 == some .cell||Γ.sc.names.lookup p.1 == some .free)))&&(x.all fun x=>scope.names.lookup x == some .local)&&decide (x.Nodup /\ (Γ.vis.filterMap id).Nodup)&&Γ.sc.kind == .function
noncomputable def aR2:Expr->Option Const:=eV none (fun y_ y_=>none) (fun y_ y_ y_=>none) (fun y_ y_=>none) (fun y_ y_ y_=>none) (fun y_ y_=>none) none (fun y_ y_ y_=>none) none none (fun y_ y_ y_=>none) (fun y_ y_ y_ y_=>none) (fun c=>some c) (fun y_ y_ y_=>none) (fun y_ y_=>none) (fun y_ y_=>none) (fun y_=>none) (fun y_=>none) (fun y_ y_ y_=>none)
noncomputable def bQ:Expr->Option (Str×Pos):=eV none (fun y_ y_=>none) (fun y_ y_ y_=>none) (fun y_ y_=>none) (fun y_ y_ y_=>none) (fun y_ y_=>none) none (fun y_ y_ y_=>none) none none (fun y_ y_ y_=>none) (fun y_ y_ y_ y_=>none) (fun y_=>none) (fun y_ y_ y_=>none) (fun y_ y_=>none) (fun x p=>some (x,p)) (fun y_=>none) (fun y_=>none) (fun y_ y_ y_=>none)
noncomputable def cY2:Expr->Option (Expr×Operator×Expr):=eV none (fun y_ y_=>none) (fun l op r=>some (l,op,r)) (fun y_ y_=>none) (fun y_ y_ y_=>none) (fun y_ y_=>none) none (fun y_ y_ y_=>none) none none (fun y_ y_ y_=>none) (fun y_ y_ y_ y_=>none) (fun y_=>none) (fun y_ y_ y_=>none) (fun y_ y_=>none) (fun y_ y_=>none) (fun y_=>none) (fun y_=>none) (fun y_ y_ y_=>none)
noncomputable def vUn:Expr->Option (UnaryOp×Expr):=eV none (fun y_ y_=>none) (fun y_ y_ y_=>none) (fun op x=>some (op,x)) (fun y_ y_ y_=>none) (fun y_ y_=>none) none (fun y_ y_ y_=>none) none none (fun y_ y_ y_=>none) (fun y_ y_ y_ y_=>none) (fun y_=>none) (fun y_ y_ y_=>none) (fun y_ y_=>none) (fun y_ y_=>none) (fun y_=>none) (fun y_=>none) (fun y_ y_ y_=>none)
noncomputable def aX5:Expr->Option (BoolOp×List Expr):=eV none (fun op es=>some (op,es)) (fun y_ y_ y_=>none) (fun y_ y_=>none) (fun y_ y_ y_=>none) (fun y_ y_=>none) none (fun y_ y_ y_=>none) none none (fun y_ y_ y_=>none) (fun y_ y_ y_ y_=>none) (fun y_=>none) (fun y_ y_ y_=>none) (fun y_ y_=>none) (fun y_ y_=>none) (fun y_=>none) (fun y_=>none) (fun y_ y_ y_=>none)
noncomputable def cH3:Expr->Option (Expr×List CmpOp×List Expr):=eV none (fun y_ y_=>none) (fun y_ y_ y_=>none) (fun y_ y_=>none) (fun y_ y_ y_=>none) (fun y_ y_=>none) none (fun y_ y_ y_=>none) none none (fun l ops cs=>some (l,ops,cs)) (fun y_ y_ y_ y_=>none) (fun y_=>none) (fun y_ y_ y_=>none) (fun y_ y_=>none) (fun y_ y_=>none) (fun y_=>none) (fun y_=>none) (fun y_ y_ y_=>none)
noncomputable def bB7:Expr->Option (List Expr):=eV none (fun y_ y_=>none) (fun y_ y_ y_=>none) (fun y_ y_=>none) (fun y_ y_ y_=>none) (fun y_ y_=>none) none (fun y_ y_ y_=>none) none none (fun y_ y_ y_=>none) (fun y_ y_ y_ y_=>none) (fun y_=>none) (fun y_ y_ y_=>none) (fun y_ y_=>none) (fun y_ y_=>none) (fun y_=>none) (fun es=>some es) (fun y_ y_ y_=>none)
noncomputable def bL7:Expr->Option (List Expr):=eV none (fun y_ y_=>none) (fun y_ y_ y_=>none) (fun y_ y_=>none) (fun y_ y_ y_=>none) (fun y_ y_=>none) none (fun y_ y_ y_=>none) none none (fun y_ y_ y_=>none) (fun y_ y_ y_ y_=>none) (fun y_=>none) (fun y_ y_ y_=>none) (fun y_ y_=>none) (fun y_ y_=>none) (fun es=>some es) (fun y_=>none) (fun y_ y_ y_=>none)
noncomputable def bL9:Expr->Option (List (Option Expr)×List Expr):=eV none (fun y_ y_=>none) (fun y_ y_ y_=>none) (fun y_ y_=>none) (fun y_ y_ y_=>none) (fun es fs=>some (es,fs)) none (fun y_ y_ y_=>none) none none (fun y_ y_ y_=>none) (fun y_ y_ y_ y_=>none) (fun y_=>none) (fun y_ y_ y_=>none) (fun y_ y_=>none) (fun y_ y_=>none) (fun y_=>none) (fun y_=>none) (fun y_ y_ y_=>none)
noncomputable def bX3:Expr->Option (Expr×Expr):=eV none (fun y_ y_=>none) (fun y_ y_ y_=>none) (fun y_ y_=>none) (fun y_ y_ y_=>none) (fun y_ y_=>none) none (fun y_ y_ y_=>none) none none (fun y_ y_ y_=>none) (fun y_ y_ y_ y_=>none) (fun y_=>none) (fun y_ y_ y_=>none) (fun x y=>some (x,y)) (fun y_ y_=>none) (fun y_=>none) (fun y_=>none) (fun y_ y_ y_=>none)
noncomputable def aR1:Expr->Option (Option Expr×Option Expr×Option Expr):=eV none (fun y_ y_=>none) (fun y_ y_ y_=>none) (fun y_ y_=>none) (fun y_ y_ y_=>none) (fun y_ y_=>none) none (fun y_ y_ y_=>none) none none (fun y_ y_ y_=>none) (fun y_ y_ y_ y_=>none) (fun y_=>none) (fun y_ y_ y_=>none) (fun y_ y_=>none) (fun y_ y_=>none) (fun y_=>none) (fun y_=>none) (fun l h s=>some (l,h,s))
noncomputable def aN4:Expr->Option (Expr×List Expr×List Keyword×Pos):=eV none (fun y_ y_=>none) (fun y_ y_ y_=>none) (fun y_ y_=>none) (fun y_ y_ y_=>none) (fun y_ y_=>none) none (fun y_ y_ y_=>none) none none (fun y_ y_ y_=>none) (fun f es kws pos=>some (f,es,kws,pos)) (fun y_=>none) (fun y_ y_ y_=>none) (fun y_ y_=>none) (fun y_ y_=>none) (fun y_=>none) (fun y_=>none) (fun y_ y_ y_=>none)
noncomputable def aF0:Expr->Option (Expr×Str×Pos):=eV none (fun y_ y_=>none) (fun y_ y_ y_=>none) (fun y_ y_=>none) (fun y_ y_ y_=>none) (fun y_ y_=>none) none (fun y_ y_ y_=>none) none none (fun y_ y_ y_=>none) (fun y_ y_ y_ y_=>none) (fun y_=>none) (fun x nm p=>some (x,nm,p)) (fun y_ y_=>none) (fun y_ y_=>none) (fun y_=>none) (fun y_=>none) (fun y_ y_ y_=>none)
noncomputable def aR3:Expr->Option (Expr×List Comprehension×Scope):=eV none (fun y_ y_=>none) (fun y_ y_ y_=>none) (fun y_ y_=>none) (fun y_ y_ y_=>none) (fun y_ y_=>none) none (fun e gs sc=>some (e,gs,sc)) none none (fun y_ y_ y_=>none) (fun y_ y_ y_ y_=>none) (fun y_=>none) (fun y_ y_ y_=>none) (fun y_ y_=>none) (fun y_ y_=>none) (fun y_=>none) (fun y_=>none) (fun y_ y_ y_=>none)
noncomputable def cH2 {α:Type}:List α->Option α | [x]=>some x | _=>none
noncomputable def cM8 {α:Type}:List α->Option (α×α) | [x,y]=>some (x,y) | _=>none
noncomputable def b9 (e:Expr):Option (Str×List Expr):=(aN4 e).bind fun q=>if q.2.2.1.isEmpty then (bQ q.1).map fun x=>(x.1,q.2.1) else none
noncomputable def mSrc (P:Px) (Γ:Cx) (f:List Expr->Bool) (k:IK) (e:Expr):Bool:=P.loud&&match k with
 | .expr=>f [e]
 | .range=>(b9 e).any fun q=>aJ4 P Γ q.1 "range"&&aR q.2&&f q.2
 | .enum=>false
noncomputable def vTg (l:Bool) (n:Nat) (t:CT) (e:Expr):Option (List Str):=match t with
 | .one i=>if i=n then (bQ e).map fun x=>[x.1] else none
 | .many is=>if l=true /\ is=[n,n+1] then (bB7 e).bind fun es=>(cM8 es).bind fun p=>(bQ p.1).bind fun x=>(bQ p.2).map fun y=>[x.1,y.1] else none
noncomputable def cC4 (P:Px) (Γ:Cx) (f:List Expr->Bool) (k:IK) (t:CT) (e:Expr):Bool:=match k with
 | .enum=>P.loud&&((match t with | .many _=>true | .one _=>false)&&(b9 e).any fun q=>aJ4 P Γ q.1 "enumerate"&&aR q.2&&f q.2)
 | k=>mSrc P Γ f k e
noncomputable def isTy (P:Px) (Γ:Cx) (t:Ty) (y:Str):Bool:=match t with
 | .cls _=>false
 | t=>aJ4 P Γ y (dR t)&&!(dR t == "")
mutual
noncomputable def mE (P:Px) (Γ:Cx):CE->Expr->Bool
 | .cnst v,e=>(aR2 e).any fun c=>isCst v c
 | .var i,e=>(bQ e).any fun x=>dC7 Γ i x.1
 | .bin op a b,e=>(cY2 e).any fun q=>decide (op=q.2.1)&&mE P Γ a q.1&&mE P Γ b q.2.2
 | .neg _,_=>false
 | .not a,e=>(vUn e).any fun q=>cD3 q.1&&mE P Γ a q.2
 | .boolop c as,e=>(aX5 e).any fun q=>dC6 c q.1&&mEs P Γ as q.2&&!as.isEmpty
 | .cmp a ops bs,e=>(cH3 e).any fun q=>decide (ops=q.2.1)&&mE P Γ a q.1&&mEs P Γ bs q.2.2&&decide (ops.length=bs.length)&&!bs.isEmpty&&q.2.2.all aO6
 | .ite _ _ _,_=>false
 | .tup as,e=>(bB7 e).any fun es=>mEs P Γ as es&&aR es&&decide (as.length <= 1000)
 | .list as,e=>(bL7 e).any fun es=>mEs P Γ as es&&aR es&&decide (as.length <= 1000)
 | .dict ks vs,e=>(bL9 e).any fun q=>if ks.isEmpty then vs.isEmpty&&q.1.isEmpty&&q.2.isEmpty else false
 | .idx a i,e=>(bX3 e).any fun q=>cQ5 q.2&&mE P Γ a q.1&&mE P Γ i q.2
 | .slice a lo hi st,e=>(bX3 e).any fun q=>mE P Γ a q.1&&(aR1 q.2).any fun t=>t.1.elim (bI4 lo) (fun l=>mE P Γ lo l)&&t.2.1.elim (bI4 hi) (fun l=>mE P Γ hi l)&&t.2.2.elim (bI4 st) (fun l=>mE P Γ st l)
 | .call k as,e=>(b9 e).any fun q=>dC8 P Γ k q.1&&aR q.2&&mEs P Γ as q.2
 | .bi b as,e=>(b9 e).any fun q=>P.loud&&(cW6 b&&isBi P Γ b q.1&&aR q.2&&mEs P Γ as q.2)
 | .smeth o n as,e=>(aN4 e).any fun q=>(aF0 q.1).any fun t=>t.2.1 == Str.ofString (bO8 n)&&eQ t.1&&aR q.2.1&&decide (q.2.1.length < 29)&&t.2.2.endLine == q.2.2.2.line&&q.2.2.1.isEmpty&&mE P Γ o t.1&&mEs P Γ as q.2.1
 | .isi a t,e=>(b9 e).any fun q=>(cM8 q.2).any fun p=>(bQ p.2).any fun y=>cD4 P Γ q.1 "isinstance"&&isTy P Γ t y.1&&aR [p.1]&&mE P Γ a p.1
 | .listrange as,e=>(b9 e).any fun q=>(cH2 q.2).any fun e1=>(b9 e1).any fun p=>P.loud&&aJ4 P Γ q.1 "list"&&aJ4 P Γ p.1 "range"&&aR p.2&&mEs P Γ as p.2
 | .comp elt t nl k src ifs,e=>(aR3 e).any fun q=>(cH2 q.2.1).any fun g=>(vTg P.loud Γ.vis.length t g.target).any fun x=>decide (nl=x.length)&&g.is_async == 0&&bV3 q.2.2 x Γ&&aO6 g.iter&&mSrc P Γ (fun es=>mEs P Γ src es) k g.iter&&cC5 P (aM3 q.2.2 x Γ) ifs g.ifs&&mE P (aM3 q.2.2 x Γ) elt q.1
 | .glob i,e=>(bQ e).any fun x=>dC9 P Γ i x.1
 | .fnv _,_=>false
 | .attr a n,e=>(aF0 e).any fun q=>eQ q.1&&cS1 P n q.2.1&&mE P Γ a q.1
 | .callv _ _,_=>false
 | .new c as,e=>(b9 e).any fun q=>P.ok.isNone&&cR9 P Γ c q.1&&cB5 P c&&aR q.2&&mEs P Γ as q.2
 | .meth o n as,e=>(aN4 e).any fun q=>(aF0 q.1).any fun t=>P.ok.isNone&&bT0 P n t.2.1&&eQ t.1&&aR q.2.1&&decide (q.2.1.length < 29)&&t.2.2.endLine == q.2.2.2.line&&q.2.2.1.isEmpty&&mE P Γ o t.1&&mEs P Γ as q.2.1
noncomputable def mEs (P:Px) (Γ:Cx):List CE->List Expr->Bool
 | [],es=>es.isEmpty
 | a::as,es=>match es with
  | []=>false
  | e::es=>mE P Γ a e&&mEs P Γ as es
noncomputable def mB (P:Px) (Γ:Cx):CB->Expr->Bool
 | .not b,e=>(vUn e).any fun q=>cD3 q.1&&mB P Γ b q.2
 | .all c bs,e=>(aX5 e).any fun q=>dC6 c q.1&&cC5 P Γ bs q.2
 | .val c,e=>(aS1 e||(cH3 e).isSome)&&mE P Γ c e
noncomputable def cC5 (P:Px) (Γ:Cx):List CB->List Expr->Bool
 | [],es=>es.isEmpty
 | b::bs,es=>match es with
  | []=>false
  | e::es=>mB P Γ b e&&cC5 P Γ bs es
end
noncomputable def aB4:Expr->Bool:=eV false (fun y_ y_=>false) (fun y_ y_ y_=>false) (fun y_ y_=>false) (fun y_ y_ y_=>false) (fun y_ y_=>false) false (fun y_ y_ y_=>true) true true (fun y_ y_ y_=>false) (fun y_ y_ y_ y_=>false) (fun y_=>false) (fun y_ y_ y_=>false) (fun y_ y_=>false) (fun y_ y_=>false) (fun y_=>false) (fun y_=>false) (fun y_ y_ y_=>false)
noncomputable def sV {β:Type} (d:β) (hReturn:Option Expr->β) (hAssign:List Expr->Expr->Pos->β) (hFor:Expr->Expr->List Stmt->List Stmt->β) (hWhile:Expr->List Stmt->List Stmt->β) (hIf:Expr->List Stmt->List Stmt->β) (hRaise:Option Expr->Option Expr->β) (hTry:List Stmt->List ExceptHandler->List Stmt->List Stmt->β) (hExpr:Expr->β) (hPass:β) (hContinue:β) (e:Stmt):β:=Stmt.casesOn (motive_2:=fun y_=>β) e (fun y_ y_ y_ y_ y_ y_ y_ y_ y_ y_=>d) (fun y_ y_ y_ y_ y_ y_ y_ y_ y_ y_=>d) (fun y_ y_ y_ y_ y_ y_ y_ y_ y_ y_ y_=>d) (fun a0 y_=>hReturn a0) (fun y_ y_=>d) (fun a0 a1 a2=>hAssign a0 a1 a2) (fun y_ y_ y_ y_ y_ y_ y_=>d) (fun y_ y_ y_ y_=>d) (fun y_ y_ y_ y_ y_=>d) (fun a0 a1 a2 a3 y_=>hFor a0 a1 a2 a3) (fun y_ y_ y_ y_ y_=>d) (fun a0 a1 a2 y_=>hWhile a0 a1 a2) (fun a0 a1 a2 y_=>hIf a0 a1 a2) (fun y_ y_ y_=>d) (fun y_ y_ y_=>d) (fun y_ y_ y_=>d) (fun a0 a1 y_=>hRaise a0 a1) (fun a0 a1 a2 a3 y_=>hTry a0 a1 a2 a3) (fun y_ y_ y_ y_ y_=>d) (fun y_ y_ y_=>d) (fun y_ y_=>d) (fun y_ y_ y_ y_=>d) (fun y_ y_=>d) (fun y_ y_=>d) (fun a0 y_=>hExpr a0) (fun y_=>hPass) (fun y_=>d) (fun y_=>hContinue)
noncomputable def cY3:Stmt->Option (List Expr×Expr×Pos):=sV none (fun y_=>none) (fun ts v pos=>some (ts,v,pos)) (fun y_ y_ y_ y_=>none) (fun y_ y_ y_=>none) (fun y_ y_ y_=>none) (fun y_ y_=>none) (fun y_ y_ y_ y_=>none) (fun y_=>none) none none
noncomputable def cY1:Stmt->Option Expr:=sV none (fun y_=>none) (fun y_ y_ y_=>none) (fun y_ y_ y_ y_=>none) (fun y_ y_ y_=>none) (fun y_ y_ y_=>none) (fun y_ y_=>none) (fun y_ y_ y_ y_=>none) (fun v=>some v) none none
noncomputable def cX9:Stmt->Option (Expr×List Stmt×List Stmt):=sV none (fun y_=>none) (fun y_ y_ y_=>none) (fun y_ y_ y_ y_=>none) (fun y_ y_ y_=>none) (fun t x y=>some (t,x,y)) (fun y_ y_=>none) (fun y_ y_ y_ y_=>none) (fun y_=>none) none none
noncomputable def cY0:Stmt->Option (Expr×Expr×List Stmt×List Stmt):=sV none (fun y_=>none) (fun y_ y_ y_=>none) (fun t i b e=>some (t,i,b,e)) (fun y_ y_ y_=>none) (fun y_ y_ y_=>none) (fun y_ y_=>none) (fun y_ y_ y_ y_=>none) (fun y_=>none) none none
noncomputable def vWh:Stmt->Option (Expr×List Stmt×List Stmt):=sV none (fun y_=>none) (fun y_ y_ y_=>none) (fun y_ y_ y_ y_=>none) (fun t b e=>some (t,b,e)) (fun y_ y_ y_=>none) (fun y_ y_=>none) (fun y_ y_ y_ y_=>none) (fun y_=>none) none none
noncomputable def cX8:Stmt->Option (Option Expr):=sV none (fun v=>some v) (fun y_ y_ y_=>none) (fun y_ y_ y_ y_=>none) (fun y_ y_ y_=>none) (fun y_ y_ y_=>none) (fun y_ y_=>none) (fun y_ y_ y_ y_=>none) (fun y_=>none) none none
noncomputable def bY3:Stmt->Bool:=sV false (fun y_=>false) (fun y_ y_ y_=>false) (fun y_ y_ y_ y_=>false) (fun y_ y_ y_=>false) (fun y_ y_ y_=>false) (fun y_ y_=>false) (fun y_ y_ y_ y_=>false) (fun y_=>false) false true
noncomputable def bX6:Stmt->Bool:=sV false (fun y_=>false) (fun y_ y_ y_=>false) (fun y_ y_ y_ y_=>false) (fun y_ y_ y_=>false) (fun y_ y_ y_=>false) (fun y_ y_=>false) (fun y_ y_ y_ y_=>false) (fun y_=>false) true false
mutual
noncomputable def qS:CS->Bool
 | .exp _=>true
 | .ret _=>true
 | .ite _ a b=>qSs a&&qSs b
 | _=>false
noncomputable def qSs:List CS->Bool
 | []=>true
 | c::cs=>qS c&&qSs cs
end
noncomputable def bQ9 (Γ:Cx) (y:Str×Pos) (v:Expr):Bool:=!aB4 v||(aR3 v).any fun q=>!(Γ.sc.names.lookup y.1 == some .local)||(y.2.line == v.pos.line&&!(q.2.2.names.any fun (n,k)=>n == y.1&&(k == .local||k == .cell)))
noncomputable def mT (Γ:Cx) (t:CT) (e:Expr):Bool:=match t with
 | .one i=>(bQ e).any fun x=>bJ0 Γ i x.1
 | .many _=>false
noncomputable def mTs (Γ:Cx):List Nat->List Expr->Bool
 | [],es=>es.isEmpty
 | i::is,es=>match es with
  | []=>false
  | e::es=>(bQ e).any (fun x=>bJ0 Γ i x.1)&&mTs Γ is es
noncomputable def mTF (Γ:Cx) (t:CT) (e:Expr):Bool:=match t with
 | .one i=>(bQ e).any fun x=>bJ0 Γ i x.1
 | .many is=>(bB7 e).any fun es=>mTs Γ is es
noncomputable def mAsg (P:Px) (Γ:Cx) (t:CTgt) (c:CE) (tg v:Expr):Bool:=match t with
 | .one t=>match t with
  | .one i=>mT Γ (.one i) tg&&mE P Γ c v&&(bQ tg).any fun y=>bQ9 Γ y v
  | .many is=>P.loud&&mTF Γ (.many is) tg&&mE P Γ c v&&!aB4 v&&(bB7 v).isNone
 | .idx o i=>(bX3 tg).any fun q=>mE P Γ o q.1&&mE P Γ i q.2&&mE P Γ c v&&!aB4 v
 | .attr o n=>(aF0 tg).any fun q=>cS1 P n q.2.1&&mE P Γ o q.1&&mE P Γ c v&&!aB4 v
 | .idx2 _ _ _ _=>false
mutual
noncomputable def mS (P:Px) (Γ:Cx):CS->Stmt->Bool
 | .asg t e,s=>(cY3 s).any fun q=>(cH2 q.1).any fun tg=>mAsg P Γ t e tg q.2.1
 | .exp e,s=>(cY1 s).any fun v=>mE P Γ e v&&!aB4 v
 | .ite c a b,s=>(cX9 s).any fun q=>mB P Γ c q.1&&mSs P Γ a q.2.1&&mSs P Γ b q.2.2
 | .for_ k t src body,s=>(cY0 s).any fun q=>q.2.2.2.isEmpty&&mTF Γ t q.1&&aO6 q.2.1&&cC4 P Γ (fun es=>mEs P Γ src es) k t q.2.1&&mSs P Γ body q.2.2.1
 | .wh c body,s=>(vWh s).any fun q=>q.2.2.isEmpty&&mB P Γ c q.1&&mSs P Γ body q.2.1
 | .ret e,s=>(cX8 s).any fun o=>o.any fun v=>mE P Γ e v
 | .cont,s=>bY3 s
 | .pass,s=>bX6 s
 | .rse _ _,_=>true
 | .try_ _ _ _ _,_=>false
noncomputable def mSs (P:Px) (Γ:Cx):List CS->List Stmt->Bool
 | [],ss=>ss.isEmpty
 | a::as,ss=>match ss with
  | []=>false
  | s::ss=>mS P Γ a s&&mSs P Γ as ss
end
noncomputable def mF (P:Px) (k:Nat) (d:FnD):Bool:=match P.K.lookup (P.fa k) with
 | some o=>(match o.data with
  | .func fd=>(match fd.body with
   | .stmts body=>o.cls == .type "function"&&bT8 P.K fd d&&mSs P ⟨fd.scope,d.names.map some⟩ d.body body
   | _=>false)
  | _=>false)
 | none=>false
noncomputable def mFs (P:Px):Nat->List FnD->Bool
 | _,[]=>true
 | k,d::ds=>(!P.can k||mF P k d)&&mFs P (k+1) ds
end Mini
namespace Mini
open PySem PySem.W PyProof.Rows
structure Fx (W:Wd) (P:Px) (A:Around) (fs:List Env) (n:Nat) (F:Fns):Prop where
 gl:Gl W P.K
 R:AR A fs n
 S:W.S=P.S
 fa:W.fa=P.fa
 ca:W.ca=P.ca
 hh:P.loud=true->A.handled=none
 calls:∀ k,P.can k=true->SiF W A fs (.ref (W.fa k)) (F k)
 new:P.ok=none->∀ k,k < P.S.fns.length->SiK W (born A) fs (.ref (W.fa k)) (F k)
 qcalls:∀ A',AR A' fs n->∀ k,P.qok.contains k=true->SiF W A' fs (.ref (W.fa k)) (F k)
 objs:P.ok=none->∀ k,k < P.S.fns.length->∃ o fd,P.K.lookup (P.fa k)=some o /\ o.data=.func fd /\ o.cls=.type "function"
section
variable {W:Wd} {P:Px} {fs:List Env} {env:Env} {A:Around} {n:Nat} {F:Fns} {pos p:Pos} {Γ:Cx}
theorem aY {a b:Bool} (h:(a&&b)=true):a=true /\ b=true:=Bool.and_eq_true_iff.mp h
theorem cI6 {a:Bool} (h:(!a)=true):a=false:=(Bool.not_eq_true' _).mp h
theorem aU3 {x:Str} (hsc:env.scope=Γ.sc) (h:bJ1 Γ x=true):env.kindOf x=some .globalImplicit /\ (x == ("__debug__":Str))=false /\ (x == ("__name__":Str))=false:=by
 refine ⟨?_,cI6 (aY (aY h).1).2,cI6 (aY h).2⟩
 show env.scope.names.lookup x=_
 rw [hsc];exact eq_of_beq (aY (aY h).1).1
theorem cK5 {x:Str} {id:String} (hsc:env.scope=Γ.sc) (h:cD4 P Γ x id=true):env.kindOf x=some .globalImplicit /\ (x == ("__debug__":Str))=false /\ (x == ("__name__":Str))=false /\ nsIn P.K mainGlobals x=some none /\ bootBuiltins x=some (.builtin id):=
 have g:=aU3 hsc (aY (aY h).1).1
 ⟨g.1,g.2.1,g.2.2,eq_of_beq (aY (aY h).1).2,eq_of_beq (aY h).2⟩
theorem aK5 {x:Str} {id:String} (hsc:env.scope=Γ.sc) (h:aJ4 P Γ x id=true):env.kindOf x=some .globalImplicit /\ (x == ("__debug__":Str))=false /\ (x == ("__name__":Str))=false /\ nsIn P.K mainGlobals x=some none /\ bootBuiltins x=some (.type id):=
 have g:=aU3 hsc (aY (aY h).1).1
 ⟨g.1,g.2.1,g.2.2,eq_of_beq (aY (aY h).1).2,eq_of_beq (aY h).2⟩
theorem fd_of {d:Data} (h:isFd d=true):∃ fd,d=.func fd:=by
 cases d with
 | func fd=>exact ⟨fd,rfl⟩
 | _=>exact absurd h Bool.false_ne_true
theorem dD4 {x:Str} {k:Nat} (hsc:env.scope=Γ.sc) (h:dC8 P Γ k x=true):P.can k=true /\ env.kindOf x=some .globalImplicit /\ (x == ("__debug__":Str))=false /\ nsIn P.K mainGlobals x=some (some (.ref (P.fa k))) /\ ∃ o fd,P.K.lookup (P.fa k)=some o /\ o.data=.func fd:=by
 have h1:=aY (aY h).1
 have g:=aU3 hsc (aY h1.1).2
 refine ⟨(aY h1.1).1,g.1,g.2.1,eq_of_beq h1.2,?_⟩
 have h2:=(aY h).2
 cases q:P.K.lookup (P.fa k) with
 | none=>rw [q] at h2;exact absurd h2 Bool.false_ne_true
 | some o=>rw [q] at h2;exact (fd_of h2).elim fun fd e=>⟨o,fd,rfl,e⟩
theorem dA6 {x:Str} {c:Nat} (hsc:env.scope=Γ.sc) (h:cR9 P Γ c x=true):env.kindOf x=some .globalImplicit /\ (x == ("__debug__":Str))=false /\ nsIn P.K mainGlobals x=some (some (.ref (P.ca c))):=
 have g:=aU3 hsc (aY h).1
 ⟨g.1,g.2.1,eq_of_beq (aY h).2⟩
theorem bA8 {S:Sig}:∀ {cs:List CE} {r:Lo} {m:MH} {vs:List V} {m':MH},evs S F cs r m=.ok vs m'->vs.length=cs.length
 | [],r,m,vs,m',h=>by cases h;rfl
 | c::cs,r,m,vs,m',h=>by
  have h':(ev S F c r m).bind (fun x=>bnd (evs S F cs r) fun xs=>ret (x::xs))=.ok vs m':=h
  cases e1:ev S F c r m with
  | bad=>rw [e1] at h';cases h'
  | exc k m1=>rw [e1] at h';cases h'
  | ok x m1=>
   rw [e1] at h'
   have h2:(evs S F cs r m1).bind (fun xs=>ret (x::xs))=.ok vs m':=h'
   cases e2:evs S F cs r m1 with
   | bad=>rw [e2] at h2;cases h2
   | exc k m2=>rw [e2] at h2;cases h2
   | ok xs m2=>
    rw [e2] at h2;cases h2
    simp [bA8 e2]
theorem cP8 {c:Bool} {op:BoolOp} (h:dC6 c op=true):(op=.And /\ c=true) \/ (op=.Or /\ c=false):=by
 cases c <;> cases op <;> first | (exact absurd h Bool.false_ne_true) | simp
theorem bC5 (scope:Scope) (x:List Str):∀ vis,(aI8 scope x vis).length=vis.length+x.length
 | []=>by rw [aI8,List.length_map,List.length_nil,Nat.zero_add]
 | _::r=>by show (aI8 scope x r).length+1=_;rw [bC5 scope x r,List.length_cons,Nat.add_right_comm]
set_option tactic.hygienic true in
theorem aE2 (scope:Scope) (x:List Str):∀ (vis:List (Option Str)) (i:Nat) (y:Str),(aI8 scope x vis)[i]?=some (some y)->(vis.length <= i /\ x[i - vis.length]?=some y) \/ (vis[i]?=some (some y) /\ scope.names.lookup y=some .free)
 | [],i,y,h=>by
  rw [aI8,List.getElem?_map] at h
  refine .inl ⟨Nat.zero_le _,?_⟩
  cases q:x[i]? with
  | none=>rw [q] at h;cases h
  | some z=>rw [q] at h;exact Option.some.inj h
 | o::r,i,y,h=>by
  cases i with
  | zero=>
   simp only [aI8,List.getElem?_cons_zero,Option.some.injEq] at h
   right
   split at h
   ·split at h
    ·rename_i e;cases h;exact ⟨rfl,e⟩
    ·cases h
   ·cases h
  | succ i=>
   simp only [aI8,List.getElem?_cons_succ] at h
   rcases aE2 scope x r i y h with ⟨a,b⟩ | a
   ·exact .inl ⟨Nat.succ_le_succ a,by rw [List.length_cons,Nat.add_sub_add_right];exact b⟩
   ·exact .inr (by simpa using a)
theorem aA2 (scope:Scope) (x:List Str) (k:Nat):∀ (vis:List (Option Str)),(aI8 scope x vis)[vis.length+k]?=x[k]?.map some
 | []=>by rw [aI8,List.length_nil,Nat.zero_add,List.getElem?_map]
 | _::r=>by
  rw [List.length_cons,Nat.add_right_comm]
  exact aA2 scope x k r
theorem aS9:∀ {vis:List (Option Str)},(vis.filterMap id).Nodup->∀ (i j:Nat) (y:Str),vis[i]?=some (some y)->vis[j]?=some (some y)->i=j
 | [],_,i,j,y,h,_=>by simp at h
 | o::r,hn,i,j,y,h1,h2=>by
  have tail:(r.filterMap id).Nodup:=by
   cases o with
   | none=>simpa using hn
   | some z=>simp at hn;exact hn.2
  have no:o=some y->∀ k:Nat,r[k]?=some (some y)->False:=fun e k hk=>by
   subst e
   simp at hn
   exact hn.1 (List.mem_of_getElem? hk)
  cases i with
  | zero=>
   cases j with
   | zero=>rfl
   | succ j=>simp at h1 h2;exact (no h1 j h2).elim
  | succ i=>
   cases j with
   | zero=>simp at h1 h2;exact (no h2 i h1).elim
   | succ j=>simp at h1 h2;rw [aS9 tail i j y h1 h2]
theorem aW1 {scope:Scope} {x:List Str} (hsc:env.scope=Γ.sc) (h:bV3 scope x Γ=true):CompOk scope env Γ.vis (aI8 scope x Γ.vis) x.length:=by
 simp only [bV3,Bool.and_eq_true,beq_iff_eq,decide_eq_true_eq] at h
 obtain ⟨⟨⟨⟨⟨⟨h1,h2⟩,h3⟩,h4⟩,h5⟩,h6⟩,h7⟩:=h
 refine ⟨h1,fun q hq e=>?_,fun q hq e=>?_,fun q hq e=>?_,fun i y hy=>?_,fun i j y h1' h2'=>?_,bC5 ..⟩
 ·have:=List.all_eq_true.mp h2 q hq
  simpa [e] using this
 ·have:=List.all_eq_true.mp h3 q hq
  simp [e] at this
 ·have:=List.all_eq_true.mp h4 q hq
  simp only [e,beq_self_eq_true,Bool.not_true,Bool.false_or,Bool.and_eq_true,Bool.or_eq_true,beq_iff_eq] at this
  rcases this with ⟨a,b⟩
  rcases List.getElem?_of_mem (List.contains_iff_mem.mp a) with ⟨i,hi⟩
  refine ⟨i,hi,?_⟩
  show env.scope.names.lookup q.1=_ \/ env.scope.names.lookup q.1=_
  rw [hsc];exact b
 ·rcases aE2 scope x Γ.vis i y hy with ⟨a,b⟩ | ⟨a,b⟩
  ·exact .inl ⟨a,beq_iff_eq.mp (List.all_eq_true.mp h5 y (List.mem_of_getElem? b))⟩
  ·exact .inr ⟨a,b⟩
 ·have loc:∀ {i:Nat},x[i]?=some y->scope.names.lookup y=some .local:=fun b=>beq_iff_eq.mp (List.all_eq_true.mp h5 y (List.mem_of_getElem? b))
  rcases aE2 scope x Γ.vis i y h1' with ⟨a,b⟩ | ⟨a,b⟩ <;> rcases aE2 scope x Γ.vis j y h2' with ⟨c,d⟩ | ⟨c,d⟩
  ·have:=(List.getElem?_inj (List.getElem?_eq_some_iff.mp b).1 h6.1).mp (b.trans d.symm)
   lia
  ·rw [loc b] at d;cases d
  ·rw [loc d] at b;cases b
  ·exact aS9 h6.2 i j y a c
theorem aE3 {scope:Scope} (hsc:env.scope=Γ.sc):relabel scope env=cO8 scope Γ.sc:=by
 unfold relabel cO8 Env.kindOf
 rw [hsc]
theorem bC4 {iter:Expr} (h:aO6 iter=true) (x:Value):foldedSetIterable iter env x=Pure.pure x:=by
 unfold foldedSetIterable
 cases iter <;> first | (exact absurd h Bool.false_ne_true) | rfl
theorem bD8 {op:CmpOp} {e:Expr} (h:aO6 e=true):behindInMarks op e=false:=by
 cases e <;> first | (exact absurd h Bool.false_ne_true) | rfl
set_option tactic.hygienic true in
theorem aO3 {e:Expr} (h:aS1 e=true):isTrue e env (eval e env)=(do let v <- eval e env;PySem.standAt e.pos;PySem.holding [v] (truthy v)):=by
 cases e <;> first | rfl | (exact absurd h Bool.false_ne_true) | skip
 rename_i op x pos
 cases op <;> first | rfl | (exact absurd h Bool.false_ne_true)
end
end Mini
namespace Mini
open PySem PySem.W PyProof.Rows
theorem aD {C:Prop} (h:false=true):C:=by cases h
theorem aB {a b:Bool} (h:(a&&b)=true):a=true /\ b=true:=by cases a <;> cases b <;> first | (exact ⟨rfl,rfl⟩) | (exact aD h)
theorem dW {p:Prop} [Decidable p] (h:decide p=true):p:=of_decide_eq_true h
section
variable {W:Wd} {P:Px} {fs:List Env} {env:Env} {A:Around} {n:Nat} {F:Fns} {pos p:Pos} {Γ:Cx} {K:Frag} {h:Heap}
theorem cZ5 {α:Type} {l:List α} {q:α×α×α×α×α×α} (h:six l=some q):l=[q.1,q.2.1,q.2.2.1,q.2.2.2.1,q.2.2.2.2.1,q.2.2.2.2.2]:=by
 cases l with
 | nil=>cases h
 | cons a l=>cases l with
  | nil=>cases h
  | cons b l=>cases l with
   | nil=>cases h
   | cons c l=>cases l with
    | nil=>cases h
    | cons d l=>cases l with
     | nil=>cases h
     | cons e l=>cases l with
      | nil=>cases h
      | cons f l=>cases l with
       | nil=>cases h;rfl
       | cons y_ y_=>cases h
theorem cF9 {d:Data} {cd:ClassData} (h:dF3 d=some cd):d=.cls cd:=by
 cases d <;> cases h
 rfl
theorem bQ4 {C N:Addr} (X:K.In h) (e:bD0 K C=some N):(∃ nm q bs sn sub col dd k0 k1 k2 k3 k5,h.get? C=some (excClassObj nm q C N bs [.type "object"] true sn sub false col dd k0 k1 k2 k3 k5 "object.__new__")) /\ nsOkIn K N=true:=by
 refine hide fun G_ g_=>?_
 rcases Option.bind_eq_some_iff.mp e with ⟨o,ho,e⟩
 rcases Option.bind_eq_some_iff.mp e with ⟨cd,hd,e⟩
 rcases Option.bind_eq_some_iff.mp e with ⟨q,hq,e⟩
 replace hd:=cF9 hd
 replace hq:=cZ5 hq
 rcases o with ⟨oc,dd,od,sl⟩
 rcases q with ⟨k0,k1,k2,k3,k4,k5⟩
 dsimp only at hd hq e
 by_cases hc:(oc == .type "type"&&cd.mro == [.ref C,.type "object"]&&k4 == some (.builtin "object.__new__")&&!cd.hasDel&&cd.hasDict&&!cd.abstract&&nsOkIn K cd.ns)=true
 ·rw [if_pos hc] at e
  cases e
  simp only [Bool.and_eq_true,beq_iff_eq,Bool.not_eq_true'] at hc
  rcases hc with ⟨⟨⟨⟨⟨⟨rfl,hm⟩,rfl⟩,hdel⟩,hdict⟩,hab⟩,hok⟩
  rcases cd with ⟨nm,bs,mro,ns,qn,hd',sn,sub,ab,col,del⟩
  dsimp only at hm hdel hdict hab hok
  subst hm hdel hdict hab hd
  have hsl:sl=#[k0,k1,k2,k3,some (.builtin "object.__new__"),k5]:=by
   rcases sl with ⟨l⟩
   have hq:l=_:=hq
   rw [hq]
  subst hsl
  exact g_ ⟨⟨nm,qn,bs,sn,sub,col,dd,k0,k1,k2,k3,k5,X _ _ ho⟩,hok⟩
 ·rw [if_neg hc] at e;cases e
theorem dA9 {N:Addr} {mN:Str->Option Value} {x:Str} {v:Value} (X:K.In h) (G:h.Ns N mN) (e:nsIn K N x=some (some v)):mN x=some v:=by
 obtain ⟨ob,es,ep,ho,hd,y_,hf⟩:=G
 rw [<- hf x]
 cases q:K.lookup N with
 | none=>unfold nsIn at e;rw [q] at e;cases e
 | some o2=>
  have z:=(X _ _ q).symm.trans ho
  cases z
  rcases o2 with ⟨o1,o5,o3,o4⟩
  have hd:o3=_:=hd
  subst hd
  unfold nsIn at e
  rw [q] at e
  have e:(match es.toList.find? (·.key.isStr x) with | some en=>some (some en.val) | none=>if es.toList.any (·.refKey) then none else some none)=some (some v):=e
  unfold nsFind findBy
  rw [<- Array.find?_toList]
  cases he:es.toList.find? (·.key.isStr x) with
  | none=>
   rw [he] at e
   have e:(if es.toList.any (·.refKey) then none else some none)=some (some v):=e
   by_cases w:es.toList.any (·.refKey)=true
   ·rw [if_pos w] at e;cases e
   ·rw [if_neg w] at e;cases e
  | some en=>
   rw [he] at e
   have e:some (some en.val)=some (some v):=e
   cases e
theorem dB5 {x:Str} (e:fastLookup "object" x=some none):typeLookup (.type "object") x=Pure.pure none:=by
 rw [typeLookup_type,builtinLookup_eq_fast,e]
theorem aQ7 {N:Addr} {D:ClsD}:∀ {xs:List Str} {j i:Nat} {x:Str},aE7 P N D j xs=true->xs[i]?=some x->nsIn P.K N x=some ((D.meths.lookup (j+i)).map fun k=>.ref (P.fa k)) /\ fastLookup "object" x=some none
 | [],_,_,_,_,e=>by simp at e
 | y::ys,j,i,x,h,e=>by
  rcases aB (b:=aE7 P N D (j+1) ys) h with ⟨h,h3⟩
  have h2:=(aB h).2
  have h1:=(aB h).1
  cases i with
  | zero=>
   have q:y=x:=by simpa using e
   subst q
   refine ⟨beq_iff_eq.mp h1,?_⟩
   split at h2
   ·assumption
   ·cases h2
  | succ i=>
   have:=aQ7 (i:=i) h3 (by simpa using e)
   rw [show j+(i+1)=j+1+i by lia]
   exact this
theorem dF2 (X:Fx W P A fs n F) {c:Nat} (h:cB5 P c=true):∃ D N mN k0,ClsOk W c D N mN /\ D.init=some k0 /\ k0 < P.S.fns.length /\ keepIn P.K (.ref (W.ca c))=true /\ makesIn P.K (W.ca c)=true /\ findIn P.K (.ref (W.ca c)) "__init__"=some (some (.ref (W.fa k0))) /\ typeIn P.K (.ref (W.fa k0))=some (.type "function"):=by
 refine hide fun G_ g_=>?_
 unfold cB5 at h
 cases hD:P.S.cls[c]? with
 | none=>rw [hD] at h;exact aD h
 | some D=>
  rw [hD] at h
  dsimp only at h
  have h8:=(aB h).2
  have h:=(aB h).1
  have h7:=(aB h).2
  have h:=(aB h).1
  have h6:=(aB h).2
  have h:=(aB h).1
  have h5:=(aB h).2
  have h:=(aB h).1
  have h4:=(aB h).2
  have h:=(aB h).1
  have h3:=(aB h).2
  have h:=(aB h).1
  have h2:=(aB h).2
  have h1:=(aB h).1
  cases hi:D.init with
  | none=>rw [hi] at h2;exact aD h2
  | some k0=>
   rw [hi] at h2
   dsimp only at h2
   have t3:=(aB h2).2
   have h2:=(aB h2).1
   have t2:=(aB h2).2
   have t1:=(aB h2).1
   cases hN:bD0 P.K (P.ca c) with
   | none=>rw [hN] at h5;exact aD h5
   | some N=>
    rw [hN] at h5
    dsimp only at h5
    have g4:=(aB h5).2
    have h5:=(aB h5).1
    have g3:=(aB h5).2
    have h5:=(aB h5).1
    have g2:=(aB h5).2
    have g1:=(aB h5).1
    rcases bQ4 X.gl.X hN with ⟨ob,hok⟩
    have ns:W.base.Ns N (W.base.nsMap N):=.of_isNs (isNs_of_in X.gl.X hok)
    have nd:P.S.attrs.Nodup:=dW h6
    refine g_ ⟨D,N,_,k0,⟨X.S▸hD,(Bool.not_eq_true' _).mp h1,X.ca▸ob,ns,ns_none_of X.gl.X ns (beq_iff_eq.mp g1),ns_none_of X.gl.X ns (beq_iff_eq.mp g2),ns_none_of X.gl.X ns (beq_iff_eq.mp g3),?_,?_,?_,X.S▸dW h7,?_⟩,hi,dW t1,X.ca▸h3,X.ca▸h4,X.ca▸X.fa▸beq_iff_eq.mp t2,X.fa▸beq_iff_eq.mp t3⟩
    ·intro i x e
     rw [X.S] at e
     rcases aQ7 g4 e with ⟨q,y_⟩
     rw [Nat.zero_add] at q
     rw [X.fa]
     cases hl:D.meths.lookup i with
     | none=>rw [hl] at q;exact ns_none_of X.gl.X ns q
     | some k=>rw [hl] at q;exact dA9 X.gl.X ns q
    ·intro i x e
     rw [X.S] at e
     exact dB5 (aQ7 g4 e).2
    ·intro i j x e1 e2
     rw [X.S] at e1 e2
     have l1:=(List.getElem?_eq_some_iff.mp e1).1
     exact (List.getElem?_inj l1 nd).mp (e1.trans e2.symm)
    ·intro i k e
     rw [X.S]
     have:∀ (l:List (Nat×Nat)),(l.all fun q=>decide (q.2 < P.S.fns.length))=true->l.lookup i=some k->k < P.S.fns.length:=by
      intro l
      induction l with
      | nil=>intro _ q;cases q
      | cons a l ih=>
       intro ha q
       rw [List.all_cons] at ha
       have a2:=(aB ha).2
       have a1:=(aB ha).1
       rcases a with ⟨a0,a3⟩
       rw [List.lookup_cons] at q
       cases z:i == a0 with
       | true=>rw [z] at q;cases q;exact dW a1
       | false=>rw [z] at q;exact ih a2 q
     exact this _ h8 e
theorem cL1 {k:Nat} {x:Str} (h:bT0 P k x=true):P.S.attrs[k]?=some x:=by
 unfold bT0 at h
 cases q:P.S.attrs[k]? with
 | none=>rw [q] at h;exact aD h
 | some y=>rw [q] at h;rw [beq_iff_eq.mp h]
theorem cJ8 {k:Nat} {x:Str} (h:cS1 P k x=true):P.S.attrs[k]?=some x /\ ∀ (c:Nat) (D:ClsD),P.S.cls[c]?=some D->D.meths.lookup k=none:=by
 have h2:=(aB h).2
 have h1:=(aB h).1
 exact ⟨cL1 h1,fun c D e=>Option.isNone_iff_eq_none.mp (List.all_eq_true.mp h2 D (List.mem_of_getElem? e))⟩
end
end Mini
namespace Mini
open PySem PySem.W PyProof.Rows
section
variable {W:Wd} {P:Px} {fs:List Env} {A:Around} {n:Nat} {F:Fns}
theorem e_isi {vis:List (Option Str)} {env:Env} {x y:Str} {a:Expr} {pos px py:Pos} {t:Ty} {tv:Value} {ca:Lo->Mn V} {K:Frag} (gl:Gl W K) (e1:nsIn K mainGlobals x=some none) (b1:bootBuiltins x=some (.builtin "isinstance")) (n1:(x == ("__name__":Str))=false) (k1:env.kindOf x=some .globalImplicit) (d1:(x == ("__debug__":Str))=false)
  (hy:∀ {s:Shared} {io:Io} {m:MH} {r:Lo} {Q:Value->Shared->Prop} {E:Value->Shared->Prop},Sit W fs env vis s io m r->Q tv s->wpAny (model W.prog W.w) A (eval (.Name y py) env) Q E s)
  (hsim:∀ {s:Shared} {io:Io} {m:MH} {v:V} {u:Value},HR W s.heap io m->VR W s.heap io v u->Si W [] A fs BV (call (.builtin "isinstance") [u,tv]) s io m (aQ8 W.S v t m)) (hs:aR [a]=true) (ha:SiE W A fs env vis (eval a env) ca) :
  SiE W A fs env vis (eval (.Call (.Name x px) [a,.Name y py] [] pos) env) (fun r=>bnd (ca r) fun v=>bnd (aQ8 W.S v t) fun b=>ret (.bool b)):=by
 intro s io m r Z hne
 dsimp only at hne ⊢
 have hs':aR [a,.Name y py]=true:=by cases a <;> first | rfl | exact absurd hs Bool.false_ne_true
 refine wpAny_Call_NameR (aD3 gl Z e1 b1 n1 k1 d1 (Calls.callWith_builtin (dK hs') (dE hs' ?_)))
 refine PyProof.Rows.spliced_more ?_ (eM hs')
 refine wpAny_mono (ha s io m r Z (Res.bind_ne hne)) (fun u s₁ q=>?_) fun y_ y_ q=>q
 rcases q with ⟨v,m₁,io₁,e,st,H,k,sm⟩
 have ee:∀ f:V->Mn V,bnd (ca r) f m=f v m₁:=fun f=>by show (ca r m).bind _=_;rw [e];rfl
 rw [ee] at hne ⊢
 refine PyProof.Rows.spliced_more (hy (Z.step H st) ?_) rfl
 refine PyProof.Rows.spliced_none ?_
 show wpAny (model W.prog W.w) A (call (.builtin "isinstance") [u,tv]) _ _ s₁
 refine wpAny_mono (hsim H k (Res.bind_ne hne)) (fun w s₂ q=>?_) fun y_ y_ q=>q
 rcases q with ⟨b,m₂,io₂,e',st2,H2,k2',sm2⟩
 cases k2'
 exact ⟨.bool b,m₂,io₂,by show (aQ8 W.S v t m₁).bind _=_;rw [e'];rfl,st.trans st2,H2,.bool b,sm.trans sm2⟩
theorem ty_of {t:Ty} (h:(!(dR t == ""))=true):∀ c,t≠.cls c:=fun c e=>by subst e;exact absurd h Bool.false_ne_true
theorem aA {α:Type} {a:α} {C:Prop} (h:(none:Option α)=some a):C:=by cases h
theorem cQ4 {α:Type} {a:α} {l:List α} {C:Prop} (h:[]=a::l):C:=by cases h
theorem bR0 {n:Nat} {C:Prop} (h:0=n+1):C:=by cases h
theorem aH {α:Type} {o:Option α} {f:α->Bool} {G:Prop} (h:o.any f=true) (k:∀ a,o=some a->f a=true->G):G:=by
 cases o with
 | none=>exact aD h
 | some a=>exact k a rfl h
noncomputable def bW9 (c:Const) (e:Expr):Prop:=∃ k pos,e=.Constant c k pos
theorem bH6 {e:Expr} {c:Const} (h:aR2 e=some c):bW9 c e:=
 Expr.casesOn (motive_1:=fun e=>aR2 e=some c->bW9 c e) e (fun y_ y_ y_=>aA) (fun y_ y_ y_=>aA) (fun y_ y_ y_ y_=>aA) (fun y_ y_ y_=>aA) (fun y_ y_ y_ y_=>aA) (fun y_ y_ y_ y_=>aA) (fun y_ y_ y_=>aA) (fun y_ y_ y_=>aA) (fun y_ y_ y_ y_=>aA) (fun y_ y_ y_ y_=>aA) (fun y_ y_ y_ y_ y_=>aA) (fun y_ y_ y_ y_=>aA) (fun y_ y_=>aA) (fun y_ y_=>aA) (fun y_ y_=>aA) (fun y_ y_ y_ y_=>aA) (fun y_ y_ y_ y_=>aA) (fun y_ y_ y_ y_=>aA) (fun y_ y_=>aA) (fun y_ y_ y_ h=>by cases h;exact ⟨_,_,rfl⟩) (fun y_ y_ y_=>aA) (fun y_ y_ y_=>aA) (fun y_ y_=>aA) (fun y_ y_=>aA) (fun y_ y_=>aA) (fun y_ y_ y_=>aA) (fun y_ y_ y_ y_=>aA) h
theorem bM1 {e:Expr} {c:Const} (h:aR2 e=some c):∃ k pos,e=.Constant c k pos:=bH6 h
noncomputable def cL6 (c:Str×Pos) (e:Expr):Prop:=e=.Name c.1 c.2
theorem bL5 {e:Expr} {c:Str×Pos} (h:bQ e=some c):cL6 c e:=
 Expr.casesOn (motive_1:=fun e=>bQ e=some c->cL6 c e) e (fun y_ y_ y_=>aA) (fun y_ y_ y_=>aA) (fun y_ y_ y_ y_=>aA) (fun y_ y_ y_=>aA) (fun y_ y_ y_ y_=>aA) (fun y_ y_ y_ y_=>aA) (fun y_ y_ y_=>aA) (fun y_ y_ y_=>aA) (fun y_ y_ y_ y_=>aA) (fun y_ y_ y_ y_=>aA) (fun y_ y_ y_ y_ y_=>aA) (fun y_ y_ y_ y_=>aA) (fun y_ y_=>aA) (fun y_ y_=>aA) (fun y_ y_=>aA) (fun y_ y_ y_ y_=>aA) (fun y_ y_ y_ y_=>aA) (fun y_ y_ y_ y_=>aA) (fun y_ y_=>aA) (fun y_ y_ y_=>aA) (fun y_ y_ y_=>aA) (fun y_ y_ y_=>aA) (fun y_ y_=>aA) (fun y_ y_ h=>by cases h;rfl) (fun y_ y_=>aA) (fun y_ y_ y_=>aA) (fun y_ y_ y_ y_=>aA) h
theorem cS {e:Expr} {c:Str×Pos} (h:bQ e=some c):e=.Name c.1 c.2:=bL5 h
noncomputable def dH5 (c:Expr×Operator×Expr) (e:Expr):Prop:=∃ pos,e=.BinOp c.1 c.2.1 c.2.2 pos
theorem bY5 {e:Expr} {c:Expr×Operator×Expr} (h:cY2 e=some c):dH5 c e:=
 Expr.casesOn (motive_1:=fun e=>cY2 e=some c->dH5 c e) e (fun y_ y_ y_=>aA) (fun y_ y_ y_=>aA) (fun y_ y_ y_ y_ h=>by cases h;exact ⟨_,rfl⟩) (fun y_ y_ y_=>aA) (fun y_ y_ y_ y_=>aA) (fun y_ y_ y_ y_=>aA) (fun y_ y_ y_=>aA) (fun y_ y_ y_=>aA) (fun y_ y_ y_ y_=>aA) (fun y_ y_ y_ y_=>aA) (fun y_ y_ y_ y_ y_=>aA) (fun y_ y_ y_ y_=>aA) (fun y_ y_=>aA) (fun y_ y_=>aA) (fun y_ y_=>aA) (fun y_ y_ y_ y_=>aA) (fun y_ y_ y_ y_=>aA) (fun y_ y_ y_ y_=>aA) (fun y_ y_=>aA) (fun y_ y_ y_=>aA) (fun y_ y_ y_=>aA) (fun y_ y_ y_=>aA) (fun y_ y_=>aA) (fun y_ y_=>aA) (fun y_ y_=>aA) (fun y_ y_ y_=>aA) (fun y_ y_ y_ y_=>aA) h
theorem cN3 {e:Expr} {c:Expr×Operator×Expr} (h:cY2 e=some c):∃ pos,e=.BinOp c.1 c.2.1 c.2.2 pos:=bY5 h
noncomputable def IsUn (c:UnaryOp×Expr) (e:Expr):Prop:=∃ pos,e=.UnaryOp c.1 c.2 pos
theorem cM7 {e:Expr} {c:UnaryOp×Expr} (h:vUn e=some c):IsUn c e:=
 Expr.casesOn (motive_1:=fun e=>vUn e=some c->IsUn c e) e (fun y_ y_ y_=>aA) (fun y_ y_ y_=>aA) (fun y_ y_ y_ y_=>aA) (fun y_ y_ y_ h=>by cases h;exact ⟨_,rfl⟩) (fun y_ y_ y_ y_=>aA) (fun y_ y_ y_ y_=>aA) (fun y_ y_ y_=>aA) (fun y_ y_ y_=>aA) (fun y_ y_ y_ y_=>aA) (fun y_ y_ y_ y_=>aA) (fun y_ y_ y_ y_ y_=>aA) (fun y_ y_ y_ y_=>aA) (fun y_ y_=>aA) (fun y_ y_=>aA) (fun y_ y_=>aA) (fun y_ y_ y_ y_=>aA) (fun y_ y_ y_ y_=>aA) (fun y_ y_ y_ y_=>aA) (fun y_ y_=>aA) (fun y_ y_ y_=>aA) (fun y_ y_ y_=>aA) (fun y_ y_ y_=>aA) (fun y_ y_=>aA) (fun y_ y_=>aA) (fun y_ y_=>aA) (fun y_ y_ y_=>aA) (fun y_ y_ y_ y_=>aA) h
theorem cH1 {e:Expr} {c:UnaryOp×Expr} (h:vUn e=some c):∃ pos,e=.UnaryOp c.1 c.2 pos:=cM7 h
noncomputable def cM1 (c:BoolOp×List Expr) (e:Expr):Prop:=∃ pos,e=.BoolOp c.1 c.2 pos
theorem bM5 {e:Expr} {c:BoolOp×List Expr} (h:aX5 e=some c):cM1 c e:=
 Expr.casesOn (motive_1:=fun e=>aX5 e=some c->cM1 c e) e (fun y_ y_ y_ h=>by cases h;exact ⟨_,rfl⟩) (fun y_ y_ y_=>aA) (fun y_ y_ y_ y_=>aA) (fun y_ y_ y_=>aA) (fun y_ y_ y_ y_=>aA) (fun y_ y_ y_ y_=>aA) (fun y_ y_ y_=>aA) (fun y_ y_ y_=>aA) (fun y_ y_ y_ y_=>aA) (fun y_ y_ y_ y_=>aA) (fun y_ y_ y_ y_ y_=>aA) (fun y_ y_ y_ y_=>aA) (fun y_ y_=>aA) (fun y_ y_=>aA) (fun y_ y_=>aA) (fun y_ y_ y_ y_=>aA) (fun y_ y_ y_ y_=>aA) (fun y_ y_ y_ y_=>aA) (fun y_ y_=>aA) (fun y_ y_ y_=>aA) (fun y_ y_ y_=>aA) (fun y_ y_ y_=>aA) (fun y_ y_=>aA) (fun y_ y_=>aA) (fun y_ y_=>aA) (fun y_ y_ y_=>aA) (fun y_ y_ y_ y_=>aA) h
theorem bB9 {e:Expr} {c:BoolOp×List Expr} (h:aX5 e=some c):∃ pos,e=.BoolOp c.1 c.2 pos:=bM5 h
noncomputable def dH4 (c:Expr×List CmpOp×List Expr) (e:Expr):Prop:=∃ pos,e=.Compare c.1 c.2.1 c.2.2 pos
theorem bY4 {e:Expr} {c:Expr×List CmpOp×List Expr} (h:cH3 e=some c):dH4 c e:=
 Expr.casesOn (motive_1:=fun e=>cH3 e=some c->dH4 c e) e (fun y_ y_ y_=>aA) (fun y_ y_ y_=>aA) (fun y_ y_ y_ y_=>aA) (fun y_ y_ y_=>aA) (fun y_ y_ y_ y_=>aA) (fun y_ y_ y_ y_=>aA) (fun y_ y_ y_=>aA) (fun y_ y_ y_=>aA) (fun y_ y_ y_ y_=>aA) (fun y_ y_ y_ y_=>aA) (fun y_ y_ y_ y_ y_=>aA) (fun y_ y_ y_ y_=>aA) (fun y_ y_=>aA) (fun y_ y_=>aA) (fun y_ y_=>aA) (fun y_ y_ y_ y_ h=>by cases h;exact ⟨_,rfl⟩) (fun y_ y_ y_ y_=>aA) (fun y_ y_ y_ y_=>aA) (fun y_ y_=>aA) (fun y_ y_ y_=>aA) (fun y_ y_ y_=>aA) (fun y_ y_ y_=>aA) (fun y_ y_=>aA) (fun y_ y_=>aA) (fun y_ y_=>aA) (fun y_ y_ y_=>aA) (fun y_ y_ y_ y_=>aA) h
theorem bM3 {e:Expr} {c:Expr×List CmpOp×List Expr} (h:cH3 e=some c):∃ pos,e=.Compare c.1 c.2.1 c.2.2 pos:=bY4 h
noncomputable def dG8 (c:List Expr) (e:Expr):Prop:=∃ k pos,e=.Tuple c k pos
theorem bX1 {e:Expr} {c:List Expr} (h:bB7 e=some c):dG8 c e:=
 Expr.casesOn (motive_1:=fun e=>bB7 e=some c->dG8 c e) e (fun y_ y_ y_=>aA) (fun y_ y_ y_=>aA) (fun y_ y_ y_ y_=>aA) (fun y_ y_ y_=>aA) (fun y_ y_ y_ y_=>aA) (fun y_ y_ y_ y_=>aA) (fun y_ y_ y_=>aA) (fun y_ y_ y_=>aA) (fun y_ y_ y_ y_=>aA) (fun y_ y_ y_ y_=>aA) (fun y_ y_ y_ y_ y_=>aA) (fun y_ y_ y_ y_=>aA) (fun y_ y_=>aA) (fun y_ y_=>aA) (fun y_ y_=>aA) (fun y_ y_ y_ y_=>aA) (fun y_ y_ y_ y_=>aA) (fun y_ y_ y_ y_=>aA) (fun y_ y_=>aA) (fun y_ y_ y_=>aA) (fun y_ y_ y_=>aA) (fun y_ y_ y_=>aA) (fun y_ y_=>aA) (fun y_ y_=>aA) (fun y_ y_=>aA) (fun y_ y_ y_ h=>by cases h;exact ⟨_,_,rfl⟩) (fun y_ y_ y_ y_=>aA) h
theorem aN1 {e:Expr} {c:List Expr} (h:bB7 e=some c):∃ k pos,e=.Tuple c k pos:=bX1 h
noncomputable def IsList (c:List Expr) (e:Expr):Prop:=∃ pos,e=.List c pos
theorem bL6 {e:Expr} {c:List Expr} (h:bL7 e=some c):IsList c e:=
 Expr.casesOn (motive_1:=fun e=>bL7 e=some c->IsList c e) e (fun y_ y_ y_=>aA) (fun y_ y_ y_=>aA) (fun y_ y_ y_ y_=>aA) (fun y_ y_ y_=>aA) (fun y_ y_ y_ y_=>aA) (fun y_ y_ y_ y_=>aA) (fun y_ y_ y_=>aA) (fun y_ y_ y_=>aA) (fun y_ y_ y_ y_=>aA) (fun y_ y_ y_ y_=>aA) (fun y_ y_ y_ y_ y_=>aA) (fun y_ y_ y_ y_=>aA) (fun y_ y_=>aA) (fun y_ y_=>aA) (fun y_ y_=>aA) (fun y_ y_ y_ y_=>aA) (fun y_ y_ y_ y_=>aA) (fun y_ y_ y_ y_=>aA) (fun y_ y_=>aA) (fun y_ y_ y_=>aA) (fun y_ y_ y_=>aA) (fun y_ y_ y_=>aA) (fun y_ y_=>aA) (fun y_ y_=>aA) (fun y_ y_ h=>by cases h;exact ⟨_,rfl⟩) (fun y_ y_ y_=>aA) (fun y_ y_ y_ y_=>aA) h
theorem bX7 {e:Expr} {c:List Expr} (h:bL7 e=some c):∃ pos,e=.List c pos:=bL6 h
noncomputable def cL7 (c:List (Option Expr)×List Expr) (e:Expr):Prop:=∃ pos,e=.Dict c.1 c.2 pos
theorem bL8 {e:Expr} {c:List (Option Expr)×List Expr} (h:bL9 e=some c):cL7 c e:=
 Expr.casesOn (motive_1:=fun e=>bL9 e=some c->cL7 c e) e (fun y_ y_ y_=>aA) (fun y_ y_ y_=>aA) (fun y_ y_ y_ y_=>aA) (fun y_ y_ y_=>aA) (fun y_ y_ y_ y_=>aA) (fun y_ y_ y_ y_=>aA) (fun y_ y_ y_ h=>by cases h;exact ⟨_,rfl⟩) (fun y_ y_ y_=>aA) (fun y_ y_ y_ y_=>aA) (fun y_ y_ y_ y_=>aA) (fun y_ y_ y_ y_ y_=>aA) (fun y_ y_ y_ y_=>aA) (fun y_ y_=>aA) (fun y_ y_=>aA) (fun y_ y_=>aA) (fun y_ y_ y_ y_=>aA) (fun y_ y_ y_ y_=>aA) (fun y_ y_ y_ y_=>aA) (fun y_ y_=>aA) (fun y_ y_ y_=>aA) (fun y_ y_ y_=>aA) (fun y_ y_ y_=>aA) (fun y_ y_=>aA) (fun y_ y_=>aA) (fun y_ y_=>aA) (fun y_ y_ y_=>aA) (fun y_ y_ y_ y_=>aA) h
theorem bY1 {e:Expr} {c:List (Option Expr)×List Expr} (h:bL9 e=some c):∃ pos,e=.Dict c.1 c.2 pos:=bL8 h
noncomputable def dG9 (c:Expr×Expr) (e:Expr):Prop:=∃ pos,e=.Subscript c.1 c.2 pos
theorem bX2 {e:Expr} {c:Expr×Expr} (h:bX3 e=some c):dG9 c e:=
 Expr.casesOn (motive_1:=fun e=>bX3 e=some c->dG9 c e) e (fun y_ y_ y_=>aA) (fun y_ y_ y_=>aA) (fun y_ y_ y_ y_=>aA) (fun y_ y_ y_=>aA) (fun y_ y_ y_ y_=>aA) (fun y_ y_ y_ y_=>aA) (fun y_ y_ y_=>aA) (fun y_ y_ y_=>aA) (fun y_ y_ y_ y_=>aA) (fun y_ y_ y_ y_=>aA) (fun y_ y_ y_ y_ y_=>aA) (fun y_ y_ y_ y_=>aA) (fun y_ y_=>aA) (fun y_ y_=>aA) (fun y_ y_=>aA) (fun y_ y_ y_ y_=>aA) (fun y_ y_ y_ y_=>aA) (fun y_ y_ y_ y_=>aA) (fun y_ y_=>aA) (fun y_ y_ y_=>aA) (fun y_ y_ y_=>aA) (fun y_ y_ y_ h=>by cases h;exact ⟨_,rfl⟩) (fun y_ y_=>aA) (fun y_ y_=>aA) (fun y_ y_=>aA) (fun y_ y_ y_=>aA) (fun y_ y_ y_ y_=>aA) h
theorem aX4 {e:Expr} {c:Expr×Expr} (h:bX3 e=some c):∃ pos,e=.Subscript c.1 c.2 pos:=bX2 h
noncomputable def bW8 (c:Option Expr×Option Expr×Option Expr) (e:Expr):Prop:=∃ pos,e=.Slice c.1 c.2.1 c.2.2 pos
theorem bH5 {e:Expr} {c:Option Expr×Option Expr×Option Expr} (h:aR1 e=some c):bW8 c e:=
 Expr.casesOn (motive_1:=fun e=>aR1 e=some c->bW8 c e) e (fun y_ y_ y_=>aA) (fun y_ y_ y_=>aA) (fun y_ y_ y_ y_=>aA) (fun y_ y_ y_=>aA) (fun y_ y_ y_ y_=>aA) (fun y_ y_ y_ y_=>aA) (fun y_ y_ y_=>aA) (fun y_ y_ y_=>aA) (fun y_ y_ y_ y_=>aA) (fun y_ y_ y_ y_=>aA) (fun y_ y_ y_ y_ y_=>aA) (fun y_ y_ y_ y_=>aA) (fun y_ y_=>aA) (fun y_ y_=>aA) (fun y_ y_=>aA) (fun y_ y_ y_ y_=>aA) (fun y_ y_ y_ y_=>aA) (fun y_ y_ y_ y_=>aA) (fun y_ y_=>aA) (fun y_ y_ y_=>aA) (fun y_ y_ y_=>aA) (fun y_ y_ y_=>aA) (fun y_ y_=>aA) (fun y_ y_=>aA) (fun y_ y_=>aA) (fun y_ y_ y_=>aA) (fun y_ y_ y_ y_ h=>by cases h;exact ⟨_,rfl⟩) h
theorem bL3 {e:Expr} {c:Option Expr×Option Expr×Option Expr} (h:aR1 e=some c):∃ pos,e=.Slice c.1 c.2.1 c.2.2 pos:=bH5 h
noncomputable def cM0 (c:Expr×List Expr×List Keyword×Pos) (e:Expr):Prop:=e=.Call c.1 c.2.1 c.2.2.1 c.2.2.2
theorem bM4 {e:Expr} {c:Expr×List Expr×List Keyword×Pos} (h:aN4 e=some c):cM0 c e:=
 Expr.casesOn (motive_1:=fun e=>aN4 e=some c->cM0 c e) e (fun y_ y_ y_=>aA) (fun y_ y_ y_=>aA) (fun y_ y_ y_ y_=>aA) (fun y_ y_ y_=>aA) (fun y_ y_ y_ y_=>aA) (fun y_ y_ y_ y_=>aA) (fun y_ y_ y_=>aA) (fun y_ y_ y_=>aA) (fun y_ y_ y_ y_=>aA) (fun y_ y_ y_ y_=>aA) (fun y_ y_ y_ y_ y_=>aA) (fun y_ y_ y_ y_=>aA) (fun y_ y_=>aA) (fun y_ y_=>aA) (fun y_ y_=>aA) (fun y_ y_ y_ y_=>aA) (fun y_ y_ y_ y_ h=>by cases h;rfl) (fun y_ y_ y_ y_=>aA) (fun y_ y_=>aA) (fun y_ y_ y_=>aA) (fun y_ y_ y_=>aA) (fun y_ y_ y_=>aA) (fun y_ y_=>aA) (fun y_ y_=>aA) (fun y_ y_=>aA) (fun y_ y_ y_=>aA) (fun y_ y_ y_ y_=>aA) h
theorem aN3 {e:Expr} {c:Expr×List Expr×List Keyword×Pos} (h:aN4 e=some c):e=.Call c.1 c.2.1 c.2.2.1 c.2.2.2:=bM4 h
noncomputable def cM2 (c:Expr×Str×Pos) (e:Expr):Prop:=e=.Attribute c.1 c.2.1 c.2.2
theorem bM6 {e:Expr} {c:Expr×Str×Pos} (h:aF0 e=some c):cM2 c e:=
 Expr.casesOn (motive_1:=fun e=>aF0 e=some c->cM2 c e) e (fun y_ y_ y_=>aA) (fun y_ y_ y_=>aA) (fun y_ y_ y_ y_=>aA) (fun y_ y_ y_=>aA) (fun y_ y_ y_ y_=>aA) (fun y_ y_ y_ y_=>aA) (fun y_ y_ y_=>aA) (fun y_ y_ y_=>aA) (fun y_ y_ y_ y_=>aA) (fun y_ y_ y_ y_=>aA) (fun y_ y_ y_ y_ y_=>aA) (fun y_ y_ y_ y_=>aA) (fun y_ y_=>aA) (fun y_ y_=>aA) (fun y_ y_=>aA) (fun y_ y_ y_ y_=>aA) (fun y_ y_ y_ y_=>aA) (fun y_ y_ y_ y_=>aA) (fun y_ y_=>aA) (fun y_ y_ y_=>aA) (fun y_ y_ y_ h=>by cases h;rfl) (fun y_ y_ y_=>aA) (fun y_ y_=>aA) (fun y_ y_=>aA) (fun y_ y_=>aA) (fun y_ y_ y_=>aA) (fun y_ y_ y_ y_=>aA) h
theorem aD8 {e:Expr} {c:Expr×Str×Pos} (h:aF0 e=some c):e=.Attribute c.1 c.2.1 c.2.2:=bM6 h
noncomputable def cL9 (c:Expr×List Comprehension×Scope) (e:Expr):Prop:=∃ pos,e=.ListComp c.1 c.2.1 c.2.2 pos
theorem bM2 {e:Expr} {c:Expr×List Comprehension×Scope} (h:aR3 e=some c):cL9 c e:=
 Expr.casesOn (motive_1:=fun e=>aR3 e=some c->cL9 c e) e (fun y_ y_ y_=>aA) (fun y_ y_ y_=>aA) (fun y_ y_ y_ y_=>aA) (fun y_ y_ y_=>aA) (fun y_ y_ y_ y_=>aA) (fun y_ y_ y_ y_=>aA) (fun y_ y_ y_=>aA) (fun y_ y_ y_=>aA) (fun y_ y_ y_ y_ h=>by cases h;exact ⟨_,rfl⟩) (fun y_ y_ y_ y_=>aA) (fun y_ y_ y_ y_ y_=>aA) (fun y_ y_ y_ y_=>aA) (fun y_ y_=>aA) (fun y_ y_=>aA) (fun y_ y_=>aA) (fun y_ y_ y_ y_=>aA) (fun y_ y_ y_ y_=>aA) (fun y_ y_ y_ y_=>aA) (fun y_ y_=>aA) (fun y_ y_ y_=>aA) (fun y_ y_ y_=>aA) (fun y_ y_ y_=>aA) (fun y_ y_=>aA) (fun y_ y_=>aA) (fun y_ y_=>aA) (fun y_ y_ y_=>aA) (fun y_ y_ y_ y_=>aA) h
theorem bB8 {e:Expr} {c:Expr×List Comprehension×Scope} (h:aR3 e=some c):∃ pos,e=.ListComp c.1 c.2.1 c.2.2 pos:=bM2 h
theorem aN2 {α:Type} {l:List α} {x:α} (h:cH2 l=some x):l=[x]:=by
 cases l with
 | nil=>exact aA h
 | cons y l=>cases l with
  | nil=>cases h;rfl
  | cons y_ y_=>exact aA h
theorem bL2 {α:Type} {l:List α} {x:α×α} (h:cM8 l=some x):l=[x.1,x.2]:=by
 cases l with
 | nil=>exact aA h
 | cons y l=>cases l with
  | nil=>exact aA h
  | cons z l=>cases l with
   | nil=>cases h;rfl
   | cons y_ y_=>exact aA h
theorem cT {e:Expr} {c:Str×List Expr} (h:b9 e=some c):∃ p pos,e=.Call (.Name c.1 p) c.2 [] pos:=by
 unfold b9 at h
 cases q:aN4 e with
 | none=>rw [q] at h;exact aA h
 | some a=>
  rw [q] at h
  have h':(if a.2.2.1.isEmpty then (bQ a.1).map fun x=>(x.1,a.2.1) else none)=some c:=h
  by_cases k:a.2.2.1.isEmpty=true
  ·rw [if_pos k] at h'
   cases r:bQ a.1 with
   | none=>rw [r] at h';exact aA h'
   | some x=>
    rw [r] at h'
    cases h'
    refine ⟨x.2,a.2.2.2,?_⟩
    rw [aN3 q,cS r,List.isEmpty_iff.mp k]
  ·rw [if_neg k] at h';exact aA h'
theorem bE4 {op:UnaryOp} (h:cD3 op=true):op=.Not:=by cases op <;> first | rfl | (exact aD h)
theorem aB2 {α:Type} {l:List α} (h:(!l.isEmpty)=true):l≠[]:=by intro q;rw [q] at h;exact aD h
theorem eR {α:Type} {l:List α} (h:l.isEmpty=true):l=[]:=List.isEmpty_iff.mp h
theorem aO9 {Γ:Cx} {es:List Expr} (h:mEs P Γ [] es=true):es=[]:=eR h
theorem cJ {Γ:Cx} {c:CE} {cs:List CE} {es:List Expr} (h:mEs P Γ (c::cs) es=true):∃ e es',es=e::es' /\ mE P Γ c e=true /\ mEs P Γ cs es'=true:=by
 cases es with
 | nil=>exact aD h
 | cons e es=>have:=aB (a:=mE P Γ c e) (b:=mEs P Γ cs es) h;exact ⟨e,es,rfl,this.1,this.2⟩
theorem bE0 {Γ:Cx} {es:List Expr} (h:cC5 P Γ [] es=true):es=[]:=eR h
theorem aT3 {Γ:Cx} {c:CB} {cs:List CB} {es:List Expr} (h:cC5 P Γ (c::cs) es=true):∃ e es',es=e::es' /\ mB P Γ c e=true /\ cC5 P Γ cs es'=true:=by
 cases es with
 | nil=>exact aD h
 | cons e es=>have:=aB (a:=mB P Γ c e) (b:=cC5 P Γ cs es) h;exact ⟨e,es,rfl,this.1,this.2⟩
theorem aL1 {Γ:Cx} {env:Env} {k:IK} {iter:Expr} {src:List CE} (X:Fx W P A fs n F) (hsc:env.scope=Γ.sc) (h:mSrc P Γ (fun es=>mEs P Γ src es) k iter=true)
  (one:∀ e c,src=[c]->mE P Γ c e=true->SiE W A fs env Γ.vis (eval e env) (fun r=>ev P.S F c r))
  (all:∀ es pos,aR es=true->mEs P Γ src es=true->SiL W A fs env Γ.vis (spliced (backTo pos (starEach es env))) (fun r=>evs P.S F src r)) :
  SiSrc W A fs env Γ.vis iter (fun r=>bnd (evs P.S F src r) (fC k)):=by
 rcases aB h with ⟨hl,h⟩
 have hh:=X.hh hl
 cases k with
 | expr=>
  have h1:mEs P Γ src [iter]=true:=h
  cases src with
  | nil=>exact aD h1
  | cons c cs=>
   rcases cJ h1 with ⟨e,es',he,hm,hr⟩
   cases he
   cases cs with
   | cons c' cs=>exact aD hr
   | nil=>
    have:=bZ5 X.gl.ok hh (one _ c rfl hm)
    intro s io m r Z
    have eq:bnd (evs P.S F [c] r) (fC .expr)=bnd (ev P.S F c r) eD:=by
     funext m
     show Res.bind (Res.bind (ev P.S F c r m) _) _=Res.bind (ev P.S F c r m) _
     cases ev P.S F c r m <;> rfl
    dsimp only
    rw [eq]
    exact this s io m r Z
 | range=>
  refine aH (o:=b9 iter) h fun q hq h=>?_
  rcases cT hq with ⟨px,pos,rfl⟩
  have h3:=(aB h).2
  have h12:=(aB h).1
  have h2:=(aB h12).2
  have h1:=(aB h12).1
  rcases aK5 hsc h1 with ⟨a,b,c,d,e⟩
  exact bO0 hh X.gl d e c a b h2 (all q.2 pos h2 h3)
 | enum=>exact aD h
theorem bZ8 {Γ:Cx} {env:Env} {k:IK} {i:Nat} {iter tg:Expr} {src:List CE} (X:Fx W P A fs n F) (hsc:env.scope=Γ.sc) (h:cC4 P Γ (fun es=>mEs P Γ src es) k (.one i) iter=true)
  (one:∀ e c,src=[c]->mE P Γ c e=true->SiE W A fs env Γ.vis (eval e env) (fun r=>ev P.S F c r))
  (all:∀ es pos,aR es=true->mEs P Γ src es=true->SiL W A fs env Γ.vis (spliced (backTo pos (starEach es env))) (fun r=>evs P.S F src r)) :
  bB4 W A fs env Γ.vis tg iter (fun r=>bnd (evs P.S F src r) (fC k)):=by
 cases k with
 | enum=>exact aD (aB (aB h).2).1
 | expr=>exact (aL1 X hsc (k:=.expr) h one all).forF
 | range=>exact (aL1 X hsc (k:=.range) h one all).forF
theorem bO1 {Γ:Cx} {env:Env} {k:IK} {is:List Nat} {iter:Expr} {ts:List Expr} {x1:Nat} {tp:Pos} {src:List CE} (X:Fx W P A fs n F) (hsc:env.scope=Γ.sc) (h:cC4 P Γ (fun es=>mEs P Γ src es) k (.many is) iter=true)
  (one:∀ e c,src=[c]->mE P Γ c e=true->SiE W A fs env Γ.vis (eval e env) (fun r=>ev P.S F c r))
  (all:∀ es pos,aR es=true->mEs P Γ src es=true->SiL W A fs env Γ.vis (spliced (backTo pos (starEach es env))) (fun r=>evs P.S F src r)) :
  bB4 W A fs env Γ.vis (.Tuple ts x1 tp) iter (fun r=>bnd (evs P.S F src r) (fC k)):=by
 cases k with
 | enum=>
  have hh:=X.hh (aB h).1
  have h9:(P.loud&&(true&&(b9 iter).any fun q=>aJ4 P Γ q.1 "enumerate"&&aR q.2&&mEs P Γ src q.2))=true:=h
  have h8:=(aB (aB h9).2).2
  clear h h9
  refine aH (o:=b9 iter) h8 fun q hq h=>?_
  rcases cT hq with ⟨px,pos,rfl⟩
  have h3:=(aB h).2
  have h12:=(aB h).1
  have h2:=(aB h12).2
  have h1:=(aB h12).1
  rcases aK5 hsc h1 with ⟨a,b,c,d,e⟩
  exact bZ6 hh X.gl d e c a b h2 (all q.2 pos h2 h3)
 | expr=>exact (aL1 X hsc (k:=.expr) h one all).forF
 | range=>exact (aL1 X hsc (k:=.range) h one all).forF
theorem bO2 {Γ:Cx} {k:IK} {t:CT} {iter:Expr} {f:List Expr->Bool} (h:cC4 P Γ f k t iter=true):P.loud=true:=by
 cases k <;> exact (aB h).1
theorem cK4 {Γ:Cx} {ca:CE} {cops ops:List CmpOp} {cbs:List CE} {a:Expr} {bs:List Expr} {pos:Pos} (h:mE P Γ (.cmp ca cops cbs) (.Compare a ops bs pos)=true):cops=ops /\ mE P Γ ca a=true /\ mEs P Γ cbs bs=true /\ cops.length=cbs.length /\ cbs≠[] /\ bs.all aO6=true:=by
 have h:(decide (cops=ops)&&mE P Γ ca a&&mEs P Γ cbs bs&&decide (cops.length=cbs.length)&&!cbs.isEmpty&&bs.all aO6)=true:=h
 have h5:=(aB h).2
 have h:=(aB h).1
 have h4:=(aB h).2
 have h:=(aB h).1
 have h3:=(aB h).2
 have h:=(aB h).1
 have h2:=(aB h).2
 have h:=(aB h).1
 have h1:=(aB h).2
 have h0:=(aB h).1
 exact ⟨dW h0,h1,h2,dW h3,aB2 h4,h5⟩
theorem cX6 {Γ:Cx} {c:CE} {e:Expr} (h:mB P Γ (.val c) e=true):(aS1 e=true /\ mE P Γ c e=true) \/ ∃ a ops bs pos,e=.Compare a ops bs pos /\ mE P Γ c e=true:=by
 rcases aB (a:=aS1 e||(cH3 e).isSome) (b:=mE P Γ c e) h with ⟨h1,h2⟩
 cases q:aS1 e with
 | true=>exact .inl ⟨rfl,h2⟩
 | false=>
  rw [q] at h1
  cases r:cH3 e with
  | none=>rw [r] at h1;exact aD h1
  | some x=>rcases bM3 r with ⟨pos,he⟩;exact .inr ⟨_,_,_,_,he,h2⟩
theorem cB4 {c:CE} (h:bI4 c=true):(fun r=>ev P.S F c r)=fun y_=>ret V.none:=by
 cases c with
 | cnst v=>cases v <;> first | rfl | (exact aD h)
 | _=>exact aD h
theorem o_of {Γ:Cx} {env:Env} {c:CE} {o:Option Expr} (h:o.elim (bI4 c) (fun l=>mE P Γ c l)=true) (k:∀ l,mE P Γ c l=true->SiE W A fs env Γ.vis (eval l env) (fun r=>ev P.S F c r)):SiO W A fs env Γ.vis o (fun r=>ev P.S F c r):=by
 cases o with
 | some l=>exact dA7 (k l h)
 | none=>
  have hc:bI4 c=true:=h
  have:(fun r=>ev P.S F c r)=fun y_=>ret V.none:=by
   exact cB4 hc
  rw [this]
  exact dA8
theorem e_loc {Γ:Cx} {env:Env} {i:Nat} {x:Str} {pos:Pos} (hsc:env.scope=Γ.sc) (h:dC7 Γ i x=true):SiE W A fs env Γ.vis (eval (.Name x pos) env) (fun r=>match r[i]? with | some (some v)=>ret v | _=>bad):=by
 have h4:=(aB h).2
 have h:=(aB h).1
 have h3:=(aB h).2
 have h:=(aB h).1
 have h2:=(aB h).2
 have h1:=(aB h).1
 refine e_var ?_ ?_ (Bool.not_eq_true' _▸h3) (Bool.not_eq_true' _▸h4)
 ·exact eq_of_beq h1
 ·show env.scope.names.lookup x=_ \/ env.scope.names.lookup x=_ \/ env.scope.names.lookup x=_
  rw [hsc]
  rcases Bool.or_eq_true_iff.mp h2 with q | q
  ·rcases Bool.or_eq_true_iff.mp q with q | q
   ·exact .inl (eq_of_beq q)
   ·exact .inr (.inl (eq_of_beq q))
  ·exact .inr (.inr (eq_of_beq q))
theorem e_bi {Γ:Cx} {env:Env} {b:Bi} {x:Str} {es:List Expr} {p pos:Pos} {cl:Lo->Mn (List V)} (X:Fx W P A fs n F) (hsc:env.scope=Γ.sc) (hl0:P.loud=true) (h1:cW6 b=true) (h2:isBi P Γ b x=true) (h3:aR es=true)
  (hl:∀ pos,SiL W A fs env Γ.vis (spliced (backTo pos (starEach es env))) cl):SiE W A fs env Γ.vis (eval (.Call (.Name x p) es [] pos) env) (fun r=>bnd (cl r) fun vs=>biV b vs):=by
 have hf:=dF9 (W:=W) (A:=A) (fs:=fs) X.gl.ok (X.hh hl0) h1
 have h2:(match dG0 b with | .builtin id=>cD4 P Γ x id | .type id=>aJ4 P Γ x id | _=>false)=true:=h2
 generalize dG0 b=fv at hf h2
 cases fv with
 | builtin id=>
  have g:=cK5 hsc (id:=id) h2
  exact cU6 X.gl g.2.2.2.1 g.2.2.2.2 g.2.2.1 g.1 g.2.1 h3 (hl _) hf
 | type id=>
  have g:=aK5 hsc (id:=id) h2
  exact cU4 X.gl g.2.2.2.1 g.2.2.2.2 g.2.2.1 g.1 g.2.1 h3 (hl _) hf
 | _=>exact aD h2
theorem cX5 {v:Value} {l:Lt} {h:Heap} {io:Io} (k:dC5 v l=true):VR W h io l.val v:=by
 cases l with
 | int i=>cases v <;> first | (exact aD k) | (rw [show i=_ from eq_of_beq k];exact .int _ _)
 | str x=>cases v <;> first | (exact aD k) | (rcases aB k with ⟨k1,k2⟩;rw [show x=_ from eq_of_beq k1] at k2 ⊢;exact .str _ _ k2)
 | bool b=>cases v <;> first | (exact aD k) | (rw [show b=_ from eq_of_beq k];exact .bool _)
 | none=>cases v <;> first | (exact aD k) | exact .none
theorem dE7 {Γ:Cx} {env:Env} {i:Nat} {x:Str} {pos:Pos} (X:Fx W P A fs n F) (hsc:env.scope=Γ.sc) (h:dC9 P Γ i x=true):SiE W A fs env Γ.vis (eval (.Name x pos) env) (fun r=>ev P.S F (.glob i) r):=by
 have h2:=(aB h).2
 have h1:=(aB h).1
 rcases aU3 hsc h1 with ⟨a,b,y_⟩
 refine aH h2 fun o e1 h3=>?_
 refine aH h3 fun v e2 h4=>?_
 refine aH h4 fun p e3 h5=>?_
 rw [e2] at e1
 intro s io m r Z hne
 refine bR4 X.gl Z e1 a b ⟨p.2.val,m,io,?_,.refl,Z.H,cX5 h5,.refl _⟩
 show (match P.S.globs[i]? with | some p=>ret p.2.val | Option.none=>bad) m=_
 rw [e3];rfl
theorem bM9 {ops:List CmpOp} {c c':CE} {cs:List CE} (h:ops.length=(c::c'::cs).length):∃ op op' ops',ops=op::op'::ops':=by
 cases ops with
 | nil=>exact bR0 h
 | cons op ops=>cases ops with
  | nil=>exact bR0 (Nat.succ.inj h)
  | cons op' ops=>exact ⟨op,op',ops,rfl⟩
theorem cJ7 {g:Comprehension} (h0:(g.is_async == 0)=true):g=⟨g.target,g.iter,g.ifs,0⟩:=by
 cases g
 rw [<- beq_iff_eq.mp h0]
theorem cK2 (X:Fx W P A fs n F) {Γ:Cx} {scope:Scope} {t:CT} {e:Expr} {x:List Str} (h:vTg P.loud Γ.vis.length t e=some x):CTg A Γ.vis (aI8 scope x Γ.vis) t e:=by
 cases t with
 | one i=>
  have h:(if i=Γ.vis.length then (bQ e).map fun x=>[x.1] else none)=some x:=h
  by_cases q:i=Γ.vis.length
  ·rw [if_pos q] at h
   cases hv:bQ e with
   | none=>rw [hv] at h;cases h
   | some y=>
    rw [hv] at h
    cases h
    rw [cS hv,q]
    exact .one _ _ _ (aA2 scope [y.1] 0 Γ.vis) (Nat.le_refl _)
  ·rw [if_neg q] at h;cases h
 | many is=>
  have h:(if P.loud=true /\ is=[Γ.vis.length,Γ.vis.length+1] then (bB7 e).bind fun es=>(cM8 es).bind fun p=>(bQ p.1).bind fun x=>(bQ p.2).map fun y=>[x.1,y.1] else none)=some x:=h
  by_cases q:P.loud=true /\ is=[Γ.vis.length,Γ.vis.length+1]
  ·rw [if_pos q] at h
   cases h1:bB7 e with
   | none=>rw [h1] at h;cases h
   | some es=>
    rw [h1] at h
    have h:((cM8 es).bind fun p=>(bQ p.1).bind fun x=>(bQ p.2).map fun y=>[x.1,y.1])=some x:=h
    cases h2:cM8 es with
    | none=>rw [h2] at h;cases h
    | some p=>
     rw [h2] at h
     have h:((bQ p.1).bind fun x=>(bQ p.2).map fun y=>[x.1,y.1])=some x:=h
     cases h3:bQ p.1 with
     | none=>rw [h3] at h;cases h
     | some a=>
      rw [h3] at h
      have h:((bQ p.2).map fun y=>[a.1,y.1])=some x:=h
      cases h4:bQ p.2 with
      | none=>rw [h4] at h;cases h
      | some c=>
       rw [h4] at h
       cases h
       rcases aN1 h1 with ⟨k,pt,rfl⟩
       rw [bL2 h2,cS h3,cS h4,q.2]
       exact .many _ _ _ _ (X.hh q.1) ⟨_,_,_,rfl,aA2 scope [a.1,c.1] 0 Γ.vis,Nat.le_refl _,_,_,_,rfl,aA2 scope [a.1,c.1] 1 Γ.vis,Nat.le_succ _,rfl⟩
  ·rw [if_neg q] at h;cases h
theorem cF7 {Γ:Cx} {env:Env} {e0 iter:Expr} {ifs':List Expr} {scope:Scope} {tg:Expr} {t:CT} {pos:Pos} {x:List Str} {src:List CE} {k:IK} {ifs:List CB} {elt:CE} (hg:CTg A Γ.vis (aI8 scope x Γ.vis) t tg) (ck:CompOk scope env Γ.vis (aI8 scope x Γ.vis) x.length) (hs:∀ y,foldedSetIterable iter env y=Pure.pure y)
  (hsrc:SiSrc W A fs env Γ.vis iter (fun r=>bnd (evs P.S F src r) (fC k))) (hifs:∀ cl C,SiB W A fs (compEnvC scope cl C env) (aI8 scope x Γ.vis) (fL ifs' (compEnvC scope cl C env) true) (fun r=>bK3 P.S F ifs r))
  (helt:∀ cl C,SiE W A fs (compEnvC scope cl C env) (aI8 scope x Γ.vis) (eval e0 (compEnvC scope cl C env)) (fun r=>ev P.S F elt r)) :
  SiE W A fs env Γ.vis (eval (.ListComp e0 [⟨tg,iter,ifs',0⟩] scope pos) env) (fun r=>ev P.S F (.comp elt t x.length k src ifs) r):=by
 have:=dE8 (pos:=pos) ck hs hg hsrc hifs helt
 intro s io m r Z
 have eq:ev P.S F (.comp elt t x.length k src ifs) r=bnd (bnd (evs P.S F src r) (fC k)) fun p=>bnd (bH p.2 (eK t (r++List.replicate x.length none) (fun r=>bK3 P.S F ifs r) (fun r=>ev P.S F elt r)) p.1) fun l=>if l.length <= lid then alloc (.list l) else bad:=by
  rw [bV];rfl
 dsimp only
 rw [eq]
 exact this s io m r Z
theorem cR7 (X:Fx W P A fs n F) {Γ:Cx} {env:Env} {x y:Str} {a:Expr} {pos px py:Pos} {t:Ty} {ca:Lo->Mn V} (hsc:env.scope=Γ.sc) (e1:nsIn P.K mainGlobals x=some none) (b1:bootBuiltins x=some (.builtin "isinstance")) (n1:(x == ("__name__":Str))=false) (k1:env.kindOf x=some .globalImplicit) (d1:(x == ("__debug__":Str))=false)
  (ht:isTy P Γ t y=true) (hs:aR [a]=true) (ha:SiE W A fs env Γ.vis (eval a env) ca):SiE W A fs env Γ.vis (eval (.Call (.Name x px) [a,.Name y py] [] pos) env) (fun r=>bnd (ca r) fun v=>bnd (aQ8 P.S v t) fun b=>ret (.bool b)):=by
 rw [<- X.S]
 have plain:aJ4 P Γ y (dR t)=true->(!(dR t == ""))=true->SiE W A fs env Γ.vis (eval (.Call (.Name x px) [a,.Name y py] [] pos) env) (fun r=>bnd (ca r) fun v=>bnd (aQ8 W.S v t) fun b=>ret (.bool b)):=fun h2 h3=>by
  rcases aK5 hsc h2 with ⟨a2,b2,c2,d2,e2⟩
  exact e_isi X.gl e1 b1 n1 k1 d1 (fun Z q=>aD3 X.gl Z d2 e2 c2 a2 b2 q) (fun H k=>cR6 H (ty_of h3) k) hs ha
 cases t with
 | cls c=>exact aD ht
 | _=>exact plain (aB ht).1 (aB ht).2
theorem cQ6 (X:Fx W P A fs n F) {Γ:Cx} {env:Env} {c:Nat} {x:Str} {es:List Expr} {p pos:Pos} {cl:Lo->Mn (List V)} (hsc:env.scope=Γ.sc) (h1:P.ok.isNone=true) (h2:cR9 P Γ c x=true) (h3:cB5 P c=true) (h4:aR es=true) (hl:SiL W A fs env Γ.vis (spliced (backTo pos (starEach es env))) cl) :
  SiE W A fs env Γ.vis (eval (.Call (.Name x p) es [] pos) env) (fun r=>bnd (cl r) fun vs=>cQ7 P.S F c vs):=by
 rcases dF2 X h3 with ⟨D,N,mN,k0,C,c1,c2,c3,c4,c5,c6⟩
 rcases dA6 hsc h2 with ⟨a,b,e⟩
 have:=e_new (F:=F) (p:=p) X.gl (X.ca.symm▸e) a b h4 C c1 c3 c4 c5 c6 (X.new (Option.isNone_iff_eq_none.mp h1) k0 c2) hl
 rw [X.S] at this
 exact this
theorem cC0 (X:Fx W P A fs n F) {Γ:Cx} {env:Env} {k:Nat} {o:Expr} {x:Str} {es:List Expr} {apos pos:Pos} {co:Lo->Mn V} {cl:Lo->Mn (List V)} (h1:P.ok.isNone=true) (h2:bT0 P k x=true) (h3:eQ o=true) (h4:aR es=true) (h5:es.length < 29) (h6:(apos.endLine == pos.line)=true) (ho:SiE W A fs env Γ.vis (eval o env) co) (hl:SiL W A fs env Γ.vis (spliced (backTo pos (starEach es env))) cl) :
  SiE W A fs env Γ.vis (eval (.Call (.Attribute o x apos) es [] pos) env) (fun r=>bnd (co r) fun v=>bnd (fE P.S k v) fun j=>bnd (cl r) fun vs=>F j (v::vs)):=by
 have hn:=Option.isNone_iff_eq_none.mp h1
 have:=dE5 (F:=F) (apos:=apos) X.gl h3 h4 h5 h6 (X.S.symm▸cL1 h2) (fun j hj=>X.fa.symm▸X.objs hn j (X.S▸hj)) (fun j y_=>X.calls j (by unfold Px.can;rw [hn])) ho hl
 rw [X.S] at this
 exact this
mutual
theorem evE (X:Fx W P A fs n F):∀ (c:CE) (Γ:Cx) (env:Env) (e:Expr),env.scope=Γ.sc->mE P Γ c e=true->SiE W A fs env Γ.vis (eval e env) (fun r=>ev P.S F c r)
 | .cnst v,Γ,env,e,hsc,h=>by
  refine aH (o:=aR2 e) h fun q hq h=>?_
  rcases bM1 hq with ⟨y_,y_,rfl⟩
  exact cU3 (by cases v <;> cases q <;> exact h)
 | .var i,Γ,env,e,hsc,h=>by
  refine aH (o:=bQ e) h fun q hq h=>?_
  rw [cS hq]
  exact e_loc hsc h
 | .glob i,Γ,env,e,hsc,h=>by
  refine aH (o:=bQ e) h fun q hq h=>?_
  rw [cS hq]
  exact dE7 X hsc h
 | .fnv _,_,_,_,_,h=>aD h
 | .bin op a b,Γ,env,e,hsc,h=>by
  refine aH (o:=cY2 e) h fun q hq h=>?_
  rcases cN3 hq with ⟨y_,rfl⟩
  have h2:=(aB h).2
  have h:=(aB h).1
  have h1:=(aB h).2
  have h0:=(aB h).1
  rw [<- dW h0]
  exact e_bin (evE X a Γ env _ hsc h1) (evE X b Γ env _ hsc h2)
 | .neg _,_,_,_,_,h=>aD h
 | .not a,Γ,env,e,hsc,h=>by
  refine aH (o:=vUn e) h fun q hq h=>?_
  rcases cH1 hq with ⟨y_,rfl⟩
  have h1:=(aB h).2
  have h0:=(aB h).1
  rw [bE4 h0]
  exact e_not (evE X a Γ env _ hsc h1)
 | .boolop c as,Γ,env,e,hsc,h=>by
  refine aH (o:=aX5 e) h fun q hq h=>?_
  rcases bB9 hq with ⟨y_,rfl⟩
  have h3:=(aB h).2
  have h:=(aB h).1
  have h2:=(aB h).2
  have h1:=(aB h).1
  exact evBo X as Γ env _ _ _ _ hsc h1 h2 (aB2 h3)
 | .cmp a ops bs,Γ,env,e,hsc,h=>by
  have h0:=h
  refine aH (o:=cH3 e) h fun q hq y_=>?_
  rcases bM3 hq with ⟨pos,rfl⟩
  rcases cK4 h0 with ⟨h0,h1,h2,h3,h4,h5⟩
  rw [<- h0]
  exact e_cmp (evE X a Γ env _ hsc h1) (evCm X bs Γ env _ _ _ hsc h3 h4 h2 h5)
 | .ite _ _ _,_,_,_,_,h=>aD h
 | .tup as,Γ,env,e,hsc,h=>by
  refine aH (o:=bB7 e) h fun q hq h=>?_
  rcases aN1 hq with ⟨y_,y_,rfl⟩
  have h3:=(aB h).2
  have h:=(aB h).1
  have h2:=(aB h).2
  have h1:=(aB h).1
  exact e_tup (evL X as Γ env _ _ hsc h2 h1) fun r m vs m' q=>by rw [bA8 q];exact Nat.le_trans (dW h3) (by decide)
 | .list as,Γ,env,e,hsc,h=>by
  refine aH (o:=bL7 e) h fun q hq h=>?_
  rcases bX7 hq with ⟨y_,rfl⟩
  have h3:=(aB h).2
  have h:=(aB h).1
  have h2:=(aB h).2
  have h1:=(aB h).1
  exact dE6 (evL X as Γ env _ _ hsc h2 h1) fun r m vs m' q=>by rw [bA8 q];exact Nat.le_trans (dW h3) (by decide)
 | .dict ks vs,Γ,env,e,hsc,h=>by
  refine aH (o:=bL9 e) h fun q hq h=>?_
  rcases bY1 hq with ⟨y_,rfl⟩
  cases ks with
  | nil=>
   have h:(vs.isEmpty&&q.1.isEmpty&&q.2.isEmpty)=true:=h
   rw [eR (aB (aB h).1).1,eR (aB (aB h).1).2,eR (aB h).2]
   exact cU2
  | cons k ks=>
   exact aD h
 | .idx a i,Γ,env,e,hsc,h=>by
  refine aH (o:=bX3 e) h fun q hq h=>?_
  rcases aX4 hq with ⟨y_,rfl⟩
  have h2:=(aB h).2
  have h:=(aB h).1
  have h1:=(aB h).2
  exact e_idx X.R (evE X a Γ env _ hsc h1) (evE X i Γ env _ hsc h2)
 | .slice a lo hi st,Γ,env,e,hsc,h=>by
  refine aH (o:=bX3 e) h fun q hq h=>?_
  rcases aX4 hq with ⟨y_,rfl⟩
  rcases aB h with ⟨h1,h⟩
  refine aH (o:=aR1 q.2) h fun t ht h=>?_
  rcases bL3 ht with ⟨y_,he⟩
  rw [he]
  have h4:=(aB h).2
  have h:=(aB h).1
  have h3:=(aB h).2
  have h2:=(aB h).1
  exact cU1 (evE X a Γ env _ hsc h1) (o_of h2 fun l hl=>evE X lo Γ env l hsc hl) (o_of h3 fun l hl=>evE X hi Γ env l hsc hl) (o_of h4 fun l hl=>evE X st Γ env l hsc hl)
 | .attr a k,Γ,env,e,hsc,h=>by
  refine aH (o:=aF0 e) h fun q hq h=>?_
  rw [aD8 hq]
  have h3:=(aB h).2
  have h:=(aB h).1
  have h2:=(aB h).2
  have h1:=(aB h).1
  rcases cJ8 h2 with ⟨hx,hf⟩
  exact dE9 h1 (X.S.symm▸hx) (X.S.symm▸hf) (evE X a Γ env _ hsc h3)
 | .call k as,Γ,env,e,hsc,h=>by
  refine aH (o:=b9 e) h fun q hq h=>?_
  rcases cT hq with ⟨y_,y_,rfl⟩
  have h3:=(aB h).2
  have h:=(aB h).1
  have h2:=(aB h).2
  have h1:=(aB h).1
  rcases dD4 hsc h1 with ⟨h0,a,b,c,o,fd,d,e⟩
  exact cU5 X.gl c d e a b h2 (evL X as Γ env _ _ hsc h2 h3) (X.fa▸X.calls k h0)
 | .callv _ _,_,_,_,_,h=>aD h
 | .new c as,Γ,env,e,hsc,h=>by
  refine aH (o:=b9 e) h fun q hq h=>?_
  rcases cT hq with ⟨y_,y_,rfl⟩
  have h5:=(aB h).2
  have h:=(aB h).1
  have h4:=(aB h).2
  have h:=(aB h).1
  have h3:=(aB h).2
  have h:=(aB h).1
  have h2:=(aB h).2
  have h1:=(aB h).1
  exact cQ6 X hsc h1 h2 h3 h4 (evL X as Γ env _ _ hsc h4 h5)
 | .meth o k as,Γ,env,e,hsc,h=>by
  refine aH (o:=aN4 e) h fun q hq h=>?_
  rw [aN3 hq]
  refine aH (o:=aF0 q.1) h fun t ht h=>?_
  rw [aD8 ht]
  have h9:=(aB h).2
  have h:=(aB h).1
  have h8:=(aB h).2
  have h:=(aB h).1
  have h7:=(aB h).2
  have h:=(aB h).1
  have h6:=(aB h).2
  have h:=(aB h).1
  have h5:=(aB h).2
  have h:=(aB h).1
  have h4:=(aB h).2
  have h:=(aB h).1
  have h3:=(aB h).2
  have h:=(aB h).1
  have h2:=(aB h).2
  have h1:=(aB h).1
  rw [eR h7]
  exact cC0 X h1 h2 h3 h4 (dW h5) h6 (evE X o Γ env _ hsc h8) (evL X as Γ env _ _ hsc h4 h9)
 | .smeth o sm as,Γ,env,e,hsc,h=>by
  refine aH (o:=aN4 e) h fun q hq h=>?_
  rw [aN3 hq]
  refine aH (o:=aF0 q.1) h fun t ht h=>?_
  rw [aD8 ht]
  have h8:=(aB h).2
  have h:=(aB h).1
  have h7:=(aB h).2
  have h:=(aB h).1
  have h6:=(aB h).2
  have h:=(aB h).1
  have h5:=(aB h).2
  have h:=(aB h).1
  have h4:=(aB h).2
  have h:=(aB h).1
  have h3:=(aB h).2
  have h:=(aB h).1
  have h2:=(aB h).2
  have h1:=(aB h).1
  rw [beq_iff_eq.mp h1,eR h6]
  exact cU0 X.gl.ok h2 h3 (dW h4) h5 (evE X o Γ env _ hsc h7) (evL X as Γ env _ _ hsc h3 h8)
 | .bi b as,Γ,env,e,hsc,h=>by
  refine aH (o:=b9 e) h fun q hq h=>?_
  rcases cT hq with ⟨y_,y_,rfl⟩
  have hz:=(aB h).2
  have h0:=(aB h).1
  have h4:=(aB hz).2
  have h:=(aB hz).1
  have h3:=(aB h).2
  have h:=(aB h).1
  have h2:=(aB h).2
  have h1:=(aB h).1
  exact e_bi X hsc h0 h1 h2 h3 (fun pos=>evL X as Γ env q.2 pos hsc h3 h4)
 | .listrange as,Γ,env,e,hsc,h=>by
  refine aH (o:=b9 e) h fun q hq h=>?_
  rcases cT hq with ⟨y_,y_,rfl⟩
  refine aH (o:=cH2 q.2) h fun e1 h1 h=>?_
  rw [aN2 h1]
  refine aH (o:=b9 e1) h fun p hp h=>?_
  rcases cT hp with ⟨y_,y_,rfl⟩
  have h4:=(aB h).2
  have h:=(aB h).1
  have h3:=(aB h).2
  have h:=(aB h).1
  have h2:=(aB h).2
  have h:=(aB h).1
  have h1:=(aB h).2
  have h0:=(aB h).1
  rcases aK5 hsc h1 with ⟨a,b,c,d,e⟩
  rcases aK5 hsc h2 with ⟨a',b',c',d',e'⟩
  exact bB0 (X.hh h0) X.gl d' e' c' a' b' d e c a b h3 (evL X as Γ env _ _ hsc h3 h4)
 | .isi a t,Γ,env,e,hsc,h=>by
  refine aH (o:=b9 e) h fun q hq h=>?_
  rcases cT hq with ⟨px,pos,rfl⟩
  refine aH (o:=cM8 q.2) h fun p hp h=>?_
  rw [bL2 hp]
  refine aH (o:=bQ p.2) h fun y hy h=>?_
  rw [cS hy]
  have h5:=(aB h).2
  have h:=(aB h).1
  have h4:=(aB h).2
  have h:=(aB h).1
  have h2:=(aB h).2
  have h1:=(aB h).1
  rcases cK5 hsc h1 with ⟨a1,b1,c1,d1,e1⟩
  exact cR7 X hsc (px:=px) (pos:=pos) d1 e1 c1 a1 b1 h2 h4 (evE X a Γ env _ hsc h5)
 | .comp elt t nl k src ifs,Γ,env,e,hsc,h=>by
  refine aH (o:=aR3 e) h fun q hq h=>?_
  rcases bB8 hq with ⟨pos,rfl⟩
  refine aH (o:=cH2 q.2.1) h fun g hg h=>?_
  rw [aN2 hg]
  refine aH (o:=vTg P.loud Γ.vis.length t g.target) h fun x hx h=>?_
  have h5:=(aB h).2
  have h:=(aB h).1
  have h4:=(aB h).2
  have h:=(aB h).1
  have h3:=(aB h).2
  have h:=(aB h).1
  have h2:=(aB h).2
  have h:=(aB h).1
  have h1:=(aB h).2
  have h:=(aB h).1
  have h0:=(aB h).2
  have hnl:=(aB h).1
  rw [dW hnl,cJ7 h0]
  exact cF7 (cK2 X hx) (aW1 hsc h1) (bC4 h2) (aL1 X hsc h3 (fun e c hc he=>cF1 X src Γ env e hsc c hc he) (fun es pos hs he=>evL X src Γ env es pos hsc hs he))
   (fun cl C=>cT7 X ifs (aM3 q.2.2 x Γ) _ g.ifs (aE3 hsc) h4) (fun cl C=>evE X elt (aM3 q.2.2 x Γ) _ q.1 (aE3 hsc) h5)
theorem cF1 (X:Fx W P A fs n F):∀ (cs:List CE) (Γ:Cx) (env:Env) (e:Expr),env.scope=Γ.sc->∀ c,cs=[c]->mE P Γ c e=true->SiE W A fs env Γ.vis (eval e env) (fun r=>ev P.S F c r)
 | [],Γ,env,e,hsc,c',hc,h=>cQ4 hc
 | c::cs,Γ,env,e,hsc,c',hc,h=>by
  have hc1:c'=c:=by injection hc with a;exact a.symm
  rw [hc1] at h ⊢
  exact evE X c Γ env e hsc h
theorem evL (X:Fx W P A fs n F):∀ (cs:List CE) (Γ:Cx) (env:Env) (es:List Expr) (pos:Pos),env.scope=Γ.sc->aR es=true->mEs P Γ cs es=true->SiL W A fs env Γ.vis (spliced (backTo pos (starEach es env))) (fun r=>evs P.S F cs r)
 | [],Γ,env,es,pos,hsc,hs,h=>by
  rw [aO9 h]
  exact l_nil
 | c::cs,Γ,env,es,pos,hsc,hs,h=>by
  rcases cJ h with ⟨e,es',he,h1,h2⟩
  rw [he] at hs ⊢
  exact dB8 (evE X c Γ env _ hsc h1) (evL X cs Γ env _ _ hsc (fQ hs) h2) (eM hs)
theorem evBo (X:Fx W P A fs n F):∀ (cs:List CE) (Γ:Cx) (env:Env) (es:List Expr) (pos:Pos) (op:BoolOp) (b:Bool),env.scope=Γ.sc->dC6 b op=true->mEs P Γ cs es=true->cs≠[]->SiE W A fs env Γ.vis (boolOp pos op (evalEach es env)) (fun r=>evB P.S F b cs r)
 | [],Γ,env,es,pos,op,b,hsc,ho,h,hne=>absurd rfl hne
 | [c],Γ,env,es,pos,op,b,hsc,ho,h,hne=>by
  rcases cJ h with ⟨e,es',he,h1,h2⟩
  rw [he,aO9 h2]
  exact b_one (evE X c Γ env _ hsc h1)
 | c::c'::cs,Γ,env,es,pos,op,b,hsc,ho,h,hne=>by
  rcases cJ h with ⟨e,es',he,h1,h2⟩
  have h2':=h2
  rcases cJ h2 with ⟨e',es'',he',y_,y_⟩
  rw [he]
  rw [he'] at h2' ⊢
  exact dG3 (cP8 ho) (evE X c Γ env _ hsc h1) (evBo X (c'::cs) Γ env (e'::es'') pos op b hsc ho h2' (List.cons_ne_nil _ _))
theorem evCm (X:Fx W P A fs n F):∀ (cs:List CE) (Γ:Cx) (env:Env) (es:List Expr) (pos:Pos) (ops:List CmpOp),env.scope=Γ.sc->ops.length=cs.length->cs≠[]->mEs P Γ cs es=true->es.all aO6=true->SiC W A fs env Γ.vis (fun u=>compareChain pos u ops (markedEach ops es (evalEach es env))) (fun x r=>evC P.S F x ops cs r)
 | [],Γ,env,es,pos,ops,hsc,hl,hne,h,hs=>absurd rfl hne
 | [c],Γ,env,es,pos,ops,hsc,hl,hne,h,hs=>by
  rcases cJ h with ⟨e,es',he,h1,h2⟩
  rcases List.length_eq_one_iff.mp hl with ⟨op,rfl⟩
  rw [he,aO9 h2] at hs ⊢
  exact c_one X.gl.ok X.R (bD8 (aB hs).1) (evE X c Γ env _ hsc h1)
 | c::c'::cs,Γ,env,es,pos,ops,hsc,hl,hne,h,hs=>by
  rcases cJ h with ⟨e,es',he,h1,h2⟩
  have h2':=h2
  rcases cJ h2 with ⟨e',es'',he',y_,y_⟩
  rw [he] at hs ⊢
  rw [he'] at h2' hs ⊢
  rcases bM9 hl with ⟨op,op',ops',rfl⟩
  exact dF7 X.gl.ok X.R (evE X c Γ env _ hsc h1) (evCm X (c'::cs) Γ env (e'::es'') pos (op'::ops') hsc (Nat.succ.inj hl) (List.cons_ne_nil _ _) h2' (aB hs).2)
theorem evCt (X:Fx W P A fs n F):∀ (cs:List CE) (Γ:Cx) (env:Env) (es:List Expr) (pos:Pos) (ops:List CmpOp),env.scope=Γ.sc->ops.length=cs.length->cs≠[]->mEs P Γ cs es=true->es.all aO6=true->dG7 W A fs env Γ.vis (fun u=>testChain pos u ops (markedEach ops es (evalEach es env))) (fun x r=>evC P.S F x ops cs r)
 | [],Γ,env,es,pos,ops,hsc,hl,hne,h,hs=>absurd rfl hne
 | [c],Γ,env,es,pos,ops,hsc,hl,hne,h,hs=>by
  rcases cJ h with ⟨e,es',he,h1,h2⟩
  rcases List.length_eq_one_iff.mp hl with ⟨op,rfl⟩
  rw [he,aO9 h2] at hs ⊢
  exact t_one X.gl.ok X.R (bD8 (aB hs).1) (evE X c Γ env _ hsc h1)
 | c::c'::cs,Γ,env,es,pos,ops,hsc,hl,hne,h,hs=>by
  rcases cJ h with ⟨e,es',he,h1,h2⟩
  have h2':=h2
  rcases cJ h2 with ⟨e',es'',he',y_,y_⟩
  rw [he] at hs ⊢
  rw [he'] at h2' hs ⊢
  rcases bM9 hl with ⟨op,op',ops',rfl⟩
  exact cY7 X.gl.ok X.R (evE X c Γ env _ hsc h1) (evCt X (c'::cs) Γ env (e'::es'') pos (op'::ops') hsc (Nat.succ.inj hl) (List.cons_ne_nil _ _) h2' (aB hs).2)
theorem dE1 (X:Fx W P A fs n F):∀ (b:CB) (Γ:Cx) (env:Env) (e:Expr),env.scope=Γ.sc->mB P Γ b e=true->SiB W A fs env Γ.vis (isTrue e env (eval e env)) (fun r=>evT P.S F b r)
 | .not b,Γ,env,e,hsc,h=>by
  refine aH (o:=vUn e) h fun q hq h=>?_
  rcases cH1 hq with ⟨y_,rfl⟩
  have h1:=(aB h).2
  have h0:=(aB h).1
  rw [bE4 h0]
  exact t_not (dE1 X b Γ env _ hsc h1)
 | .all c bs,Γ,env,e,hsc,h=>by
  refine aH (o:=aX5 e) h fun q hq h=>?_
  rcases bB9 hq with ⟨y_,rfl⟩
  have h1:=(aB h).2
  have h0:=(aB h).1
  exact t_all (dE2 X bs Γ env _ _ _ hsc h0 h1)
 | .val c,Γ,env,e,hsc,h=>by
  rcases cX6 h with ⟨hp,hm⟩ | ⟨a,ops,bs,pos,he,hm⟩
  ·exact t_val (evE X c Γ env e hsc hm) (aO3 hp)
  ·subst he
   exact evCa X c Γ env a ops bs pos hsc hm
theorem evCa (X:Fx W P A fs n F):∀ (c:CE) (Γ:Cx) (env:Env) (a:Expr) (ops:List CmpOp) (bs:List Expr) (pos:Pos),env.scope=Γ.sc->mE P Γ c (.Compare a ops bs pos)=true->SiB W A fs env Γ.vis (isTrue (.Compare a ops bs pos) env (eval (.Compare a ops bs pos) env)) (fun r=>bnd (ev P.S F c r) fB)
 | .cmp ca cops cbs,Γ,env,a,ops,bs,pos,hsc,h=>by
  rcases cK4 h with ⟨h0,h1,h2,h3,h4,h5⟩
  subst h0
  exact t_cmp (W:=W) (A:=A) (fs:=fs) (env:=env) (vis:=Γ.vis) (pos:=pos) (a:=a) (ops:=cops) (bs:=bs) (ca:=fun r=>ev P.S F ca r) (cc:=fun x r=>evC P.S F x cops cbs r) (evE X ca Γ env a hsc h1) (evCt X cbs Γ env bs pos cops hsc h3 h4 h2 h5)
 | .cnst _,_,_,_,_,_,_,_,h=>aD h
 | .var _,_,_,_,_,_,_,_,h=>aD h
 | .glob _,_,_,_,_,_,_,_,h=>aD h
 | .fnv _,_,_,_,_,_,_,_,h=>aD h
 | .bin _ _ _,_,_,_,_,_,_,_,h=>aD h
 | .neg _,_,_,_,_,_,_,_,h=>aD h
 | .not _,_,_,_,_,_,_,_,h=>aD h
 | .boolop _ _,_,_,_,_,_,_,_,h=>aD h
 | .ite _ _ _,_,_,_,_,_,_,_,h=>aD h
 | .tup _,_,_,_,_,_,_,_,h=>aD h
 | .list _,_,_,_,_,_,_,_,h=>aD h
 | .dict _ _,_,_,_,_,_,_,_,h=>aD h
 | .idx _ _,_,_,_,_,_,_,_,h=>aD h
 | .slice _ _ _ _,_,_,_,_,_,_,_,h=>aD h
 | .attr _ _,_,_,_,_,_,_,_,h=>aD h
 | .call _ _,_,_,_,_,_,_,_,h=>aD h
 | .callv _ _,_,_,_,_,_,_,_,h=>aD h
 | .new _ _,_,_,_,_,_,_,_,h=>aD h
 | .meth _ _ _,_,_,_,_,_,_,_,h=>aD h
 | .smeth _ _ _,_,_,_,_,_,_,_,h=>aD h
 | .bi _ _,_,_,_,_,_,_,_,h=>aD h
 | .listrange _,_,_,_,_,_,_,_,h=>aD h
 | .isi _ _,_,_,_,_,_,_,_,h=>aD h
 | .comp _ _ _ _ _ _,_,_,_,_,_,_,_,h=>aD h
theorem dE2 (X:Fx W P A fs n F):∀ (bs:List CB) (Γ:Cx) (env:Env) (es:List Expr) (op:BoolOp) (b:Bool),env.scope=Γ.sc->dC6 b op=true->cC5 P Γ bs es=true->SiB W A fs env Γ.vis (allTrue op es env) (fun r=>bK2 P.S F b bs r)
 | [],Γ,env,es,op,b,hsc,ho,h=>by
  rw [bE0 h]
  exact t_nil (cP8 ho)
 | c::cs,Γ,env,es,op,b,hsc,ho,h=>by
  rcases aT3 h with ⟨e,es',he,h1,h2⟩
  rw [he]
  exact cY8 (cP8 ho) (dE1 X c Γ env _ hsc h1) (dE2 X cs Γ env _ op b hsc ho h2)
theorem cT7 (X:Fx W P A fs n F):∀ (bs:List CB) (Γ:Cx) (env:Env) (es:List Expr),env.scope=Γ.sc->cC5 P Γ bs es=true->SiB W A fs env Γ.vis (fL es env true) (fun r=>bK3 P.S F bs r)
 | [],Γ,env,es,hsc,h=>by
  rw [bE0 h]
  exact dD1
 | c::cs,Γ,env,es,hsc,h=>by
  rcases aT3 h with ⟨e,es',he,h1,h2⟩
  rw [he]
  exact cS8 (dE1 X c Γ env _ hsc h1) (cT7 X cs Γ env _ hsc h2)
end
end
end Mini
namespace Mini
open PySem PySem.W PyProof.Rows
section
variable {W:Wd} {P:Px} {fs:List Env} {A:Around} {n:Nat} {F:Fns} {env:Env}
theorem bN5 {Γ:Cx} {i:Nat} {x:Str} (hsc:env.scope=Γ.sc) (h:bJ0 Γ i x=true):Γ.vis[i]?=some (some x) /\ (env.kindOf x=some .local \/ env.kindOf x=some .cell):=by
 refine ⟨eq_of_beq (aY h).1,?_⟩
 show env.scope.names.lookup x=_ \/ env.scope.names.lookup x=_
 rw [hsc]
 rcases Bool.or_eq_true_iff.mp (aY h).2 with q | q
 ·exact .inl (eq_of_beq q)
 ·exact .inr (eq_of_beq q)
theorem mT_of {Γ:Cx} {t:CT} {tg:Expr} (h:mT Γ t tg=true):∃ i x pos,t=.one i /\ tg=.Name x pos /\ bJ0 Γ i x=true:=by
 cases t with
 | many is=>exact aD h
 | one i=>
  refine aH (o:=bQ tg) h fun q hq h=>?_
  exact ⟨i,q.1,q.2,rfl,cS hq,h⟩
noncomputable def dH6 (c:List Expr×Expr×Pos) (e:Stmt):Prop:=e=.Assign c.1 c.2.1 c.2.2
theorem bY6 {e:Stmt} {c:List Expr×Expr×Pos} (h:cY3 e=some c):dH6 c e:=
 Stmt.casesOn (motive_2:=fun e=>cY3 e=some c->dH6 c e) e (fun y_ y_ y_ y_ y_ y_ y_ y_ y_ y_=>aA) (fun y_ y_ y_ y_ y_ y_ y_ y_ y_ y_=>aA) (fun y_ y_ y_ y_ y_ y_ y_ y_ y_ y_ y_=>aA) (fun y_ y_=>aA) (fun y_ y_=>aA) (fun y_ y_ y_ h=>by cases h;rfl) (fun y_ y_ y_ y_ y_ y_ y_=>aA) (fun y_ y_ y_ y_=>aA) (fun y_ y_ y_ y_ y_=>aA) (fun y_ y_ y_ y_ y_=>aA) (fun y_ y_ y_ y_ y_=>aA) (fun y_ y_ y_ y_=>aA) (fun y_ y_ y_ y_=>aA) (fun y_ y_ y_=>aA) (fun y_ y_ y_=>aA) (fun y_ y_ y_=>aA) (fun y_ y_ y_=>aA) (fun y_ y_ y_ y_ y_=>aA) (fun y_ y_ y_ y_ y_=>aA) (fun y_ y_ y_=>aA) (fun y_ y_=>aA) (fun y_ y_ y_ y_=>aA) (fun y_ y_=>aA) (fun y_ y_=>aA) (fun y_ y_=>aA) (fun y_=>aA) (fun y_=>aA) (fun y_=>aA) h
theorem cN4 {e:Stmt} {c:List Expr×Expr×Pos} (h:cY3 e=some c):e=.Assign c.1 c.2.1 c.2.2:=bY6 h
noncomputable def dH3 (c:Expr) (e:Stmt):Prop:=∃ pos,e=.Expr c pos
theorem bY0 {e:Stmt} {c:Expr} (h:cY1 e=some c):dH3 c e:=
 Stmt.casesOn (motive_2:=fun e=>cY1 e=some c->dH3 c e) e (fun y_ y_ y_ y_ y_ y_ y_ y_ y_ y_=>aA) (fun y_ y_ y_ y_ y_ y_ y_ y_ y_ y_=>aA) (fun y_ y_ y_ y_ y_ y_ y_ y_ y_ y_ y_=>aA) (fun y_ y_=>aA) (fun y_ y_=>aA) (fun y_ y_ y_=>aA) (fun y_ y_ y_ y_ y_ y_ y_=>aA) (fun y_ y_ y_ y_=>aA) (fun y_ y_ y_ y_ y_=>aA) (fun y_ y_ y_ y_ y_=>aA) (fun y_ y_ y_ y_ y_=>aA) (fun y_ y_ y_ y_=>aA) (fun y_ y_ y_ y_=>aA) (fun y_ y_ y_=>aA) (fun y_ y_ y_=>aA) (fun y_ y_ y_=>aA) (fun y_ y_ y_=>aA) (fun y_ y_ y_ y_ y_=>aA) (fun y_ y_ y_ y_ y_=>aA) (fun y_ y_ y_=>aA) (fun y_ y_=>aA) (fun y_ y_ y_ y_=>aA) (fun y_ y_=>aA) (fun y_ y_=>aA) (fun y_ y_ h=>by cases h;exact ⟨_,rfl⟩) (fun y_=>aA) (fun y_=>aA) (fun y_=>aA) h
theorem cN2 {e:Stmt} {c:Expr} (h:cY1 e=some c):∃ pos,e=.Expr c pos:=bY0 h
noncomputable def dH1 (c:Expr×List Stmt×List Stmt) (e:Stmt):Prop:=∃ pos,e=.If c.1 c.2.1 c.2.2 pos
theorem bX8 {e:Stmt} {c:Expr×List Stmt×List Stmt} (h:cX9 e=some c):dH1 c e:=
 Stmt.casesOn (motive_2:=fun e=>cX9 e=some c->dH1 c e) e (fun y_ y_ y_ y_ y_ y_ y_ y_ y_ y_=>aA) (fun y_ y_ y_ y_ y_ y_ y_ y_ y_ y_=>aA) (fun y_ y_ y_ y_ y_ y_ y_ y_ y_ y_ y_=>aA) (fun y_ y_=>aA) (fun y_ y_=>aA) (fun y_ y_ y_=>aA) (fun y_ y_ y_ y_ y_ y_ y_=>aA) (fun y_ y_ y_ y_=>aA) (fun y_ y_ y_ y_ y_=>aA) (fun y_ y_ y_ y_ y_=>aA) (fun y_ y_ y_ y_ y_=>aA) (fun y_ y_ y_ y_=>aA) (fun y_ y_ y_ y_ h=>by cases h;exact ⟨_,rfl⟩) (fun y_ y_ y_=>aA) (fun y_ y_ y_=>aA) (fun y_ y_ y_=>aA) (fun y_ y_ y_=>aA) (fun y_ y_ y_ y_ y_=>aA) (fun y_ y_ y_ y_ y_=>aA) (fun y_ y_ y_=>aA) (fun y_ y_=>aA) (fun y_ y_ y_ y_=>aA) (fun y_ y_=>aA) (fun y_ y_=>aA) (fun y_ y_=>aA) (fun y_=>aA) (fun y_=>aA) (fun y_=>aA) h
theorem cN0 {e:Stmt} {c:Expr×List Stmt×List Stmt} (h:cX9 e=some c):∃ pos,e=.If c.1 c.2.1 c.2.2 pos:=bX8 h
noncomputable def dH2 (c:Expr×Expr×List Stmt×List Stmt) (e:Stmt):Prop:=∃ pos,e=.For c.1 c.2.1 c.2.2.1 c.2.2.2 pos
theorem bX9 {e:Stmt} {c:Expr×Expr×List Stmt×List Stmt} (h:cY0 e=some c):dH2 c e:=
 Stmt.casesOn (motive_2:=fun e=>cY0 e=some c->dH2 c e) e (fun y_ y_ y_ y_ y_ y_ y_ y_ y_ y_=>aA) (fun y_ y_ y_ y_ y_ y_ y_ y_ y_ y_=>aA) (fun y_ y_ y_ y_ y_ y_ y_ y_ y_ y_ y_=>aA) (fun y_ y_=>aA) (fun y_ y_=>aA) (fun y_ y_ y_=>aA) (fun y_ y_ y_ y_ y_ y_ y_=>aA) (fun y_ y_ y_ y_=>aA) (fun y_ y_ y_ y_ y_=>aA) (fun y_ y_ y_ y_ y_ h=>by cases h;exact ⟨_,rfl⟩) (fun y_ y_ y_ y_ y_=>aA) (fun y_ y_ y_ y_=>aA) (fun y_ y_ y_ y_=>aA) (fun y_ y_ y_=>aA) (fun y_ y_ y_=>aA) (fun y_ y_ y_=>aA) (fun y_ y_ y_=>aA) (fun y_ y_ y_ y_ y_=>aA) (fun y_ y_ y_ y_ y_=>aA) (fun y_ y_ y_=>aA) (fun y_ y_=>aA) (fun y_ y_ y_ y_=>aA) (fun y_ y_=>aA) (fun y_ y_=>aA) (fun y_ y_=>aA) (fun y_=>aA) (fun y_=>aA) (fun y_=>aA) h
theorem cN1 {e:Stmt} {c:Expr×Expr×List Stmt×List Stmt} (h:cY0 e=some c):∃ pos,e=.For c.1 c.2.1 c.2.2.1 c.2.2.2 pos:=bX9 h
noncomputable def IsWh (c:Expr×List Stmt×List Stmt) (e:Stmt):Prop:=∃ pos,e=.While c.1 c.2.1 c.2.2 pos
theorem cM6 {e:Stmt} {c:Expr×List Stmt×List Stmt} (h:vWh e=some c):IsWh c e:=
 Stmt.casesOn (motive_2:=fun e=>vWh e=some c->IsWh c e) e (fun y_ y_ y_ y_ y_ y_ y_ y_ y_ y_=>aA) (fun y_ y_ y_ y_ y_ y_ y_ y_ y_ y_=>aA) (fun y_ y_ y_ y_ y_ y_ y_ y_ y_ y_ y_=>aA) (fun y_ y_=>aA) (fun y_ y_=>aA) (fun y_ y_ y_=>aA) (fun y_ y_ y_ y_ y_ y_ y_=>aA) (fun y_ y_ y_ y_=>aA) (fun y_ y_ y_ y_ y_=>aA) (fun y_ y_ y_ y_ y_=>aA) (fun y_ y_ y_ y_ y_=>aA) (fun y_ y_ y_ y_ h=>by cases h;exact ⟨_,rfl⟩) (fun y_ y_ y_ y_=>aA) (fun y_ y_ y_=>aA) (fun y_ y_ y_=>aA) (fun y_ y_ y_=>aA) (fun y_ y_ y_=>aA) (fun y_ y_ y_ y_ y_=>aA) (fun y_ y_ y_ y_ y_=>aA) (fun y_ y_ y_=>aA) (fun y_ y_=>aA) (fun y_ y_ y_ y_=>aA) (fun y_ y_=>aA) (fun y_ y_=>aA) (fun y_ y_=>aA) (fun y_=>aA) (fun y_=>aA) (fun y_=>aA) h
theorem cX7 {e:Stmt} {c:Expr×List Stmt×List Stmt} (h:vWh e=some c):∃ pos,e=.While c.1 c.2.1 c.2.2 pos:=cM6 h
noncomputable def dH0 (c:Option Expr) (e:Stmt):Prop:=∃ pos,e=.Return c pos
theorem bX4 {e:Stmt} {c:Option Expr} (h:cX8 e=some c):dH0 c e:=
 Stmt.casesOn (motive_2:=fun e=>cX8 e=some c->dH0 c e) e (fun y_ y_ y_ y_ y_ y_ y_ y_ y_ y_=>aA) (fun y_ y_ y_ y_ y_ y_ y_ y_ y_ y_=>aA) (fun y_ y_ y_ y_ y_ y_ y_ y_ y_ y_ y_=>aA) (fun y_ y_ h=>by cases h;exact ⟨_,rfl⟩) (fun y_ y_=>aA) (fun y_ y_ y_=>aA) (fun y_ y_ y_ y_ y_ y_ y_=>aA) (fun y_ y_ y_ y_=>aA) (fun y_ y_ y_ y_ y_=>aA) (fun y_ y_ y_ y_ y_=>aA) (fun y_ y_ y_ y_ y_=>aA) (fun y_ y_ y_ y_=>aA) (fun y_ y_ y_ y_=>aA) (fun y_ y_ y_=>aA) (fun y_ y_ y_=>aA) (fun y_ y_ y_=>aA) (fun y_ y_ y_=>aA) (fun y_ y_ y_ y_ y_=>aA) (fun y_ y_ y_ y_ y_=>aA) (fun y_ y_ y_=>aA) (fun y_ y_=>aA) (fun y_ y_ y_ y_=>aA) (fun y_ y_=>aA) (fun y_ y_=>aA) (fun y_ y_=>aA) (fun y_=>aA) (fun y_=>aA) (fun y_=>aA) h
theorem cM9 {e:Stmt} {c:Option Expr} (h:cX8 e=some c):∃ pos,e=.Return c pos:=bX4 h
noncomputable def cL8 (e:Stmt):Prop:=∃ pos,e=.Continue pos
theorem bM0 {e:Stmt} (h:bY3 e=true):cL8 e:=
 Stmt.casesOn (motive_2:=fun e=>bY3 e=true->cL8 e) e (fun y_ y_ y_ y_ y_ y_ y_ y_ y_ y_=>aD) (fun y_ y_ y_ y_ y_ y_ y_ y_ y_ y_=>aD) (fun y_ y_ y_ y_ y_ y_ y_ y_ y_ y_ y_=>aD) (fun y_ y_=>aD) (fun y_ y_=>aD) (fun y_ y_ y_=>aD) (fun y_ y_ y_ y_ y_ y_ y_=>aD) (fun y_ y_ y_ y_=>aD) (fun y_ y_ y_ y_ y_=>aD) (fun y_ y_ y_ y_ y_=>aD) (fun y_ y_ y_ y_ y_=>aD) (fun y_ y_ y_ y_=>aD) (fun y_ y_ y_ y_=>aD) (fun y_ y_ y_=>aD) (fun y_ y_ y_=>aD) (fun y_ y_ y_=>aD) (fun y_ y_ y_=>aD) (fun y_ y_ y_ y_ y_=>aD) (fun y_ y_ y_ y_ y_=>aD) (fun y_ y_ y_=>aD) (fun y_ y_=>aD) (fun y_ y_ y_ y_=>aD) (fun y_ y_=>aD) (fun y_ y_=>aD) (fun y_ y_=>aD) (fun y_=>aD) (fun y_=>aD) (fun y_ h=>by exact ⟨_,rfl⟩) h
theorem bY2 {e:Stmt} (h:bY3 e=true):∃ pos,e=.Continue pos:=bM0 h
noncomputable def cL5 (e:Stmt):Prop:=∃ pos,e=.Pass pos
theorem bL4 {e:Stmt} (h:bX6 e=true):cL5 e:=
 Stmt.casesOn (motive_2:=fun e=>bX6 e=true->cL5 e) e (fun y_ y_ y_ y_ y_ y_ y_ y_ y_ y_=>aD) (fun y_ y_ y_ y_ y_ y_ y_ y_ y_ y_=>aD) (fun y_ y_ y_ y_ y_ y_ y_ y_ y_ y_ y_=>aD) (fun y_ y_=>aD) (fun y_ y_=>aD) (fun y_ y_ y_=>aD) (fun y_ y_ y_ y_ y_ y_ y_=>aD) (fun y_ y_ y_ y_=>aD) (fun y_ y_ y_ y_ y_=>aD) (fun y_ y_ y_ y_ y_=>aD) (fun y_ y_ y_ y_ y_=>aD) (fun y_ y_ y_ y_=>aD) (fun y_ y_ y_ y_=>aD) (fun y_ y_ y_=>aD) (fun y_ y_ y_=>aD) (fun y_ y_ y_=>aD) (fun y_ y_ y_=>aD) (fun y_ y_ y_ y_ y_=>aD) (fun y_ y_ y_ y_ y_=>aD) (fun y_ y_ y_=>aD) (fun y_ y_=>aD) (fun y_ y_ y_ y_=>aD) (fun y_ y_=>aD) (fun y_ y_=>aD) (fun y_ y_=>aD) (fun y_ h=>by exact ⟨_,rfl⟩) (fun y_=>aD) (fun y_=>aD) h
theorem bX5 {e:Stmt} (h:bX6 e=true):∃ pos,e=.Pass pos:=bL4 h
theorem aS8 {v:Expr} {t:Option Expr} {line:Nat} (h:aB4 v=false):swapsWith v t line env=Pure.pure false:=by
 cases v <;> first | rfl | (exact aD h.symm)
structure Cmp (W:Wd) (P:Px) (A:Around) (fs:List Env) (F:Fns) (env:Env) (Γ:Cx) (c:CE) (e0:Expr) (gens:List Comprehension) (scope:Scope):Prop where
 parts:∃ elt k src ifs x t tg iter ifs',c=.comp elt t (List.length x) k src ifs /\ gens=[⟨tg,iter,ifs',0⟩] /\ CTg A Γ.vis (aI8 scope x Γ.vis) t tg /\ CompOk scope env Γ.vis (aI8 scope x Γ.vis) x.length /\ (∀ y,foldedSetIterable iter env y=Pure.pure y) /\
  SiSrc W A fs env Γ.vis iter (fun r=>bnd (evs P.S F src r) (fC k)) /\ (∀ cl C,SiB W A fs (compEnvC scope cl C env) (aI8 scope x Γ.vis) (fL ifs' (compEnvC scope cl C env) true) (fun r=>bK3 P.S F ifs r)) /\
  (∀ cl C,SiE W A fs (compEnvC scope cl C env) (aI8 scope x Γ.vis) (eval e0 (compEnvC scope cl C env)) (fun r=>ev P.S F elt r)) /\ env.scope.kind=.function
theorem bV4 (X:Fx W P A fs n F) {Γ:Cx}:∀ {c:CE} {e0:Expr} {gens:List Comprehension} {scope:Scope} {pos:Pos} (hsc:env.scope=Γ.sc) (h:mE P Γ c (.ListComp e0 gens scope pos)=true),Cmp W P A fs F env Γ c e0 gens scope:=by
 intro c e0 gens scope pos hsc h
 cases c with
 | comp elt t nl k src ifs=>
  refine aH (o:=cH2 gens) h fun g hg h=>?_
  rw [aN2 hg]
  refine aH (o:=vTg P.loud Γ.vis.length t g.target) h fun x hx h=>?_
  have h5:=(aB h).2
  have h:=(aB h).1
  have h4:=(aB h).2
  have h:=(aB h).1
  have h3:=(aB h).2
  have h:=(aB h).1
  have h2:=(aB h).2
  have h:=(aB h).1
  have h1:=(aB h).2
  have h:=(aB h).1
  have h0:=(aB h).2
  have hnl:=(aB h).1
  rw [dW hnl]
  have hf:env.scope.kind=.function:=by rw [hsc];exact beq_iff_eq.mp (aB h1).2
  exact ⟨elt,k,src,ifs,x,t,g.target,g.iter,g.ifs,rfl,by rw [<- cJ7 h0],cK2 X hx,aW1 hsc h1,bC4 h2,
   aL1 X hsc h3 (fun e c hc he=>cF1 X src Γ env e hsc c hc he) (fun es pos hs he=>evL X src Γ env es pos hsc hs he),
   fun cl C=>cT7 X ifs (aM3 scope x Γ) _ g.ifs (aE3 hsc) h4,fun cl C=>evE X elt (aM3 scope x Γ) _ e0 (aE3 hsc) h5,hf⟩
 | _=>exact aD h
theorem cV6 (X:Fx W P A (env::fs) n F) {Γ:Cx} {t:CT} {e:CE} {tg v:Expr} {pos:Pos} (hsc:env.scope=Γ.sc) (h:(mT Γ t tg&&mE P Γ e v&&(bQ tg).any fun y=>bQ9 Γ y v)=true) :
  SiS W A fs env Γ.vis (exec (.Assign [tg] v pos) env) (fun r=>ex P.S F (.asg (.one t) e) r):=by
 have h3:=(aB h).2
 have h:=(aB h).1
 have h2:=(aB h).2
 have h1:=(aB h).1
 rcases mT_of h1 with ⟨i,y,py,rfl,rfl,ht⟩
 rcases bN5 hsc ht with ⟨hv,hk⟩
 have h3:bQ9 Γ (y,py) v=true:=h3
 cases hc:aB4 v with
 | false=>exact bK7 (evE X e Γ env v hsc h2) (aX0 hv hk) (aS8 (env:=env) (line:=pos.line) (t:=some (.Name y py)) hc) rfl rfl
 | true=>
  have h3:(!aB4 v||(aR3 v).any fun q=>!(Γ.sc.names.lookup y == some .local)||(py.line == v.pos.line&&!(q.2.2.names.any fun (n,k)=>n == y&&(k == .local||k == .cell))))=true:=h3
  rw [hc] at h3
  refine aH (o:=aR3 v) h3 fun q hq h3=>?_
  rcases bB8 hq with ⟨cpos,rfl⟩
  rcases (bV4 X hsc h2).parts with ⟨elt,k,src,ifs,x,t,tg,iter,ifs',rfl,hgen,hg,ck,hs,hsrc,hifs,helt,hf⟩
  cases hloc:env.kindOf y == some .local with
  | true=>
   have hl':(Γ.sc.names.lookup y == some NameKind.local)=true:=by rw [<- hsc];exact hloc
   rw [hl'] at h3
   have h4:=(aB h3).2
   have h3:=(aB h3).1
   have hb:(env.blockKind == ScopeKind.function)=true:=by
    unfold Env.blockKind;rw [hf];rfl
   have hsw:swapsWithSole [.Name y py] (.ListComp q.1 q.2.1 q.2.2 cpos) pos.line env=Pure.pure true:=by
    show (Pure.pure _:Sem Bool)=_
    rw [hb,hloc,h3,h4];rfl
   rw [hgen] at hsw ⊢
   have:=bH2 (W:=W) (A:=A) (fs:=fs) (env:=env) (vis:=Γ.vis) (pos:=pos) (vis':=aI8 q.2.2 x Γ.vis) (nl:=x.length) (i:=i) ck hs hg hsrc hifs helt hsw hv (beq_iff_eq.mp hloc)
   intro s io m r Z
   have eq:ex P.S F (.asg (.one (.one i)) (.comp elt t x.length k src ifs)) r=bnd (bnd (bnd (evs P.S F src r) (fC k)) fun p=>bnd (bH p.2 (eK t (r++List.replicate x.length none) (fun r=>bK3 P.S F ifs r) (fun r=>ev P.S F elt r)) p.1) fun l=>if l.length <= lid then alloc (.list l) else bad) fun v=>bnd (fun m=>.ok (r.set i (some v)) m) fun r'=>ret (.next,r'):=by
    rw [bV (evs P.S F src r)];rfl
   dsimp only
   rw [eq]
   exact this s io m r Z
  | false=>
   have hsw:swapsWithSole [.Name y py] (.ListComp q.1 q.2.1 q.2.2 cpos) pos.line env=Pure.pure false:=by
    show (Pure.pure _:Sem Bool)=_
    rw [hloc,Bool.and_false];rfl
   exact bK7 (evE X _ Γ env _ hsc h2) (aX0 hv hk) hsw rfl rfl
theorem bR7 {Γ:Cx} (hsc:env.scope=Γ.sc):∀ {is:List Nat} {es:List Expr},mTs Γ is es=true->Tgs env Γ.vis is es
 | [],es,h=>eR h
 | i::is,[],h=>aD h
 | i::is,e::es,h=>by
  rcases aB (a:=(bQ e).any fun (x:Str×Pos)=>bJ0 Γ i x.1) (b:=mTs Γ is es) h with ⟨h1,h2⟩
  refine aH (o:=bQ e) h1 fun q hq h1=>?_
  rcases bN5 hsc h1 with ⟨hv,hk⟩
  exact ⟨q.1,q.2,es,by rw [cS hq],hv,hk,bR7 hsc h2⟩
theorem cQ3 {v:Expr} {ts:List Expr} {k:Nat} {p:Pos} (h:(bB7 v).isNone=true):swappedStores [.Tuple ts k p] v env=Pure.pure none:=by
 cases v <;> first | rfl | (exact aD h)
theorem cG7 (X:Fx W P A (env::fs) n F) {Γ:Cx} {is:List Nat} {e:CE} {tg v:Expr} {pos:Pos} (hsc:env.scope=Γ.sc) (h:(P.loud&&mTF Γ (.many is) tg&&mE P Γ e v&&!aB4 v&&(bB7 v).isNone)=true) :
  SiS W A fs env Γ.vis (exec (.Assign [tg] v pos) env) (fun r=>ex P.S F (.asg (.one (.many is)) e) r):=by
 have h5:=(aB h).2
 have h:=(aB h).1
 have h4:=(aB h).2
 have h:=(aB h).1
 have h3:=(aB h).2
 have h:=(aB h).1
 have h2:=(aB h).2
 have h1:=(aB h).1
 refine aH (o:=bB7 tg) h2 fun es hq h2=>?_
 rcases aN1 hq with ⟨k,pt,rfl⟩
 exact bK7 (evE X e Γ env v hsc h3) (cL4 (X.hh h1) (bR7 hsc h2)) (aS8 (env:=env) (line:=pos.line) (t:=some (.Tuple es k pt)) ((Bool.not_eq_true' _).mp h4)) (cQ3 h5) rfl
theorem cV7 (X:Fx W P A (env::fs) n F) {Γ:Cx} {t:CTgt} {e:CE} {tg v:Expr} {pos:Pos} (hsc:env.scope=Γ.sc) (h:mAsg P Γ t e tg v=true) :
  SiS W A fs env Γ.vis (exec (.Assign [tg] v pos) env) (fun r=>ex P.S F (.asg t e) r):=by
 cases t with
 | one t=>
  cases t with
  | one i=>exact cV6 X hsc h
  | many is=>exact cG7 X hsc h
 | attr o k=>
  refine aH (o:=aF0 tg) h fun q hq h=>?_
  rw [aD8 hq]
  have h4:=(aB h).2
  have h:=(aB h).1
  have h3:=(aB h).2
  have h:=(aB h).1
  have h2:=(aB h).2
  have h1:=(aB h).1
  rcases cJ8 h1 with ⟨hx,hf⟩
  exact bK7 (evE X e Γ env v hsc h3) (dG6 (X.S.symm▸hx) (X.S.symm▸hf) (evE X o Γ env _ hsc h2)) (aS8 (env:=env) (line:=pos.line) (t:=some (.Attribute q.1 q.2.1 q.2.2)) ((Bool.not_eq_true' _).mp h4)) rfl rfl
 | idx o i=>
  refine aH (o:=bX3 tg) h fun q hq h=>?_
  rcases aX4 hq with ⟨p,rfl⟩
  have h4:=(aB h).2
  have h:=(aB h).1
  have h3:=(aB h).2
  have h:=(aB h).1
  have h2:=(aB h).2
  have h1:=(aB h).1
  exact bK7 (evE X e Γ env v hsc h3) (a_idx X.R (evE X o Γ env _ hsc h1) (evE X i Γ env _ hsc h2)) (aS8 (env:=env) (line:=pos.line) (t:=some (.Subscript q.1 q.2 p)) ((Bool.not_eq_true' _).mp h4)) rfl rfl
 | idx2 o i o' i'=>exact aD h
theorem cT3 (hA:A.frames=some (env::fs)) {Γ:Cx} {i:Nat} {src:List CE} {k:IK} {body:List CS} {y:Str} {py pos:Pos} {iter:Expr} {b:List Stmt} (hsrc:bB4 W A (env::fs) env Γ.vis (.Name y py) iter (fun r=>bnd (evs P.S F src r) (fC k))) (hv:Γ.vis[i]?=some (some y)) (hk:env.kindOf y=some .local \/ env.kindOf y=some .cell)
  (hb:SiS W A fs env Γ.vis (execs b env) (fun r=>exs P.S F body r)) (hs:∀ x,foldedSetIterable iter env x=Pure.pure x):SiS W A fs env Γ.vis (exec (.For (.Name y py) iter b [] pos) env) (fun r=>ex P.S F (.for_ k (.one i) src body) r):=by
 have:=cW8 hA (pos:=pos) (target:=.Name y py) hsrc (aX0 hv hk) hb hs
 intro s io m r Z
 have eq:ex P.S F (.for_ k (.one i) src body) r=bnd (bnd (evs P.S F src r) (fC k)) fun p=>aM0 p.2 (fun v r'=>bnd (fun m=>.ok (r'.set i (some v)) m) fun r''=>exs P.S F body r'') p.1 r:=by
  rw [bV];rfl
 dsimp only
 rw [eq]
 exact this s io m r Z
theorem cE2 (hA:A.frames=some (env::fs)) (hh:A.handled=none) {Γ:Cx} {is:List Nat} {src:List CE} {k:IK} {body:List CS} {es:List Expr} {kx:Nat} {py pos:Pos} {iter:Expr} {b:List Stmt} (hsrc:bB4 W A (env::fs) env Γ.vis (.Tuple es kx py) iter (fun r=>bnd (evs P.S F src r) (fC k))) (ht:Tgs env Γ.vis is es)
  (hb:SiS W A fs env Γ.vis (execs b env) (fun r=>exs P.S F body r)) (hs:∀ x,foldedSetIterable iter env x=Pure.pure x):SiS W A fs env Γ.vis (exec (.For (.Tuple es kx py) iter b [] pos) env) (fun r=>ex P.S F (.for_ k (.many is) src body) r):=by
 have:=cW8 hA (pos:=pos) (target:=.Tuple es kx py) hsrc (cL4 hh ht) hb hs
 intro s io m r Z
 have eq:ex P.S F (.for_ k (.many is) src body) r=bnd (bnd (evs P.S F src r) (fC k)) fun p=>aM0 p.2 (fun v r'=>bnd (aE1 (.many is) v r') fun r''=>exs P.S F body r'') p.1 r:=by
  rw [bV];rfl
 dsimp only
 rw [eq]
 exact this s io m r Z
theorem cR1 {Γ:Cx} {es:List Stmt} (h:mSs P Γ [] es=true):es=[]:=eR h
theorem cC2 {Γ:Cx} {c:CS} {cs:List CS} {es:List Stmt} (h:mSs P Γ (c::cs) es=true):∃ e es',es=e::es' /\ mS P Γ c e=true /\ mSs P Γ cs es'=true:=by
 cases es with
 | nil=>exact aD h
 | cons e es=>have:=aB (a:=mS P Γ c e) (b:=mSs P Γ cs es) h;exact ⟨e,es,rfl,this.1,this.2⟩
mutual
theorem exS (X:Fx W P A (env::fs) n F):∀ (c:CS) (Γ:Cx) (st:Stmt),env.scope=Γ.sc->mS P Γ c st=true->SiS W A fs env Γ.vis (exec st env) (fun r=>ex P.S F c r)
 | .asg t e,Γ,st,hsc,h=>by
  refine aH (o:=cY3 st) h fun q hq h=>?_
  rw [cN4 hq]
  refine aH (o:=cH2 q.1) h fun tg ht h=>?_
  rw [aN2 ht]
  exact cV7 X hsc h
 | .exp e,Γ,st,hsc,h=>by
  refine aH (o:=cY1 st) h fun q hq h=>?_
  rcases cN2 hq with ⟨y_,rfl⟩
  have h2:=(aB h).2
  have h1:=(aB h).1
  exact x_exp (aS8 ((Bool.not_eq_true' _).mp h2)) (evE X e Γ env _ hsc h1)
 | .ite c a b,Γ,st,hsc,h=>by
  refine aH (o:=cX9 st) h fun q hq h=>?_
  rcases cN0 hq with ⟨y_,rfl⟩
  have h3:=(aB h).2
  have h:=(aB h).1
  have h2:=(aB h).2
  have h1:=(aB h).1
  exact x_if (dE1 X c Γ env _ hsc h1) (cT6 X a Γ _ hsc h2) (cT6 X b Γ _ hsc h3)
 | .for_ k t src body,Γ,st,hsc,h=>by
  refine aH (o:=cY0 st) h fun q hq h=>?_
  rcases cN1 hq with ⟨y_,rfl⟩
  have h4:=(aB h).2
  have h:=(aB h).1
  have h3:=(aB h).2
  have h:=(aB h).1
  have h2:=(aB h).2
  have h:=(aB h).1
  have h1:=(aB h).2
  have h0:=(aB h).1
  rw [eR h0]
  have hl:=bO2 h3
  cases t with
  | many is=>
   refine aH (o:=bB7 q.1) h1 fun es hq h1=>?_
   rcases aN1 hq with ⟨kx,pt,he⟩
   rw [he]
   exact cE2 X.R.frames (X.hh hl) (bO1 X hsc h3 (fun e c hc he=>cF1 X src Γ env e hsc c hc he) (fun es pos hs he=>evL X src Γ env es pos hsc hs he)) (bR7 hsc h1) (cT6 X body Γ _ hsc h4) (bC4 h2)
  | one i=>
  refine aH (o:=bQ q.1) h1 fun y hq ht=>?_
  rcases bN5 hsc ht with ⟨hv,hk⟩
  rw [cS hq]
  exact cT3 X.R.frames (bZ8 X hsc h3 (fun e c hc he=>cF1 X src Γ env e hsc c hc he) (fun es pos hs he=>evL X src Γ env es pos hsc hs he)) hv hk (cT6 X body Γ _ hsc h4) (bC4 h2)
 | .wh c body,Γ,st,hsc,h=>by
  refine aH (o:=vWh st) h fun q hq h=>?_
  rcases cX7 hq with ⟨y_,rfl⟩
  have h2:=(aB h).2
  have h:=(aB h).1
  have h1:=(aB h).2
  have h0:=(aB h).1
  rw [eR h0]
  exact cM3 (fuel:=cT2) (dE1 X c Γ env _ hsc h1) (cT6 X body Γ _ hsc h2)
 | .ret e,Γ,st,hsc,h=>by
  refine aH (o:=cX8 st) h fun q hq h=>?_
  rcases cM9 hq with ⟨y_,rfl⟩
  refine aH (o:=q) h fun v hv h=>?_
  rw [hv]
  exact x_ret (evE X e Γ env _ hsc h)
 | .rse c msg,Γ,st,hsc,h=>fun y_ y_ y_ y_ y_ hne=>absurd rfl hne
 | .try_ _ _ _ _,_,_,_,h=>aD h
 | .cont,Γ,st,hsc,h=>by
  rcases bY2 h with ⟨y_,rfl⟩
  exact cW9
 | .pass,Γ,st,hsc,h=>by
  rcases bX5 h with ⟨y_,rfl⟩
  exact cW7
theorem cT6 (X:Fx W P A (env::fs) n F):∀ (cs:List CS) (Γ:Cx) (ss:List Stmt),env.scope=Γ.sc->mSs P Γ cs ss=true->SiS W A fs env Γ.vis (execs ss env) (fun r=>exs P.S F cs r)
 | [],Γ,ss,hsc,h=>by
  rw [cR1 h]
  exact x_nil
 | c::cs,Γ,ss,hsc,h=>by
  rcases cC2 h with ⟨e,es',he,h1,h2⟩
  rw [he]
  exact cX0 (exS X c Γ _ hsc h1) (cT6 X cs Γ _ hsc h2)
end
theorem aZ1:∀ {ds:List FnD} {j i:Nat} {d:FnD},mFs P j ds=true->ds[i]?=some d->P.can (j+i)=true->mF P (j+i) d=true
 | [],j,i,d,_,h,_=>by simp at h
 | x::ds,j,i,d,hm,h,hk=>by
  have h2:=(aB hm).2
  have h1:=(aB hm).1
  cases i with
  | zero=>
   have e:x=d:=by simpa using h
   rw [e] at h1
   have h1:(!P.can j||mF P j d)=true:=h1
   rw [show P.can j=true from hk] at h1
   exact h1
  | succ i=>
   have e:j+(i+1)=j+1+i:=by lia
   rw [e] at hk ⊢
   exact aZ1 h2 (by simpa using h) hk
set_option tactic.hygienic true in
theorem cQ1 (hck:mFs P 0 P.S.fns=true) (hn:P.ok=none) (k:Nat) (hk:k < P.S.fns.length):∃ o fd,P.K.lookup (P.fa k)=some o /\ o.data=.func fd /\ o.cls=.type "function":=by
 have hm:=aZ1 (j:=0) hck (List.getElem?_eq_getElem hk) (by unfold Px.can;rw [hn])
 rw [Nat.zero_add] at hm
 unfold mF at hm
 split at hm
 ·rename_i o ho
  split at hm
  ·rename_i fd hfd
   split at hm
   ·exact ⟨o,fd,ho,hfd,beq_iff_eq.mp (aB (aB hm).1).1⟩
   ·cases hm
  ·cases hm
 ·cases hm
theorem AR.born {A:Around} {fs:List Env} {n:Nat} (R:AR A fs (n+1)) (env:Env):AR (Mini.born (A.deeper env)) (env::fs) n:=by
 have Rd:=R.deeper env
 refine ⟨Rd.frames,?_,?_⟩
 ·have:=R.depth;show A.depth+1+1+4 * n <= 900;lia
 ·have:=R.units;show A.units+3+1+40 * n+400 <= 9000;lia
set_option tactic.hygienic true in
theorem aP7 (gl:Gl W P.K) (hS:W.S=P.S) (hfa:W.fa=P.fa) (hca:W.ca=P.ca) (hck:mFs P 0 P.S.fns=true) (hqk:∀ (n:Nat) (A:Around) (fs:List Env),AR A fs n->∀ k,P.qok.contains k=true->SiF W A fs (.ref (W.fa k)) (run P.S n k)) :
  ∀ (n:Nat) (A:Around) (fs:List Env),AR A fs n->(P.loud=true->A.handled=none)->∀ k,P.can k=true->SiK W A fs (.ref (W.fa k)) (run P.S n k)
 | 0,A,fs,R,hh,k,hok=>fun s io m vs us H G hu hne=>absurd rfl hne
 | n+1,A,fs,R,hh,k,hok=>by
  show SiK W A fs (.ref (W.fa k)) (bB1 P.S (run P.S n) k)
  cases hd:P.S.fns[k]? with
  | none=>
   intro s io m vs us H G hu hne
   exact absurd (by unfold bB1;rw [hd];rfl) hne
  | some d=>
   have hm:=aZ1 (j:=0) hck hd (by rw [Nat.zero_add];exact hok)
   rw [Nat.zero_add] at hm
   unfold mF at hm
   split at hm
   ·rename_i o ho
    split at hm
    ·rename_i fd hfd
     split at hm
     ·rename_i body hb
      simp only [Bool.and_eq_true] at hm
      have:=cG0 (W:=W) (fs:=fs) (A:=A) (n:=n) (Fb:=fun r=>exs P.S (run P.S n) d.body r) gl R ho hfd hm.1.2 hb
       (fun env hsc=>cT6 (X:=⟨gl,R.deeper env,hS,hfa,hca,hh,fun k hk=>(aP7 gl hS hfa hca hck hqk n (A.deeper env) (env::fs) (R.deeper env) hh k hk).f,fun hn k hk=>aP7 gl hS hfa hca hck hqk n (born (A.deeper env)) (env::fs) (R.born env) hh k (by unfold Px.can;rw [hn]),fun A' R'=>hqk n A' (env::fs) R',cQ1 hck⟩) d.body ⟨fd.scope,d.names.map some⟩ body hsc hm.2)
      rw [<- hfa] at this
      have eq:bB1 P.S (run P.S n) k=fun vs=>if vs.length=d.np then bnd (exs P.S (run P.S n) d.body (vs.map some++List.replicate (d.names.length - d.np) none)) finF else bad:=by
       funext vs;unfold bB1;rw [hd]
      rw [eq]
      exact this
     ·cases hm
    ·cases hm
   ·cases hm
theorem cW0 (gl:Gl W P.K) (hS:W.S=P.S) (hfa:W.fa=P.fa) (hca:W.ca=P.ca) (hck:mFs P 0 P.S.fns=true) (hcq:mFs P.quiet 0 P.S.fns=true) :
  ∀ (n:Nat) (A:Around) (fs:List Env),AR A fs n->(P.loud=true->A.handled=none)->∀ k,P.can k=true->SiF W A fs (.ref (W.fa k)) (run P.S n k):=
 fun n A fs R hh k hk=>(aP7 gl hS hfa hca hck (fun n A fs R k hk=>(aP7 (P:=P.quiet) gl hS hfa hca hcq (fun y_ y_ y_ y_ y_ h=>by cases h) n A fs R (fun h=>by cases h) k hk).f) n A fs R hh k hk).f
end
end Mini
namespace Mini
open PySem
noncomputable def Wp {α:Type} (x:Mn α) (m:MH) (Q:α->MH->Prop) (E:Nat->MH->Prop):Prop:=match x m with
 | .ok a m'=>Q a m'
 | .exc c m'=>E c m'
 | .bad=>False
noncomputable abbrev nox:Nat->MH->Prop:=fun y_ y_=>False
noncomputable abbrev bK6 (Q:V->MH->Prop):Fl×Lo->MH->Prop:=fun p m'=>match p.1 with | .ret v=>Q v m' | .next=>Q .none m' | .cont=>False
noncomputable abbrev aX1 {α:Sort _} (Q:Fl×Lo->MH->Prop) (I:α->Lo->MH->Prop) (xs:α):Fl×Lo->MH->Prop:=fun p m'=>match p.1 with | .ret v=>Q (.ret v,p.2) m' | _=>I xs p.2 m'
section
variable {α β:Type} {S:Sig} {F:Fns} {r:Lo} {m m':MH} {Q:α->MH->Prop} {E:Nat->MH->Prop}
theorem aE {x:Mn α} {a:α} (h:x m=.ok a m') (q:Q a m'):Wp x m Q E:=by unfold Wp;rw [h];exact q
theorem aI {x:Mn β} {f:β->Mn α} (h:Wp x m (fun a m'=>Wp (f a) m' Q E) E):Wp (bnd x f) m Q E:=by
 unfold Wp bnd at *
 cases q:x m with
 | ok a m1=>rw [q] at h;exact h
 | exc c m1=>rw [q] at h;exact h
 | bad=>rw [q] at h;exact h
theorem wp_mono {x:Mn α} {Q':α->MH->Prop} {E':Nat->MH->Prop} (h:Wp x m Q' E') (k:∀ a m',Q' a m'->Q a m') (l:∀ c m',E' c m'->E c m'):Wp x m Q E:=by
 unfold Wp at *
 cases q:x m with
 | ok a m1=>rw [q] at h;exact k _ _ h
 | exc c m1=>rw [q] at h;exact l _ _ h
 | bad=>rw [q] at h;exact h
theorem aU {x:Mn α} {Q':α->MH->Prop} (h:Wp x m Q' nox) (k:∀ a m',Q' a m'->Q a m'):Wp x m Q E:=wp_mono h k fun y_ y_ q=>q.elim
theorem aD0 {x:Mn α} (h:Wp x m Q nox):∃ a m',x m=.ok a m' /\ Q a m':=by
 unfold Wp at h
 cases q:x m with
 | ok a m1=>rw [q] at h;exact ⟨a,m1,rfl,h⟩
 | exc c m1=>rw [q] at h;exact h.elim
 | bad=>rw [q] at h;exact h.elim
end
noncomputable def Le (m m':MH):Prop:=m.length <= m'.length /\ ∀ p,p < m.length->m'[p]?=m[p]?
theorem Le.refl (m:MH):Le m m:=⟨Nat.le_refl _,fun y_ y_=>rfl⟩
theorem Le.trans {a b c:MH} (h:Le a b) (k:Le b c):Le a c:=⟨Nat.le_trans h.1 k.1,fun p q=>(k.2 p (Nat.lt_of_lt_of_le q h.1)).trans (h.2 p q)⟩
theorem Le.app (m e:MH):Le m (m++e):=⟨by simp,fun p q=>List.getElem?_append_left q⟩
theorem aS {m:MH} {p:Nat} {o:MObj} (k:m[p]?=some o):p < m.length:=by
 rcases Nat.lt_or_ge p m.length with q | q
 ·exact q
 ·rw [List.getElem?_eq_none q] at k;cases k
theorem Le.has {m m':MH} (h:Le m m') {p:Nat} {o:MObj} (k:m[p]?=some o):m'[p]?=some o:=by
 rw [h.2 p (aS k),k]
theorem Le.set {m m':MH} (h:Le m m') {p:Nat} (hp:m.length <= p) (o:MObj):Le m (m'.set p o):=
 ⟨by rw [List.length_set];exact h.1,fun q hq=>by rw [List.getElem?_set_ne (by lia)];exact h.2 q hq⟩
theorem aV {m:MH} {p:Nat} {o o':MObj} (k:m[p]?=some o):(m.set p o')[p]?=some o':=by
 rw [List.getElem?_set_self (aS k)]
theorem aN {m:MH} {p q:Nat} {o o':MObj} (hn:p≠q) (k:m[q]?=some o):(m.set p o')[q]?=some o:=by
 rw [List.getElem?_set_ne hn];exact k
theorem cP {m:MH} {o:MObj}:(m++[o])[m.length]?=some o:=by simp
section
variable {S:Sig} {F:Fns} {r:Lo} {m:MH} {E:Nat->MH->Prop}
section
variable {Q:V->MH->Prop}
theorem aM {o:MObj} (h:∀ p m',Le m m'->m'[p]?=some o->m.length <= p->Q (.ref p) m'):Wp (alloc o) m Q E:=h m.length (m++[o]) (.app _ _) cP (Nat.le_refl _)
theorem aC {α:Type} {x:Mn α} {a:α} {m':MH} {Q:α->MH->Prop} (h:x m=.ok a m') (q:Q a m'):Wp x m Q E:=aE h q
theorem aG7 {op:Operator} {a b:CE} (h:Wp (ev S F a r) m (fun x m'=>Wp (ev S F b r) m' (fun y m'=>Wp (bK4 op x y) m' Q E) E) E):Wp (ev S F (.bin op a b) r) m Q E:=
 aI (x:=ev S F a r) (wp_mono h (fun y_ y_ q=>aI (x:=ev S F b r) q) fun y_ y_ q=>q)
theorem aC1 {k:Nat} {as:List CE} (h:Wp (evs S F as r) m (fun vs m'=>Wp (F k vs) m' Q E) E):Wp (ev S F (.call k as) r) m Q E:=aI (x:=evs S F as r) h
theorem aS4 {b:Bi} {as:List CE} (h:Wp (evs S F as r) m (fun vs m'=>Wp (biV b vs) m' Q E) E):Wp (ev S F (.bi b as) r) m Q E:=aI (x:=evs S F as r) h
theorem aS3 {a i:CE} (h:Wp (ev S F a r) m (fun x m'=>Wp (ev S F i r) m' (fun y m'=>Wp (aQ9 x y) m' Q E) E) E):Wp (ev S F (.idx a i) r) m Q E:=
 aI (x:=ev S F a r) (wp_mono h (fun y_ y_ q=>aI (x:=ev S F i r) q) fun y_ y_ q=>q)
theorem bF {as:List CE} (h:Wp (evs S F as r) m (fun vs m'=>Wp (alloc (.list vs)) m' Q E) E):Wp (ev S F (.list as) r) m Q E:=aI (x:=evs S F as r) h
theorem aG6 {a b:CE} {op:CmpOp} (h:Wp (ev S F a r) m (fun x m'=>Wp (ev S F b r) m' (fun y m'=>Wp (aI9 op x y) m' (fun c m'=>Q (.bool c) m') E) E) E):Wp (ev S F (.cmp a [op] [b]) r) m Q E:=
 aI (x:=ev S F a r) (wp_mono h (fun x y_ q=>aI (x:=ev S F b r) (wp_mono q (fun y y_ q=>aI (x:=aI9 op x y) q) fun y_ y_ q=>q)) fun y_ y_ q=>q)
theorem dL {o:CE} {n:Sm} {as:List CE} (h:Wp (ev S F o r) m (fun x m'=>∃ k,smK x m'=some k /\ smH k n=true /\ Wp (evs S F as r) m' (fun vs m'=>Wp (dH k x n vs) m' Q E) E) E):Wp (ev S F (.smeth o n as) r) m Q E:=by
 refine aI (x:=ev S F o r) (wp_mono h (fun x m' q=>?_) fun y_ y_ q=>q)
 rcases q with ⟨k,hk,hs,q⟩
 have q2:=aI (x:=evs S F as r) q
 unfold Wp at q2 ⊢
 dsimp only
 rw [hk]
 dsimp only
 rw [if_pos hs]
 exact q2
theorem aG {Q:List V->MH->Prop} (h:Q [] m):Wp (evs S F [] r) m Q E:=h
theorem aF {a:CE} {as:List CE} {Q:List V->MH->Prop} (h:Wp (ev S F a r) m (fun v m'=>Wp (evs S F as r) m' (fun vs m'=>Q (v::vs) m') E) E):Wp (evs S F (a::as) r) m Q E:=
 aI (x:=ev S F a r) (wp_mono h (fun v y_ q=>aI (x:=evs S F as r) q) fun y_ y_ q=>q)
end
section
variable {Q:Bool->MH->Prop}
theorem aG5 {e:CE} (h:Wp (ev S F e r) m (fun v m'=>Wp (fB v) m' Q E) E):Wp (evT S F (.val e) r) m Q E:=aI (x:=ev S F e r) h
theorem dA3 {e:CB} (h:Wp (evT S F e r) m (fun b m'=>Q (!b) m') E):Wp (evT S F (.not e) r) m Q E:=aI (x:=evT S F e r) h
theorem aL5 {c:Bool} {bs:List CB} (h:Wp (bK2 S F c bs r) m Q E):Wp (evT S F (.all c bs) r) m Q E:=h
theorem cE {c:Bool} {a:CB} {as:List CB} (h:Wp (evT S F a r) m (fun b m'=>bif b == c then Wp (bK2 S F c as r) m' Q E else Q b m') E):Wp (bK2 S F c (a::as) r) m Q E:=by
 refine aI (x:=evT S F a r) (wp_mono h (fun t m' q=>?_) fun y_ y_ q=>q)
 cases e:t == c with
 | true=>rw [e] at q;exact q
 | false=>rw [e] at q;exact q
end
section
variable {Q:Fl×Lo->MH->Prop} {ss:List CS}
theorem aA5 {s:CS} (h:Wp (ex S F s r) m (fun p m'=>match p.1 with | .next=>Wp (exs S F ss p.2) m' Q E | f=>Q (f,p.2) m') E):Wp (exs S F (s::ss) r) m Q E:=by
 refine aI (x:=ex S F s r) (wp_mono h (fun p m' q=>?_) fun y_ y_ q=>q)
 rcases p with ⟨f,r'⟩
 cases f <;> exact q
theorem aW {i:Nat} {e:CE} (h:Wp (ev S F e r) m (fun v m'=>Wp (exs S F ss (r.set i (some v))) m' Q E) E):Wp (exs S F (.asg (.one (.one i)) e::ss) r) m Q E:=
 aA5 (aI (x:=ev S F e r) h)
theorem fD {e:CE} (h:Wp (ev S F e r) m (fun v m'=>Wp (exs S F ss r) m' Q E) E):Wp (exs S F (.exp e::ss) r) m Q E:=aA5 (aI (x:=ev S F e r) h)
theorem bG {e:CE} (h:Wp (ev S F e r) m (fun v m'=>Q (.ret v,r) m') E):Wp (exs S F (.ret e::ss) r) m Q E:=aA5 (aI (x:=ev S F e r) h)
theorem cU (h:Q (.next,r) m):Wp (exs S F [] r) m Q E:=h
theorem bA7:∀ (a b:List CS) (r:Lo) (m:MH),Wp (exs S F (a++b) r) m Q E->Wp (exs S F a r) m (fun p m'=>match p.1 with | .next=>Wp (exs S F b p.2) m' Q E | f=>Q (f,p.2) m') E
 | [],b,r,m,h=>h
 | s::a,b,r,m,h=>by
  unfold Wp at h
  refine aA5 ?_
  have e:exs S F (s::a++b) r m=(ex S F s r m).bind (fun p=>match p.1 with | .next=>exs S F (a++b) p.2 | f=>ret (f,p.2)):=rfl
  rw [e] at h
  unfold Wp
  cases q:ex S F s r m with
  | ok p m1=>
   rw [q] at h
   rcases p with ⟨f,r1⟩
   cases f with
   | next=>exact bA7 a b r1 m1 h
   | cont=>exact h
   | ret v=>exact h
  | exc c m1=>rw [q] at h;exact h
  | bad=>rw [q] at h;exact h
theorem aF9 {c:CB} {a b:List CS} (h:Wp (evT S F c r) m (fun t m'=>Wp (exs S F ((bif t then a else b)++ss) r) m' Q E) E):Wp (exs S F (.ite c a b::ss) r) m Q E:=by
 refine aA5 (aI (x:=evT S F c r) (wp_mono h (fun t m' q=>?_) fun y_ y_ q=>q))
 cases t
 ·exact bA7 _ _ _ _ q
 ·exact bA7 _ _ _ _ q
end
end
theorem eA {P Q:Prop} (h:P):bif true then P else Q:=h
theorem aD7 {P Q:Prop} (h:Q):bif false then P else Q:=h
section
variable {S:Sig} {F:Fns} {r:Lo} {m:MH}
theorem bC8 {a b c:CE} {o o':CmpOp} {x y z:V} {t u:Bool} (ha:ev S F a r m=.ok x m) (hb:ev S F b r m=.ok y m) (hc:ev S F c r m=.ok z m) (h1:aI9 o x y m=.ok t m) (h2:aI9 o' y z m=.ok u m):ev S F (.cmp a [o,o'] [b,c]) r m=.ok (.bool (t&&u)) m:=by
 show Res.bind (ev S F a r m) _=_
 rw [ha]
 show Res.bind (ev S F b r m) _=_
 rw [hb]
 show Res.bind (aI9 o x y m) _=_
 rw [h1]
 cases t with
 | false=>rfl
 | true=>
  show Res.bind (ev S F c r m) _=_
  rw [hc]
  show Res.bind (aI9 o' y z m) _=_
  rw [h2];rfl
theorem cO9 {a b:CE} {as:List CE} {x y:Bool} (ha:ev S F a r m=.ok (.bool x) m) (hb:ev S F (.boolop true (b::as)) r m=.ok (.bool y) m):ev S F (.boolop true (a::b::as)) r m=.ok (.bool (x&&y)) m:=by
 show Res.bind (ev S F a r m) _=_
 rw [ha]
 cases x with
 | false=>rfl
 | true=>exact hb
theorem bD {e:CE} {b:Bool} (h:ev S F e r m=.ok (.bool b) m):evT S F (.val e) r m=.ok b m:=by
 show Res.bind (ev S F e r m) _=_
 rw [h];rfl
theorem eO {e:CB} {b:Bool} (h:evT S F e r m=.ok b m):evT S F (.not e) r m=.ok (!b) m:=by
 show Res.bind (evT S F e r m) _=_
 rw [h];rfl
theorem bT {a:CB} {as:List CB} {x y:Bool} (ha:evT S F a r m=.ok x m) (hb:bK2 S F false as r m=.ok y m):bK2 S F false (a::as) r m=.ok (x||y) m:=by
 show Res.bind (evT S F a r m) _=_
 rw [ha]
 cases x with
 | true=>rfl
 | false=>exact hb
theorem cI5 {a:CB} {as:List CB} {x y:Bool} (ha:evT S F a r m=.ok x m) (hb:bK2 S F true as r m=.ok y m):bK2 S F true (a::as) r m=.ok (x&&y) m:=by
 show Res.bind (evT S F a r m) _=_
 rw [ha]
 cases x with
 | false=>rfl
 | true=>exact hb
end
noncomputable def cM (S:Sig) (k np nl:Nat) (b:List CS):Prop:=∃ d,S.fns[k]?=some d /\ d.np=np /\ d.names.length=nl /\ d.body=b
theorem cH8 {S:Sig} {n k np nl:Nat} {b:List CS} {vs:List V} (h:cM S k np nl b) (hv:vs.length=np):run S (n+1) k vs=bnd (exs S (run S n) b (vs.map some++List.replicate (nl - np) Option.none)) finF:=by
 rcases h with ⟨d,h1,h2,h3,h4⟩
 show bB1 S (run S n) k vs=_
 unfold bB1;rw [h1];dsimp only;rw [if_pos (hv.trans h2.symm),h2,h3,h4]
theorem bN {S:Sig} {n k np nl:Nat} {b:List CS} {vs:List V} {m:MH} {Q:V->MH->Prop} {E:Nat->MH->Prop} (h:cM S k np nl b) (hv:vs.length=np)
  (hb:Wp (exs S (run S n) b (vs.map some++List.replicate (nl - np) Option.none)) m (bK6 Q) E):Wp (run S (n+1) k vs) m Q E:=by
 rw [cH8 h hv]
 refine aI (wp_mono hb (fun p m' q=>?_) fun y_ y_ q=>q)
 rcases p with ⟨f,r⟩
 cases f <;> exact q
theorem cG8 {S:Sig} {n k:Nat} {d:FnD} {vs:List V} {m:MH} {Q:V->MH->Prop} {E:Nat->MH->Prop} (h:S.fns[k]?=some d) (hv:vs.length=d.np)
  (hb:Wp (exs S (run S n) d.body (vs.map some++List.replicate (d.names.length - d.np) Option.none)) m (bK6 Q) E):Wp (run S (n+1) k vs) m Q E:=
 bN ⟨d,h,rfl,rfl,rfl⟩ hv hb
end Mini
namespace Mini
open PySem PySem.W PyProof.Rows
noncomputable def goT (ok:Thread->Bool) (st:SharedT->Thread->Option (SharedT×Thread)):Nat->SharedT->Thread->Option SharedT
 | 0,_,_=>none
 | n+1,s,t=>match through t with
  | true=>some s
  | false=>match ok t with
   | false=>none
   | true=>match st s t with
    | some (s',t')=>goT ok st n s' t'
    | none=>none
theorem cJ6 {tb:String->Option Builtin} {p:Program} {w:World} {n₀:Nat} {ann:Option Value}:∀ {n:Nat} {s s':SharedT} {t:Thread},goT (stepOk n₀ ann) (stepT (denote tb) p w) n s t=some s'->topRun tb p w n₀ ann n s.abs t=some s'.abs
 | 0,_,_,_,h=>by cases h
 | n+1,s,s',t,h=>by
  unfold goT at h
  unfold topRun
  cases he:through t with
  | true=>rw [he] at h;cases h;rfl
  | false=>
   rw [he] at h
   cases hk:stepOk n₀ ann t with
   | false=>rw [hk] at h;cases h
   | true=>
    rw [hk] at h
    cases hs:stepT (denote tb) p w s t with
    | none=>rw [hs] at h;cases h
    | some r=>rcases r with ⟨s₂,t₂⟩;rw [hs] at h;rw [stepT_spec hs];exact cJ6 h
noncomputable def dB6 (P:Params):Nat->List (Params->Obj)->BT->BT
 | _,[],t=>t
 | n,o::r,t=>dB6 P (n+1) r (t.ins n (o P))
noncomputable def boots:List (Params->Obj):=[boot_o_0,boot_o_1,boot_o_2,boot_o_3,boot_o_4,boot_o_5,boot_o_6,boot_o_7,boot_o_8,boot_o_9,boot_o_10]
noncomputable def dF8 (P:Params) (os:OsState):SharedT:=⟨dB6 P 0 boots .nil,11,(boot_heap P).life,Array.mk [],boot_drawn,boot_toks,os⟩
theorem bV8:∀ (P:Params) (os:OsState),(dF8 P os).abs=⟨boot_heap P,Array.mk [],boot_drawn,boot_toks,os⟩:=by intro P os;kernel_rfl
theorem bV7:∀ w:World,((boot_heap w.params).isNs mainGlobals&&(Array.mk ([]:List GenState)).size == 0,(boot_heap w.params).objs.size,(boot_heap w.params).nsMap mainGlobals "__annotations__")=(true,11,some (.ref 6)):=by intro w;kernel_rfl
noncomputable def cH9 (p:Program) (N:Nat) (w:World) (os:OsState):Option SharedT:=
 goT (Fast.tw6613529449190102663 11 (some (.ref 6))) (Fast.tw10156331382660048174 (Fast.tw11892475500146522536 Fast.tw14364793385576792824) p w) N (dF8 w.params os) (topStub p)
theorem cO6 {p:Program} {N:Nat} {w:World} {os:OsState} {s:SharedT} (h:cH9 p N w os=some s):topRun treeTable p w 11 (some (.ref 6)) N ⟨boot_heap w.params,Array.mk [],boot_drawn,boot_toks,os⟩ (topStub p)=some s.abs:=by
 rw [<- bV8]
 refine cJ6 ?_
 rw [Fast.te6613529449190102663,Fast.te10156331382660048174,Fast.te11892475500146522536,Fast.te14364793385576792824]
 exact h
noncomputable def xtOf (q:Program) (R:WRecords) (s:Shared):Bool:=xlAt q [] s&&recOk R s
noncomputable def bE1 (p q:Program) (R:WRecords) (chk:Heap->Bool) (w:World) (s:Shared):=
  (staticsOk (importedModules p.main.body) (boot_heap w.params) s.heap&&namesBound p s.heap&&gensDone s&&laidKept (boot_heap w.params) s.heap,
   Fast.tw4187177175401517315 q [] (importedModules p.main.body) (xtOf q R) true s,chk s.heap)
theorem cR3 {p q:Program} {R:WRecords} {chk:Heap->Bool} {N:Nat} (e:opening p=plainProg p.main.scope.names) (hN:Nat.ble 600 N=true) (f:∀ s,fenceModules? p s=some s)
  (h:∀ w os,(cH9 p N w os).map (fun s=>bE1 p q R chk w s.abs)=some (true,openGood q [],true)):LeftO p q [] (xtOf q R) (fun s=>chk s.heap) (fun y_=>true) N:=fun w=>by
 rcases Option.map_eq_some_iff.mp (boot_open e hN f w) with ⟨⟨hp,gs,d,k,os⟩,eo,e'⟩
 obtain ⟨rfl,rfl,rfl,rfl⟩:hp=boot_heap w.params /\ gs=Array.mk [] /\ d=boot_drawn /\ k=boot_toks:=by simpa using e'
 obtain ⟨z1,z2,z3⟩:_ /\ _ /\ _:=by simpa only [Prod.mk.injEq] using bV7 w
 rcases Option.map_eq_some_iff.mp (h w os) with ⟨s,hr,hl⟩
 have r:=cO6 hr
 unfold bE1 at hl
 obtain ⟨l1,l2,l3⟩:_ /\ _ /\ _:=by simpa only [Prod.mk.injEq] using hl
 have t:topFrom treeTable p w N ⟨boot_heap w.params,Array.mk [],boot_drawn,boot_toks,os⟩=some s.abs:=by
  unfold topFrom
  dsimp only
  rw [z1,z2,z3,r]
  show (match staticsOk (importedModules p.main.body) (boot_heap w.params) s.abs.heap&&namesBound p s.abs.heap&&gensDone s.abs&&laidKept (boot_heap w.params) s.abs.heap with | true=>_ | false=>_)=_
  rw [l1]
 rw [<- Fast.te4187177175401517315] at l2
 unfold openEnds
 rw [eo]
 show (topFrom treeTable p w N _).map _=_
 rw [t]
 exact congrArg some (Prod.ext l2 l3)
noncomputable def aH7 (as:List Addr) (h:Heap):Frag:=as.filterMap fun a=>(h.get? a).map fun o=>(a,o)
set_option tactic.hygienic true in
theorem aH6 (h:Heap):∀ as:List Addr,(aH7 as h).In h
 | [],a,o,e=>by cases e
 | b::as,a,o,e=>by
  unfold aH7 at e
  cases q:h.get? b with
  | none=>
   rw [List.filterMap_cons_none (by rw [q];rfl)] at e
   exact aH6 h as a o e
  | some o'=>
   rw [List.filterMap_cons_some (b:=(b,o')) (by rw [q];rfl),List.lookup_cons] at e
   split at e
   ·rename_i hb
    cases e
    rw [beq_iff_eq.mp hb];exact q
   ·exact aH6 h as a o e
noncomputable def Has (chk:Frag->Bool) (_:World) (h:Heap):Prop:=∃ K:Frag,K.In h /\ chk K=true
theorem cB2 {l:OpenLaw} {keep:List Nat} {as:List Addr} {chk:Frag->Bool} {N:Nat} {d:DefRec} {kwd:List (Str×Expr)} (k0:l.wellSaid=true) (e:opening l.prog=plainProg l.prog.main.scope.names) (hN:Nat.ble 600 N=true) (f:∀ s,fenceModules? l.prog s=some s)
  (h:∀ w os,(cH9 l.prog N w os).map (fun s=>bE1 l.prog (view l.prog keep) l.row.records (fun h=>chk (aH7 as h)) w s.abs)=some (true,openGood (view l.prog keep) [],true))
  (hdef:defOf (view l.prog keep) l.row.name=some (d,kwd)) (hp:l.row.prog.theDef l.row.name=some (d.params,d.body,d.scope)) (hk:kwWritten? d.params.kwonlyargs d.params.kw_defaults=some kwd)
  (hwr:(!l.row.writes||l.row.records.isEmpty)=true) (ok:(chainsOk (view l.prog keep)&&opensWell l.row.prog&&(frees l.row.toRowW&&l.row.within.isEmpty))=true) (hb:l.row.prog.bare) (hw:l.row.toRowW.promised)
  (call:WalkO (view l.prog keep) [] (XL (view l.prog keep) []) (Has chk) l.row.toRowW d kwd fun f vs=>PySem.call f vs):l.Holds:=
 holds_law k0 fun said=>holds_open (q:=view l.prog keep) (loose:=[]) (Xt:=xtOf (view l.prog keep) l.row.records) (XP:=XL (view l.prog keep) []) (cR3 e hN f h)
  (fun w s e=>⟨aH7 as s.heap,aH6 _ as,e⟩) (fun w h h' ⟨K,k1,k2⟩ k=>⟨K,k1.keeps k,k2⟩) (fun s e=>xl_of s (Bool.and_eq_true_iff.mp e).1) XL.keeps hdef hp hk (fun s e=>recFacts_of (Bool.and_eq_true_iff.mp e).2) hwr said ok hb hw call
end Mini
namespace Mini
open PySem PySem.W PyProof.Rows
noncomputable def gaOf (K:Frag) (x:Str):Addr:=match nsIn K mainGlobals x with | some (some (.ref a))=>a | _=>0
noncomputable def aY6 (S:Sig) (k:Nat):Option ClsD:=S.cls.find? fun d=>d.init == some k||d.meths.any fun q=>q.2 == k
noncomputable def naOf (K:Frag) (C:Addr) (x:Str):Addr:=match bD0 K C with
 | some N=>(match nsIn K N x with | some (some (.ref a))=>a | _=>0)
 | none=>0
noncomputable def faOf (K:Frag) (S:Sig) (k:Nat):Addr:=match S.fns[k]? with
 | some d=>(match aY6 S k with | some D=>naOf K (gaOf K D.name) d.name | none=>gaOf K d.name)
 | none=>0
noncomputable def caOf (K:Frag) (S:Sig) (k:Nat):Addr:=match S.cls[k]? with
 | some d=>gaOf K d.name
 | none=>0
noncomputable def cP0 (S:Sig) (qok:List Nat) (K:Frag):Px:=⟨K,S,faOf K S,caOf K S,true,none,qok⟩
noncomputable def cV1 (S:Sig) (qok:List Nat) (k:Nat) (K:Frag):Bool:=mFs (cP0 S qok K) 0 S.fns&&mFs (cP0 S qok K).quiet 0 S.fns&&(aY6 S k).isNone&&(match S.fns[k]? with | some d=>(match nsIn K mainGlobals d.name with | some (some (.ref _))=>true | _=>false) | none=>false)
theorem cD5 {vs:List Value} {ns:List Int} (h:IntsAre vs ns):IntsR ns vs:=by
 induction h with
 | nil=>exact .nil
 | cons n t h ih=>exact .cons n t ih
set_option tactic.hygienic true in
theorem glue {prog:Program} {w:World} {K:Frag} {S:Sig} {qok:List Nat} {s₁:Shared} {mg mb:Str->Option Value} {loose:List Str} {view:Program} {mean:ExcName->Option Value} {claim:ClaimW} {cl:Str->Option Addr} {args:List WData} {fa l:Addr} {vals:List Value} {ns:List Int} {k n:Nat} {d:FnD}
    (T:Top view loose mean mg mb s₁.heap) (hsee:importsNone view=true) (KX:K.In s₁.heap) (hg:s₁.gens=#[]) (hck:cV1 S qok k K=true) (hd:S.fns[k]?=some d) (hm:mg d.name=some (.ref fa))
    (hL:s₁.heap.IsList l vals.toArray) (hI:IntsAre vals ns) (hlen:ns.length <= 63) (hn:n <= 100) (hrun:Wp (run S n k [.scr ns]) [] (fun v y_=>v=.bool true) nox)
    (hr:∀ cls,claim.raises args cls=false) (hp:claim.post args (.bool true) args=true) :
    wpAny (model prog w) callerA (call (.ref fa) [.ref l]) (fun v s'=>GoodWG claim cl mean args s₁ (.ok (.ret v)) s') (fun e s'=>GoodWG claim cl mean args s₁ (.error e) s') s₁:=by
  rcases Bool.and_eq_true_iff.mp hck with ⟨hck,hc3⟩
  rcases Bool.and_eq_true_iff.mp hck with ⟨hck,hc4⟩
  rcases Bool.and_eq_true_iff.mp hck with ⟨hc1,hc2⟩
  have hf:fa=faOf K S k:=by
    unfold faOf
    rw [Option.isNone_iff_eq_none.mp hc4]
    unfold gaOf
    rw [hd] at hc3 ⊢
    dsimp only at hc3 ⊢
    split at hc3
    · rename_i a e
      have:=mg_of KX T.g e
      rw [hm] at this
      cases this
    · cases hc3
  let W:Wd:=⟨prog,w,S,faOf K S,caOf K S,s₁.heap⟩
  have gl:Gl W K:=⟨⟨by rcases (T.seer hsee).mods with ⟨mm,⟨o,y_,y_,e,y_⟩,y_⟩;exact ⟨o,e⟩,T.nolimit⟩,KX,mg,mb,T.g,T.b,T.builtins,_,_,topRead_of T⟩
  have R:AR callerA [] n:=⟨rfl,by show 1+claimMargin+4 * n <= 900;have:claimMargin <= 400:=(by decide +kernel);lia,by show 4+40 * n+400 <= 9000;lia⟩
  rcases aD0 hrun with ⟨v,m',e,rfl⟩
  have H:HR W s₁.heap [] []:=⟨fun y_ y_ e=>e,rfl,fun n p o h=>by simp at h,fun b ⟨p,hp,_⟩=>(nomatch hp),fun i j p q y_ h=>by simp at h⟩
  rcases hL with ⟨o,ho,hc,N,hd⟩
  have hv:VRs W s₁.heap [] [.scr ns] [.ref l]:=.cons (.scr ho hc hd (by simpa using cD5 hI) (by unfold lid;lia)) .nil
  have key:=cW0 (W:=W) (P:=cP0 S qok K) gl rfl rfl rfl hc1 hc2 n callerA [] R (fun y_=>rfl) k rfl s₁ [] [] [.scr ns] [.ref l] H (fun y_ q=>nomatch q) hv (by show run S n k [.scr ns] []≠_;rw [e];intro q;cases q)
  rw [hf]
  refine wpAny_mono key (fun u s' q=>?_) fun x s' q=>?_
  · rcases q with ⟨v,m2,io',e2,st,H2,kv,sm⟩
    have e2:run S n k [.scr ns] []=.ok v m2:=e2
    rw [e] at e2
    cases e2
    cases kv
    exact GoodW.toG ⟨.inl ⟨_,_,[],rfl,hr,.bool true,hp,fun y_=>⟨List.nodup_nil,fun y_ q=>nomatch q⟩⟩,H2.keep,sm.2,sm.1.trans hg⟩
  · exact q.elim
noncomputable def chkA (S:Sig) (qok:List Nat) (n:Nat) (K:Frag):Bool:=mFs (cP0 S qok K) 0 (S.fns.take n)
noncomputable def chkB (S:Sig) (qok:List Nat) (n k:Nat) (K:Frag):Bool:=mFs (cP0 S qok K) n (S.fns.drop n)&&mFs (cP0 S qok K).quiet 0 S.fns&&(aY6 S k).isNone&&(match S.fns[k]? with | some d=>(match nsIn K mainGlobals d.name with | some (some (.ref _))=>true | _=>false) | none=>false)
theorem bR8 {P:Px}:∀ {xs ys:List FnD} {k:Nat},mFs P k xs=true->mFs P (k+xs.length) ys=true->mFs P k (xs++ys)=true
 | [],_,_,_,h=>h
 | x::xs,ys,k,h,h'=>by
  have h:((!P.can k||mF P k x)&&mFs P (k+1) xs)=true:=h
  have h2:=Bool.and_eq_true_iff.mp h
  show ((!P.can k||mF P k x)&&mFs P (k+1) (xs++ys))=true
  rw [h2.1,bR8 (k:=k+1) h2.2 (by rw [Nat.add_right_comm];exact h')];rfl
theorem dF4 {S:Sig} {qok:List Nat} {n k:Nat} {K:Frag} (h:(chkA S qok n K&&chkB S qok n k K)=true) (hn:(S.fns.take n).length=n):cV1 S qok k K=true:=by
 rcases Bool.and_eq_true_iff.mp h with ⟨h1,h2⟩
 have h1:mFs (cP0 S qok K) 0 (S.fns.take n)=true:=h1
 unfold chkB at h2
 rcases Bool.and_eq_true_iff.mp h2 with ⟨h2,h5⟩
 rcases Bool.and_eq_true_iff.mp h2 with ⟨h2,h4⟩
 rcases Bool.and_eq_true_iff.mp h2 with ⟨h2,h3⟩
 have e:=bR8 (ys:=S.fns.drop n) h1 (by rw [hn,Nat.zero_add];exact h2)
 rw [List.take_append_drop] at e
 unfold cV1
 rw [e,h3,h4,h5];rfl
theorem cA4 {α β:Type} {x:Option α} {f:α->Bool} {g:α->β} {c1 c2:α->Bool} {G:β} (ha:x.map f=some true) (hb:x.map g=some G) (h1:x.map c1=some true) (h2:x.map c2=some true) {k:α->Bool×β×Bool} (hk:∀ s,k s=(f s,g s,c1 s&&c2 s)):x.map k=some (true,G,true):=by
 cases x with
 | none=>cases ha
 | some s=>
  have a:f s=true:=Option.some.inj ha
  have b:g s=G:=Option.some.inj hb
  have c:c1 s=true:=Option.some.inj h1
  have d:c2 s=true:=Option.some.inj h2
  show some (k s)=_
  rw [hk,a,b,c,d];rfl
end Mini
namespace Mini
open PySem
section
variable {S:Sig} {F:Fns} {r:Lo} {m:MH} {E:Nat->MH->Prop} {p q:Nat} {xs ys:List V} {v:V} {Q:V->MH->Prop}
theorem bO9 (h:m[p]?=some (.list xs)):smK (.ref p) m=some 0:=by unfold smK;dsimp only;rw [h]
theorem cX4 {k:Int} (h:m[p]?=some (.list xs)) (hv:at_ xs k=some v) (hk:k.natAbs < 2 ^ 60) (q:Q v m):Wp (aQ9 (.ref p) (.int k)) m Q E:=by
 refine aE (m':=m) ?_ q
 unfold aQ9;dsimp only;rw [h];dsimp only;rw [if_pos hk,hv];rfl
theorem aR0 (h:m[p]?=some (.list xs)) (h':m[q]?=some (.list ys)) (hl:xs.length+ys.length <= lid) (k:∀ p m',Le m m'->m'[p]?=some (.list (xs++ys))->m.length <= p->Q (.ref p) m'):Wp (bK4 .Add (.ref p) (.ref q)) m Q E:=by
 refine aE (a:=.ref m.length) (m':=m++[.list (xs++ys)]) ?_ (k _ _ (.app _ _) cP (Nat.le_refl _))
 show (match m[p]?,m[q]? with | some (.list x),some (.list y)=>if x.length+y.length <= lid then alloc (.list (x++y)) m else .bad | _,_=>.bad)=_
 rw [h,h']
 show (if xs.length+ys.length <= lid then alloc (.list (xs++ys)) m else .bad)=_
 rw [if_pos hl];rfl
theorem cV {n:Nat} (h:m[n]?=some (.list xs)):(Gd.list n xs).stays m=true:=by
 show (match m[n]? with | some (.list ys)=>V.sames xs ys | _=>false)=true
 rw [h];exact e8 xs
theorem eI {Q:List V×Gd->MH->Prop} (h:m[p]?=some (.list xs)) (k:Q (xs,.list p xs) m):Wp (fC .expr [.ref p]) m Q E:=by
 refine aE (m':=m) ?_ k
 unfold fC eD;dsimp only;rw [h]
end
theorem aX3 {g:Gd} {step:V->Lo->Mn (Fl×Lo)} {Q:Fl×Lo->MH->Prop} {E:Nat->MH->Prop} (I:List V->Lo->MH->Prop) (hg:∀ xs r m,I xs r m->g.stays m=true)
  (hs:∀ x xs r m,I (x::xs) r m->Wp (step x r) m (aX1 Q I xs) E) (hn:∀ r m,I [] r m->Q (.next,r) m) :
  ∀ (xs:List V) (r:Lo) (m:MH),I xs r m->Wp (aM0 g step xs r) m Q E
 | [],r,m,h=>by
  refine aE (m':=m) ?_ (hn r m h)
  show (if g.stays m then _ else _)=_
  rw [if_pos (hg _ _ _ h)]
 | x::xs,r,m,h=>by
  have e:aM0 g step (x::xs) r m=(step x r m).bind (fun p=>match p.1 with | .ret x=>ret (.ret x,p.2) | _=>aM0 g step xs p.2):=if_pos (hg _ _ _ h)
  have k:=hs x xs r m h
  unfold Wp at k ⊢
  rw [e]
  cases q:step x r m with
  | bad=>rw [q] at k;exact k
  | exc c m1=>rw [q] at k;exact k
  | ok p m1=>
   rw [q] at k
   rcases p with ⟨f,r1⟩
   cases f with
   | ret v=>exact k
   | next=>exact aX3 I hg hs hn xs r1 m1 k
   | cont=>exact aX3 I hg hs hn xs r1 m1 k
theorem cZ6 {S:Sig} {F:Fns} {k:IK} {t:CT} {src:List CE} {body ss:List CS} {r:Lo} {m:MH} {Q:Fl×Lo->MH->Prop} {E:Nat->MH->Prop} (h:Wp (evs S F src r) m (fun vs m'=>Wp (fC k vs) m' (fun p m'=>∃ I:List V->Lo->MH->Prop,I p.1 r m' /\ (∀ xs r m,I xs r m->p.2.stays m=true) /\
      (∀ x xs r m,I (x::xs) r m->Wp (aE1 t x r) m (fun r' m'=>Wp (exs S F body r') m' (aX1 Q I xs) E) E) /\ (∀ r m,I [] r m->Wp (exs S F ss r) m Q E)) E) E):Wp (exs S F (.for_ k t src body::ss) r) m Q E:=by
  refine aA5 (aI (x:=evs S F src r) (wp_mono h (fun vs m' h=>aI (x:=fC k vs) (wp_mono h (fun p m' h=>?_) fun y_ y_ q=>q)) fun y_ y_ q=>q))
  rcases h with ⟨I,h0,hg,hs,hn⟩
  exact aX3 I hg (fun x xs r m hi=>aI (x:=aE1 t x r) (wp_mono (hs x xs r m hi) (fun r' m' q=>wp_mono q (fun p m' q=>by rcases p with ⟨f,r1⟩;cases f <;> exact q) fun y_ y_ q=>q) fun y_ y_ q=>q)) hn p.1 r m' h0
theorem bB5 {g:Gd} {step:V->Mn (Option V)} {Q:List V->MH->Prop} {E:Nat->MH->Prop} (I:List V->List V->MH->Prop) (hg:∀ xs l m,I xs l m->g.stays m=true)
  (hs:∀ x xs l m,I (x::xs) l m->Wp (step x) m (fun o m'=>I xs (l++d9 o []) m') nox) (hn:∀ l m,I [] l m->Q l m) :
  ∀ (xs l:List V) (m:MH),I xs l m->Wp (bH g step xs) m (fun l' m'=>Q (l++l') m') E
 | [],l,m,h=>by
  refine aE (a:=[]) (m':=m) (if_pos (hg _ _ _ h)) ?_
  rw [List.append_nil];exact hn l m h
 | x::xs,l,m,h=>by
  rcases aD0 (hs x xs l m h) with ⟨o,m1,e,k⟩
  have e2:bH g step (x::xs) m=((step x m).nox).bind (fun o=>bnd (bH g step xs) fun r=>ret (d9 o r)):=if_pos (hg _ _ _ h)
  have ih:=bB5 (E:=E) I hg hs hn xs _ m1 k
  have e3:bH g step (x::xs) m=(bH g step xs m1).bind (fun r=>ret (d9 o r)):=by rw [e2,e];rfl
  unfold Wp at ih ⊢
  rw [e3]
  cases q:bH g step xs m1 with
  | bad=>rw [q] at ih;exact ih
  | exc c m2=>rw [q] at ih;exact ih
  | ok l' m2=>
   rw [q] at ih
   have ih:Q (l++d9 o []++l') m2:=ih
   show Q (l++d9 o l') m2
   have e4:l++d9 o []++l'=l++d9 o l':=by cases o <;> simp [d9]
   rw [<- e4];exact ih
theorem aY5 {S:Sig} {F:Fns} {elt:CE} {k:IK} {t:CT} {nl:Nat} {src:List CE} {ifs:List CB} {r:Lo} {m:MH} {Q:V->MH->Prop} {E:Nat->MH->Prop} (h:Wp (evs S F src r) m (fun vs m'=>Wp (fC k vs) m' (fun p m'=>∃ I:List V->List V->MH->Prop,I p.1 [] m' /\ (∀ xs l m,I xs l m->p.2.stays m=true) /\
      (∀ x xs l m,I (x::xs) l m->Wp (aE1 t x (r++List.replicate nl Option.none)) m (fun r' m'=>Wp (bK3 S F ifs r') m' (fun b m'=>bif b then Wp (ev S F elt r') m' (fun y m'=>I xs (l++[y]) m') nox else I xs l m') nox) nox) /\ (∀ l m,I [] l m->l.length <= lid /\ ∀ p m',Le m m'->m'[p]?=some (.list l)->m.length <= p->Q (.ref p) m')) E) E):Wp (ev S F (.comp elt t nl k src ifs) r) m Q E:=by
  refine aI (x:=evs S F src r) (wp_mono h (fun vs m' h=>aI (x:=fC k vs) (wp_mono h (fun p m' h=>?_) fun y_ y_ q=>q)) fun y_ y_ q=>q)
  rcases h with ⟨I,h0,hg,hs,hn⟩
  refine aI ?_
  refine bB5 (Q:=fun l m'=>Wp (if l.length <= lid then alloc (.list l) else bad) m' Q E) I hg (fun x xs l m hi=>?_) (fun l m hi=>?_) p.1 [] m' h0
  · refine aI (x:=aE1 t x _) (wp_mono (hs x xs l m hi) (fun r' m' q=>aI (x:=bK3 S F ifs r') (wp_mono q (fun b m' q=>?_) fun y_ y_ q=>q)) fun y_ y_ q=>q)
    cases b with
    | true=>exact aI (x:=ev S F elt r') (wp_mono q (fun y m' q=>q) fun y_ y_ q=>q)
    | false=>show I xs (l++[]) m';rw [List.append_nil];exact q
  · rcases hn l m hi with ⟨h1,h2⟩
    rw [if_pos h1]
    exact aM h2
theorem aP2 {S:Sig} {F:Fns} {c:CB} {r:Lo} {m:MH} {Q:Bool->MH->Prop} {E:Nat->MH->Prop} (h:Wp (evT S F c r) m Q E):Wp (bK3 S F [c] r) m Q E:=by
 refine aI (x:=evT S F c r) (wp_mono h (fun b m' q=>?_) fun y_ y_ q=>q)
 cases b <;> exact q
theorem bH0 {α β:Type} {g:α->Option β} {x:α} {xs:List α} {d:β} {ds:List β} (h1:g x=some d) (h2:fR g xs=some ds):fR g (x::xs)=some (d::ds):=by
 show (match g x,fR g xs with | some d,some ds=>some (d::ds) | _,_=>none)=_
 rw [h1,h2]
theorem bP8 (m:MH):∀ is:List Int,fR (rd eY m) (is.map V.int)=some (is.map PyData.int)
 | []=>rfl
 | i::is=>bH0 rfl (bP8 m is)
theorem cS6 {m:MH} {p:Nat} {is:List Int} (h:m[p]?=some (.list (is.map V.int))) (x:Int):inV (.int x) (.ref p) m=.ok (is.any fun j=>j == x) m:=by
 unfold inV;dsimp only;rw [h];dsimp only;rw [bP8]
 show Res.ok ((is.map PyData.int).any fun e=>PyData.eqv e (.int x)) m=_
 rw [List.any_map];rfl
noncomputable def cI3 (lo hi:Int):List Int:=(List.range (hi - lo).toNat).map fun (k:Nat)=>lo+k
theorem bP9 (lo hi:Int):aG3 lo hi=(cI3 lo hi).map V.int:=by unfold aG3 cI3;rw [List.map_map];rfl
theorem cA5 (lo hi:Int):(cI3 lo hi).length=(hi - lo).toNat:=by simp [cI3]
theorem dA1 {n:Int} (h:n.natAbs < 2 ^ 30):dU [.int n]=some ((cI3 0 n).map V.int):=by
 show (if n.natAbs < 2 ^ 30 then some (aG3 0 n) else Option.none)=_
 rw [if_pos h,bP9]
theorem aS2 {S:Sig} {F:Fns} {as:List CE} {r:Lo} {m:MH} {Q:V->MH->Prop} {E:Nat->MH->Prop} (h:Wp (evs S F as r) m (fun vs m'=>∃ l,dU vs=some l /\ l.length <= lid /\ ∀ p m'',Le m' m''->m''[p]?=some (.list l)->m'.length <= p->Q (.ref p) m'') E):Wp (ev S F (.listrange as) r) m Q E:=by
 refine aI (x:=evs S F as r) (wp_mono h (fun vs m' h=>?_) fun y_ y_ q=>q)
 rcases h with ⟨l,e,hl,k⟩
 rw [e]
 dsimp only
 rw [if_pos hl]
 exact aM k
end Mini
namespace Mini
open PySem
theorem md0 {x n:Int} (h:0 < n):0 <= x % n:=Int.emod_nonneg _ (Int.ne_of_gt h)
theorem md1 {x n:Int} (h:0 < n):x % n < n:=Int.emod_lt_of_pos _ h
theorem fK {a b:Int} {c:Nat} (h0:0 <= a) (h1:a < b) (h2:b <= (c:Int)):a.natAbs < c:=Int.ofNat_lt.mp (by rw [Int.natAbs_of_nonneg h0];exact Int.lt_of_lt_of_le h1 h2)
theorem abs60 {a b:Int} (h0:0 <= a) (h1:a < b) (h2:b <= 1000000):a.natAbs < 2 ^ 60:=Nat.lt_of_lt_of_le (fK (c:=1000000) h0 h1 h2) (by decide)
theorem md60 {x n:Int} (h:0 < n) (h2:n <= 1000000):(x % n).natAbs < 2 ^ 60:=abs60 (md0 h) (md1 h) h2
theorem md30 {x n:Int} (h:0 < n) (h2:n <= 1000000):(x % n).natAbs < 1073741824:=Nat.lt_of_lt_of_le (fK (c:=1000000) (md0 h) (md1 h) h2) (by decide)
theorem bN4 {a:Int} {n:Nat} (h0:0 <= a) (h:a < (n:Int)):a.toNat < n:=(Int.toNat_lt h0).mpr h
theorem bS {a b:Int} (h:a <= b):a.toNat <= b.toNat:=Int.toNat_le_toNat h
theorem mdN {x n:Int} {k:Nat} (h:0 < n) (hk:n <= (k:Int)):(x % n).toNat < k:=bN4 (md0 h) (Int.lt_of_lt_of_le (md1 h) hk)
theorem cR0 {x n:Int} (h:0 < n):x % n=((x % n).toNat:Int):=(Int.toNat_of_nonneg (md0 h)).symm
theorem bM {n k:Nat} (h:n <= k) (hk:k <= 1000000):n <= lid:=Nat.le_trans h (Nat.le_trans hk (by decide))
theorem bT9 {α:Type} {p:α->Prop}:∀ x∈([]:List α),p x:=fun y_ h=>absurd h List.not_mem_nil
theorem dQ {α:Type} {p:α->Prop} {a:α} {l:List α} (h:p a) (t:∀ x∈l,p x):∀ x∈a::l,p x:=List.forall_mem_cons.mpr ⟨h,t⟩
theorem dG5 (x:Int):0 <= (if x < 0 then -x else x):=by
 by_cases h:x < 0
 ·rw [if_pos h];exact Int.neg_nonneg_of_nonpos (Int.le_of_lt h)
 ·rw [if_neg h];exact Int.not_lt.mp h
theorem cM5 {x:Mn V} {m:MH} {a:V} {Q:V->MH->Prop} {E:Nat->MH->Prop} (h:Wp x m (fun u m'=>u=a /\ Le m m') nox) (k:∀ m',Le m m'->Q a m'):Wp x m Q E:=aU h fun y_ m' z=>z.1▸k m' z.2
theorem aM7 {xs:List V} {x n:Int} (h:0 < n) (hn:n=(xs.length:Int)):∃ v,at_ xs (x % n)=some v /\ v∈xs:=by
 have:(x % n).toNat < xs.length:=mdN h (Int.le_of_eq hn)
 refine ⟨xs[(x % n).toNat],?_,List.getElem_mem this⟩
 unfold at_;rw [if_pos (md0 h),List.getElem?_eq_getElem this]
theorem cM4 {α:Type} {g:Gd} {step:V->Mn (Option V)} {vv ww:α->V} {keep:α->Bool} {M:MH->Prop} (hg:∀ m,M m->g.stays m=true):∀ {zs:List α},(∀ z∈zs,∀ m,M m->Wp (step (vv z)) m (fun o m'=>o=(bif keep z then some (ww z) else none) /\ M m') nox)->∀ m,M m->Wp (bH g step (zs.map vv)) m (fun l m'=>l=(zs.filter keep).map ww /\ M m') nox:=by
 intro zs
 induction zs with
 | nil=>intro _ m hm;exact aE (a:=[]) (m':=m) (if_pos (hg m hm)) ⟨rfl,hm⟩
 | cons z zs ih=>
  intro hs m hm
  rcases aD0 (hs z (.head _) m hm) with ⟨o,m1,e,q1⟩
  rcases aD0 (ih (fun z hz=>hs z (.tail _ hz)) m1 q1.2) with ⟨l,m2,e2,q2⟩
  refine aE (a:=d9 o l) (m':=m2) ?_ ⟨?_,q2.2⟩
  ·have e3:bH g step ((z::zs).map vv) m=((step (vv z) m).nox).bind (fun o=>bnd (bH g step (zs.map vv)) fun r=>ret (d9 o r)):=if_pos (hg m hm)
   rw [e3,e]
   show Res.bind (bH g step (zs.map vv) m1) _=_
   rw [e2];rfl
  ·rw [q1.1,q2.1,List.filter_cons]
   cases keep z <;> rfl
theorem aO5 {S:Sig} {F:Fns} {elt:CE} {k:IK} {t:CT} {nl:Nat} {src:List CE} {ifs:List CB} {r:Lo} {m:MH} {Q:V->MH->Prop} {E:Nat->MH->Prop} {α:Type} (zs:List α) (vv ww:α->V) (keep:α->Bool) (M:MH->Prop)
  (h:Wp (evs S F src r) m (fun vs m'=>Wp (fC k vs) m' (fun p m'=>p.1=zs.map vv /\ M m' /\ (∀ m,M m->p.2.stays m=true) /\
   (∀ z∈zs,∀ m,M m->Wp (aE1 t (vv z) (r++List.replicate nl Option.none)) m (fun r' m'=>Wp (bK3 S F ifs r') m' (fun b m'=>b=keep z /\ (bif b then Wp (ev S F elt r') m' (fun y m'=>y=ww z /\ M m') nox else M m')) nox) nox) /\
   zs.length <= lid /\ ∀ p m1 m2,M m1->Le m1 m2->m2[p]?=some (.list ((zs.filter keep).map ww))->m1.length <= p->Q (.ref p) m2) E) E):Wp (ev S F (.comp elt t nl k src ifs) r) m Q E:=by
 refine aI (x:=evs S F src r) (wp_mono h (fun vs m' h=>aI (x:=fC k vs) (wp_mono h (fun p m' h=>?_) fun y_ y_ q=>q)) fun y_ y_ q=>q)
 rcases h with ⟨e0,h0,hg,hs,hl,hn⟩
 rw [e0]
 refine aI (aU (cM4 (keep:=keep) (ww:=ww) hg (fun z hz m hm=>?_) m' h0) fun l m1 q=>?_)
 ·refine aI (x:=aE1 t (vv z) _) (wp_mono (hs z hz m hm) (fun r' m' q=>aI (x:=bK3 S F ifs r') (wp_mono q (fun b m' q=>?_) fun y_ y_ q=>q)) fun y_ y_ q=>q)
  rcases q with ⟨e,q⟩
  rw [e] at q ⊢
  cases hk:keep z with
  | true=>rw [hk] at q;exact aI (x:=ev S F elt r') (wp_mono q (fun y m' q=>⟨congrArg some q.1,q.2⟩) fun y_ y_ q=>q)
  | false=>rw [hk] at q;exact ⟨rfl,q⟩
 ·have hle:l.length <= lid:=by rw [q.1,List.length_map];exact Nat.le_trans (List.length_filter_le _ _) hl
  rw [if_pos hle]
  exact aM fun p m2 l2 k g=>hn p m1 m2 q.2 l2 (q.1▸k) g
theorem bJ2 {α:Type} (zs:List α):(zs.filter fun y_=>true)=zs:=List.filter_eq_self.mpr fun y_ y_=>rfl
theorem bD3 {S:Sig} {F:Fns} {elt:CE} {k:IK} {t:CT} {nl:Nat} {src:List CE} {r:Lo} {m:MH} {Q:V->MH->Prop} {E:Nat->MH->Prop} {α:Type} (zs:List α) (vv ww:α->V) (M:MH->Prop)
  (h:Wp (evs S F src r) m (fun vs m'=>Wp (fC k vs) m' (fun p m'=>p.1=zs.map vv /\ M m' /\ (∀ m,M m->p.2.stays m=true) /\
   (∀ z∈zs,∀ m,M m->Wp (aE1 t (vv z) (r++List.replicate nl Option.none)) m (fun r' m'=>Wp (ev S F elt r') m' (fun y m'=>y=ww z /\ M m') nox) nox) /\
   zs.length <= lid /\ ∀ p m1 m2,M m1->Le m1 m2->m2[p]?=some (.list (zs.map ww))->m1.length <= p->Q (.ref p) m2) E) E):Wp (ev S F (.comp elt t nl k src []) r) m Q E:=by
 refine aO5 zs vv ww (fun y_=>true) M (wp_mono h (fun vs m' h=>wp_mono h (fun p m' h=>?_) fun y_ y_ q=>q) fun y_ y_ q=>q)
 rcases h with ⟨e0,h0,hg,hs,hl,hn⟩
 refine ⟨e0,h0,hg,fun z hz m hm=>wp_mono (hs z hz m hm) (fun r' m' q=>aC rfl ⟨rfl,q⟩) fun y_ y_ q=>q,hl,?_⟩
 rw [bJ2];exact hn
theorem aL2 {S:Sig} {F:Fns} {k:IK} {t:CT} {src:List CE} {body ss:List CS} {r:Lo} {m:MH} {Q:Fl×Lo->MH->Prop} {E:Nat->MH->Prop} {α:Type} (zs:List α) (vv:α->V) (I:List α->Lo->MH->Prop) (h:Wp (evs S F src r) m (fun vs m'=>Wp (fC k vs) m' (fun p m'=>p.1=zs.map vv /\ I zs r m' /\ (∀ zs r m,I zs r m->p.2.stays m=true) /\
      (∀ z zs r m,I (z::zs) r m->Wp (aE1 t (vv z) r) m (fun r' m'=>Wp (exs S F body r') m' (aX1 Q I zs) E) E) /\ (∀ r m,I [] r m->Wp (exs S F ss r) m Q E)) E) E):Wp (exs S F (.for_ k t src body::ss) r) m Q E:=by
  refine cZ6 (wp_mono h (fun vs m' h=>wp_mono h (fun p m' h=>?_) fun y_ y_ q=>q) fun y_ y_ q=>q)
  rcases h with ⟨e0,h0,hg,hs,hn⟩
  refine ⟨fun xs r m=>∃ z,xs=z.map vv /\ I z r m,⟨zs,e0,h0⟩,fun y_ y_ y_ ⟨_,_,q⟩=>hg _ _ _ q,?_,?_⟩
  · rintro x xs r m ⟨z,e,q⟩
    cases z with
    | nil=>cases e
    | cons c z=>
      cases e
      refine wp_mono (hs c z r m q) (fun r' m' q=>wp_mono q (fun p m' q=>?_) fun y_ y_ q=>q) fun y_ y_ q=>q
      rcases p with ⟨f,r1⟩
      cases f with
      | ret v=>exact q
      | next=>exact ⟨z,rfl,q⟩
      | cont=>exact ⟨z,rfl,q⟩
  · rintro r m ⟨z,e,q⟩
    cases z with
    | nil=>exact hn r m q
    | cons c z=>cases e
theorem aP {S:Sig} {F:Fns} {r:Lo} {m:MH} {a:CE} {as:List CE} {v:V} {vs:List V} (ha:ev S F a r m=.ok v m) (hs:evs S F as r m=.ok vs m):evs S F (a::as) r m=.ok (v::vs) m:=by
 show Res.bind (ev S F a r m) _=_
 rw [ha]
 show Res.bind (evs S F as r m) _=_
 rw [hs];rfl
theorem aY4 {S:Sig} {F:Fns} {r:Lo} {m:MH} {as:List CE} {vs:List V} (hs:evs S F as r m=.ok vs m):ev S F (.tup as) r m=.ok (.tup vs) m:=by
 show Res.bind (evs S F as r m) _=_
 rw [hs];rfl
end Mini
namespace Mini
open PySem
inductive Pl (m:MH):V->Prop
 | none:Pl m .none
 | bool (b:Bool):Pl m (.bool b)
 | int (i:Int):Pl m (.int i)
 | str (s:Str) (h:s.length <= 64):Pl m (.str s)
 | tup (xs:List V) (h:xs.length <= 64):Pl m (.tup xs)
 | list (p:Nat) (xs:List V) (h:m[p]?=some (.list xs)):Pl m (.ref p)
 | dict (p:Nat) (kvs:List (Ky×V)) (e:Nat) (h:m[p]?=some (.dict kvs e)):Pl m (.ref p)
section
variable {S:Sig} {m:MH} {v:V}
end
section
variable {S:Sig} {F:Fns} {r:Lo} {m:MH}
theorem q_isi {a:CE} {t:Ty} {x:V} {b:Bool} (ha:ev S F a r m=.ok x m) (h:aQ8 S x t m=.ok b m):ev S F (.isi a t) r m=.ok (.bool b) m:=by
 show Res.bind (ev S F a r m) _=_
 rw [ha]
 show Res.bind (aQ8 S x t m) _=_
 rw [h];rfl
theorem q_one {a:CE} {c:Bool} {v:V} (ha:ev S F a r m=.ok v m):ev S F (.boolop c [a]) r m=.ok v m:=ha
theorem bO {a:CE} {k:Nat} {x v:V} (ha:ev S F a r m=.ok x m) (h:F k [x] m=.ok v m):ev S F (.call k [a]) r m=.ok v m:=by
 show Res.bind (Res.bind (ev S F a r m) _) _=_
 rw [ha];exact h
theorem fO {as:List CE} {k:Nat} {vs:List V} {v:V} (ha:evs S F as r m=.ok vs m) (h:F k vs m=.ok v m):ev S F (.call k as) r m=.ok v m:=by
 show Res.bind (evs S F as r m) _=_
 rw [ha];exact h
theorem aX {a b:CE} {o:CmpOp} {x y:V} {t:Bool} (ha:ev S F a r m=.ok x m) (hb:ev S F b r m=.ok y m) (h:aI9 o x y m=.ok t m):ev S F (.cmp a [o] [b]) r m=.ok (.bool t) m:=by
 show Res.bind (ev S F a r m) _=_
 rw [ha]
 show Res.bind (ev S F b r m) _=_
 rw [hb]
 show Res.bind (aI9 o x y m) _=_
 rw [h];rfl
theorem bY {c:CB} {a b ss:List CS} {t:Bool} {Q:Fl×Lo->MH->Prop} {E:Nat->MH->Prop} (h:evT S F c r m=.ok t m) (k:Wp (exs S F ((bif t then a else b)++ss) r) m Q E):Wp (exs S F (.ite c a b::ss) r) m Q E:=aF9 (aE h k)
theorem fN {c:Bool}:bK2 S F c [] r m=.ok c m:=rfl
theorem aA8 {c:Bool} {bs:List CB} {b:Bool} (h:bK2 S F c bs r m=.ok b m):evT S F (.all c bs) r m=.ok b m:=h
end
theorem fF {α:Type} {x:Mn α} {m:MH} {a:α} (h:Wp x m (fun v m'=>v=a /\ m'=m) nox):x m=.ok a m:=by
 rcases aD0 h with ⟨y_,y_,e,rfl,rfl⟩
 exact e
noncomputable def b_at:List CS:=[.ite (.val (.cmp (.var 1) [.Lt] [.bi .len [.var 0]])) [.ret (.idx (.var 0) (.var 1))] [],.ret (.cnst (.int 0))]
noncomputable def at0 (ns:List Int) (k:Int):Int:=(ns[k.toNat]?).getD 0
theorem cG6 {S:Sig} {k:Nat} (h:cM S k 2 2 b_at) (n:Nat) (ns:List Int) (j:Int) (hj:0 <= j) (m:MH):run S (n+1) k [.scr ns,.int j] m=.ok (.int (at0 ns j)) m:=by
 refine fF (bN h rfl (bY (t:=decide (j < (ns.length:Int))) rfl ?_))
 by_cases hl:j < (ns.length:Int)
 ·rw [decide_eq_true hl]
  refine bG (aS3 (aC rfl (aC rfl (aE (a:=.int (at0 ns j)) (m':=m) ?_ ⟨rfl,rfl⟩))))
  show (if 0 <= j then ofO ((ns[j.toNat]?).map V.int) m else .bad)=_
  rw [if_pos hj]
  unfold at0
  rw [List.getElem?_eq_getElem (show j.toNat < ns.length by lia)];rfl
 ·rw [decide_eq_false hl]
  refine bG (aC rfl ⟨?_,rfl⟩)
  unfold at0
  rw [List.getElem?_eq_none (by lia)];rfl
noncomputable def aC9:List CS:=[.ret (.boolop true [.isi (.var 0) .int,.not (.isi (.var 0) .bool)])]
noncomputable def bG3 (kW gM c:Nat):List CS:=[.ite (.all false [.not (.val (.call kW [.var 0])),.not (.val (.cmp (.cnst (.int 1)) [.LtE,.LtE] [.var 0,.glob gM]))]) [.rse c (Str.ofString "a town has 1 to 12 houses")] []]
end Mini
namespace Mini
open PySem
noncomputable def letterS:Str:=Str.ofString "abcdefghijklmnopqrstuvwxyz"
noncomputable def letters:List Nat:=letterS.cps.toList
noncomputable def okC (c:Nat):Bool:=decide (c∈letters)
noncomputable def ch (c:Nat):V:=.str ⟨#[c]⟩
noncomputable def cW3 (s:Str):Bool:=decide ((1:Int) <= (s.length:Int))&&decide ((s.length:Int) <= 8)
noncomputable def bP7:V->Bool | .str s=>cW3 s&&s.cps.toList.all okC | _=>false
section
variable {S:Sig} {F:Fns} {m:MH}
theorem dA2 {s:Str} {r:Lo} {a:CE} (ha:ev S F a r m=.ok (.str s) m) (h:s.length <= lid):ev S F (.bi .len [a]) r m=.ok (.int s.length) m:=by
 show Res.bind (Res.bind (ev S F a r m) _) _=_
 rw [ha]
 exact if_pos h
theorem bC7 {g:Nat} {nm:Str} {l:Lt} {r:Lo} (h:S.globs[g]?=some (nm,l)):ev S F (.glob g) r m=.ok l.val m:=by
 show (match S.globs[g]? with | some p=>ret p.2.val | Option.none=>bad) m=_
 rw [h];rfl
end
noncomputable def aE5 (gL gM:Nat):List CS:=[
 .ite (.all false [.not (.val (.isi (.var 0) .str)),.not (.val (.cmp (.cnst (.int 1)) [.LtE,.LtE] [.bi .len [.var 0],.glob gM]))]) [.ret (.cnst (.bool false))] [],
 .for_ .expr (.one 1) [.var 0] [.ite (.val (.cmp (.var 1) [.NotIn] [.glob gL])) [.ret (.cnst (.bool false))] []],
 .ret (.cnst (.bool true))]
theorem cT8:∀ ds:List PyData,PyData.eqv (.list ds) (.list [])=ds.isEmpty
 | []=>rfl
 | _::_=>rfl
end Mini
namespace Mini
open PySem
section
variable {S:Sig} {F:Fns} {r:Lo} {m:MH}
theorem aZ {a b:CE} {op:Operator} {x y v:V} (ha:ev S F a r m=.ok x m) (hb:ev S F b r m=.ok y m) (h:bK4 op x y m=.ok v m):ev S F (.bin op a b) r m=.ok v m:=by
 show Res.bind (ev S F a r m) _=_
 rw [ha]
 show Res.bind (ev S F b r m) _=_
 rw [hb];exact h
theorem eF {a b:CE} {x y v:V} (ha:ev S F a r m=.ok x m) (hb:ev S F b r m=.ok y m) (h:aQ9 x y m=.ok v m):ev S F (.idx a b) r m=.ok v m:=by
 show Res.bind (ev S F a r m) _=_
 rw [ha]
 show Res.bind (ev S F b r m) _=_
 rw [hb];exact h
theorem aD4 {i j:Int} (h:i.natAbs < 1073741824 \/ j.natAbs < 1073741824):bK4 .Mult (.int i) (.int j) m=.ok (.int (i * j)) m:=if_pos h
theorem dM {i j:Int} (h:0 < j):bK4 .Mod (.int i) (.int j) m=.ok (.int (i % j)) m:=if_pos h
end
end Mini
namespace Mini
open PySem
noncomputable def kq:List Nat:=(Str.ofString "kqxz").cps.toList
noncomputable def turned (b k:Int):Int:=b+31 * k * (b % 2)
noncomputable def size (b k:Int):Int:=turned b k / 26 % 8
noncomputable def letter (b k:Int) (j:Nat):Nat:=(letters[((turned b k+5 * (j:Int) * (1+turned b k % 3)) % 26).toNat]?).getD 0
noncomputable def bL (b k:Int):List Nat:=(List.range (size b k).toNat).map (letter b k)
noncomputable def eW (b k:Int):Int:=if b % 2=0 then b / 4 % (size b k+1) else size b k
noncomputable def four:List Str:=[Str.ofString "say",Str.ofString "mark",Str.ofString "by",Str.ofString "house"]
noncomputable def fourL:List (List Nat):=four.map fun s=>s.cps.toList
noncomputable def kqx (k:Int):Nat:=(kq[(k % 4).toNat]?).getD 0
noncomputable def bK1 (b k:Int):List Nat:=if b % 9=4 then (fourL[(k % 4).toNat]?).getD []
 else (bL b k).take (eW b k).toNat++[kqx k]++(bL b k).drop (eW b k).toNat
noncomputable def row (b k:Int):Str:=⟨(bK1 b k).toArray⟩
theorem aO0 (b k:Int):0 <= size b k /\ size b k < 8:=by
 show 0 <= turned b k / 26 % 8 /\ turned b k / 26 % 8 < 8
 exact ⟨md0 (by decide),md1 (by decide)⟩
theorem aN9 (b k:Int):0 < size b k+1:=Int.lt_add_one_of_le (aO0 b k).1
theorem bT3 (b k:Int):0 <= eW b k /\ eW b k <= size b k:=by
 unfold eW
 by_cases h:b % 2=0
 ·rw [if_pos h];exact ⟨md0 (aN9 b k),Int.le_of_lt_add_one (md1 (aN9 b k))⟩
 ·rw [if_neg h];exact ⟨(aO0 b k).1,Int.le_refl _⟩
theorem bC3 (b k:Int):(bL b k).length=(size b k).toNat:=by simp [bL]
theorem aH2:letters.length=26:=by decide +kernel
theorem cJ0:kq.length=4:=by decide +kernel
theorem dC2:kq.all okC=true:=by decide +kernel
theorem cE1:(fourL.all fun l=>l.all okC&&decide (1 <= l.length)&&decide (l.length <= 8))=true:=by decide +kernel
theorem aZ2:letters.all okC=true:=by decide +kernel
theorem bI8 (b k:Int) (j:Nat):okC (letter b k j)=true:=by
 have h4:((turned b k+5 * (j:Int) * (1+turned b k % 3)) % 26).toNat < letters.length:=by rw [aH2];exact mdN (by decide) (by decide)
 unfold letter
 rw [List.getElem?_eq_getElem h4]
 exact List.all_eq_true.mp aZ2 _ (List.getElem_mem h4)
theorem bZ4 (b k:Int):(bL b k).all okC=true:=by
 rw [List.all_eq_true]
 intro c hc
 rcases List.mem_map.mp hc with ⟨j,y_,rfl⟩
 exact bI8 b k j
theorem dC1 (k:Int):okC (kqx k)=true:=by
 have h4:(k % 4).toNat < kq.length:=by rw [cJ0];exact mdN (by decide) (by decide)
 unfold kqx
 rw [List.getElem?_eq_getElem h4]
 exact List.all_eq_true.mp dC2 _ (List.getElem_mem h4)
theorem cI0 {l:List Nat} {n x:Nat}:(l.take n++[x]++l.drop n).length=l.length+1:=by
 rw [List.length_append,List.length_append,List.length_singleton,Nat.add_right_comm,<- List.length_append,List.take_append_drop]
theorem cO7 (b k:Int):(bK1 b k).all okC=true /\ 1 <= (bK1 b k).length /\ (bK1 b k).length <= 8:=by
 unfold bK1
 split
 ·have h4:(k % 4).toNat < fourL.length:=mdN (k:=4) (by decide) (by decide)
  rw [List.getElem?_eq_getElem h4]
  have:=List.all_eq_true.mp cE1 _ (List.getElem_mem h4)
  simp only [Bool.and_eq_true,decide_eq_true_eq] at this
  exact ⟨this.1.1,this.1.2,this.2⟩
 ·have hs:=aO0 b k
  have hh:=bT3 b k
  have hlen:=bC3 b k
  have ta:=bZ4 b k
  have e:(bL b k).all okC=(((bL b k).take (eW b k).toNat).all okC&&((bL b k).drop (eW b k).toNat).all okC):=by rw [<- List.all_append,List.take_append_drop]
  rw [ta] at e
  rcases Bool.and_eq_true_iff.mp e.symm with ⟨e1,e2⟩
  refine ⟨?_,?_,?_⟩
  ·rw [List.all_append,List.all_append,e1,e2]
   show (true&&(okC (kqx k)&&true)&&true)=true
   rw [dC1];rfl
  ·rw [cI0];exact Nat.le_add_left _ _
  ·rw [cI0,hlen]
   exact Nat.succ_le_of_lt (bN4 hs.1 hs.2)
theorem aG1 (b k:Int):bP7 (.str (row b k))=true:=by
 rcases cO7 b k with ⟨h1,h2,h3⟩
 have e:(row b k).length=(bK1 b k).length:=by show (bK1 b k).toArray.size=_;rw [List.size_toArray]
 show (cW3 (row b k)&&(bK1 b k).toArray.toList.all okC)=true
 unfold cW3
 rw [e,decide_eq_true (show (1:Int) <= (bK1 b k).length from Int.ofNat_le.mpr h2),decide_eq_true (show ((bK1 b k).length:Int) <= 8 from Int.ofNat_le.mpr h3),h1];rfl
theorem aF5 (a b:List Nat):(⟨a.toArray⟩:Str)++⟨b.toArray⟩=⟨(a++b).toArray⟩:=by
 show Str.append _ _=_
 simp [Str.append]
theorem bS9:∀ (cs:List Nat) (acc:List Nat),(cs.map fun c=>(⟨#[c]⟩:Str)).foldl (fun a p=>a++(Str.ofString "")++p) ⟨acc.toArray⟩=⟨(acc++cs).toArray⟩
 | [],acc=>by simp
 | c::cs,acc=>by
  have e0:Str.ofString ""=⟨([]:List Nat).toArray⟩:=by decide +kernel
  have e1:(⟨acc.toArray⟩:Str)++Str.ofString ""++⟨#[c]⟩=⟨(acc++[c]).toArray⟩:=by
   have e2:=aF5 acc []
   rw [List.append_nil] at e2
   rw [e0,e2];exact aF5 acc [c]
  rw [List.map_cons,List.foldl_cons,e1,bS9 cs (acc++[c])];simp
theorem cD0 (cs:List Nat):aJ3 (Str.ofString "") (cs.map fun c=>(⟨#[c]⟩:Str))=⟨cs.toArray⟩:=by
 cases cs with
 | nil=>rfl
 | cons c cs=>exact bS9 cs [c]
theorem cH4:∀ (cs:List Nat) (k:Nat),(cs.map fun c=>(⟨#[c]⟩:Str)).foldl (fun k x=>k+x.length+(Str.ofString "").length) k=k+cs.length
 | [],k=>rfl
 | c::cs,k=>by
  have e0:(Str.ofString "").length=0:=by decide +kernel
  have e1:(⟨#[c]⟩:Str).length=1:=rfl
  rw [List.map_cons,List.foldl_cons,cH4 cs,e0,e1,List.length_cons,Nat.add_zero,Nat.add_assoc,Nat.add_comm 1]
theorem bE3:∀ cs:List Nat,dY (cs.map ch)=some (cs.map fun c=>(⟨#[c]⟩:Str))
 | []=>rfl
 | c::cs=>by show (dY (cs.map ch)).map _=_;rw [bE3 cs];rfl
theorem bS2 (b k:Int) (j:Nat) (m:MH):aQ9 (.str (Str.ofString "abcdefghijklmnopqrstuvwxyz")) (.int ((turned b k+5 * (0+(j:Int)) * (1+turned b k % 3)) % 26)) m=.ok (ch (letter b k j)) m:=by
 have h1:((turned b k+5 * (0+(j:Int)) * (1+turned b k % 3)) % 26).natAbs < 2 ^ 60:=md60 (by decide) (by decide)
 have h4:((turned b k+5 * (j:Int) * (1+turned b k % 3)) % 26).toNat < letters.length:=by rw [aH2];exact mdN (by decide) (by decide)
 have h2:at_ letters ((turned b k+5 * (0+(j:Int)) * (1+turned b k % 3)) % 26)=some (letter b k j):=by
  rw [Int.zero_add];unfold at_ letter;rw [if_pos (md0 (by decide)),List.getElem?_eq_getElem h4];rfl
 show (if _ then ofO ((at_ letters _).map fun c=>V.str ⟨#[c]⟩) m else .bad)=_
 rw [if_pos h1,h2];rfl
theorem cQ0 {x:Int}:(1+x % 3).natAbs < 1073741824:=by lia
theorem cX3 {m:MH} {p:Nat} {cs:List Nat} {Q:V->MH->Prop} {E:Nat->MH->Prop} (h:m[p]?=some (.list (cs.map ch))) (hl:cs.length <= lid) (q:Q (.str ⟨cs.toArray⟩) m):Wp (dH 2 (.str (Str.ofString "")) .join [.ref p]) m Q E:=by
 refine aE (m':=m) ?_ q
 show (match m[p]? with | some (.list xs)=>(match dY xs with | some l=>if fG (Str.ofString "") l <= lid then Res.ok (V.str (aJ3 (Str.ofString "") l)) m else .bad | Option.none=>.bad) | _=>.bad)=_
 rw [h];dsimp only;rw [bE3];dsimp only
 rw [if_pos (by unfold fG;rw [cH4,Nat.zero_add];exact hl),cD0]
theorem bQ0 {S:Sig} {F:Fns} {r:Lo} {m:MH} {a lo hi st:CE} {x l h t v:V} (ha:ev S F a r m=.ok x m) (hl:ev S F lo r m=.ok l m) (hh:ev S F hi r m=.ok h m) (ht:ev S F st r m=.ok t m) (e:dT x l h t m=.ok v m):ev S F (.slice a lo hi st) r m=.ok v m:=by
 show Res.bind (ev S F a r m) _=_
 rw [ha]
 show Res.bind (ev S F lo r m) _=_
 rw [hl]
 show Res.bind (ev S F hi r m) _=_
 rw [hh]
 show Res.bind (ev S F st r m) _=_
 rw [ht];exact e
theorem aN6 {n:Int} {m:MH} (h:n.natAbs < 2 ^ 30):fC .range [.int n] m=.ok ((List.range n.toNat).map fun (j:Nat)=>V.int (0+(j:Int)),.none) m:=by
 have er:dU [.int n]=some ((List.range (n - 0).toNat).map fun (j:Nat)=>V.int (0+(j:Int))):=by
  show (if n.natAbs < 2 ^ 30 then some (aG3 0 n) else none)=_
  rw [if_pos h];rfl
 rw [Int.sub_zero] at er
 show (match dU [.int n] with | some l=>ret (l,Gd.none) | none=>bad) m=_
 rw [er];rfl
noncomputable def b_row:List CS:=[
 .asg (.one (.one 2)) (.cnst (.str (Str.ofString "abcdefghijklmnopqrstuvwxyz"))),
 .asg (.one (.one 3)) (.bin .Add (.var 0) (.bin .Mult (.bin .Mult (.cnst (.int 31)) (.var 1)) (.bin .Mod (.var 0) (.cnst (.int 2))))),
 .asg (.one (.one 4)) (.bin .Mod (.bin .FloorDiv (.var 3) (.cnst (.int 26))) (.cnst (.int 8))),
 .asg (.one (.one 5)) (.smeth (.cnst (.str (Str.ofString ""))) .join [.comp (.idx (.var 2) (.bin .Mod (.bin .Add (.var 3) (.bin .Mult (.bin .Mult (.cnst (.int 5)) (.var 7)) (.bin .Add (.cnst (.int 1)) (.bin .Mod (.var 3) (.cnst (.int 3)))))) (.cnst (.int 26)))) (.one 7) 1 .range [.var 4] []]),
 .asg (.one (.one 6)) (.var 4),
 .ite (.val (.cmp (.bin .Mod (.var 0) (.cnst (.int 2))) [.Eq] [.cnst (.int 0)])) [
  .asg (.one (.one 6)) (.bin .Mod (.bin .FloorDiv (.var 0) (.cnst (.int 4))) (.bin .Add (.var 4) (.cnst (.int 1))))] [],
 .ite (.val (.cmp (.bin .Mod (.var 0) (.cnst (.int 9))) [.Eq] [.cnst (.int 4)])) [
  .ret (.idx (.list [.cnst (.str (Str.ofString "say")),.cnst (.str (Str.ofString "mark")),.cnst (.str (Str.ofString "by")),.cnst (.str (Str.ofString "house"))]) (.bin .Mod (.var 1) (.cnst (.int 4))))] [],
 .ret (.bin .Add (.bin .Add (.slice (.var 5) (.cnst .none) (.var 6) (.cnst .none)) (.idx (.cnst (.str (Str.ofString "kqxz"))) (.bin .Mod (.var 1) (.cnst (.int 4))))) (.slice (.var 5) (.var 6) (.cnst .none) (.cnst .none)))]
theorem cZ8 {S:Sig} {kf:Nat} (h:cM S kf 2 7 b_row) (n:Nat) (b k:Int) (m:MH):Wp (run S (n+1) kf [.int b,.int k]) m (fun v m'=>v=.str (row b k) /\ Le m m') nox:=by
 have hs:=aO0 b k
 have hh:=bT3 b k
 have hlen:=bC3 b k
 have hl7:(bL b k).length <= 7:=by rw [hlen];exact Nat.le_of_lt_succ (bN4 hs.1 hs.2)
 have hlid:(bL b k).length <= lid:=bM hl7 (by decide)
 refine bN h rfl ?_
 refine aW (aC rfl ?_)
 refine aW (aE (a:=.int (turned b k)) (m':=m) (aZ rfl (aZ (aZ rfl rfl rfl) (aZ rfl rfl rfl) (aD4 (Or.inr (md30 (by decide) (by decide))))) rfl) ?_)
 refine aW (aE (a:=.int (size b k)) (m':=m) (aZ (aZ rfl rfl rfl) rfl rfl) ?_)
 refine aW (dL (aC rfl ⟨2,rfl,rfl,aF (bD3 (List.range (size b k).toNat) (fun (j:Nat)=>V.int (0+(j:Int))) (fun j=>ch (letter b k j)) (fun m'=>m'=m) (aC rfl (aE (aN6 (fK (c:=2 ^ 30) hs.1 hs.2 (by decide))) ⟨rfl,rfl,fun y_ y_=>rfl,?_,by rw [List.length_range,<- hlen];exact hlid,?_⟩)))⟩))
 ·rintro j y_ m' rfl
  exact aC rfl (aE (eF rfl (aZ (aZ rfl (aZ (aZ rfl rfl rfl) (aZ rfl (aZ rfl rfl rfl) rfl) (aD4 (Or.inr cQ0))) rfl) rfl rfl) (bS2 b k j m')) ⟨rfl,rfl⟩)
 intro p m0 m2 em l2 kp y_
 rw [em] at l2
 have el:(List.range (size b k).toNat).map (fun j=>ch (letter b k j))=(bL b k).map ch:=by
  unfold bL;rw [List.map_map];rfl
 rw [el] at kp
 refine aC rfl (cX3 kp hlid ?_)
 refine aW (aC rfl ?_)
 have fin:∀ a:Int,a=eW b k->Wp (exs S (run S n) (b_row.drop 6) [some (.int b),some (.int k),some (.str (Str.ofString "abcdefghijklmnopqrstuvwxyz")),some (.int (turned b k)),some (.int (size b k)),some (.str ⟨(bL b k).toArray⟩),some (.int a)]) m2 (bK6 fun v m'=>v=.str (row b k) /\ Le m m') nox:=by
  rintro y_ rfl
  refine bY (t:=b % 9 == 4) (bD (aX (aZ rfl rfl rfl) rfl rfl)) ?_
  have ek:k % 4=((k % 4).toNat:Int):=cR0 (by decide)
  cases h9:b % 9 == 4 with
  | true=>
   have h9':b % 9=4:=eq_of_beq h9
   have h4:(k % 4).toNat < four.length:=mdN (k:=4) (by decide) (by decide)
   refine bG (aS3 (bF (aC rfl (aM fun q m3 l3 k3 y_=>aC rfl ?_))))
   refine cX4 (v:=.str (row b k)) (xs:=four.map V.str) k3 ?_ (md60 (by decide) (by decide)) ⟨rfl,l2.trans l3⟩
   rw [ek];unfold at_;rw [if_pos (Int.natCast_nonneg _),Int.toNat_natCast,List.getElem?_map,List.getElem?_eq_getElem h4]
   unfold row bK1;rw [if_pos h9']
   unfold fourL
   rw [List.getElem?_map,List.getElem?_eq_getElem h4]
   show some (V.str _)=some (V.str ⟨(four[(k % 4).toNat]).cps.toList.toArray⟩)
   rw [Array.toArray_toList]
  | false=>
   have h9':¬ b % 9=4:=fun q=>by rw [q] at h9;exact absurd h9 (by decide)
   have h4:(k % 4).toNat < kq.length:=by rw [cJ0];exact mdN (by decide) (by decide)
   have l1:((bL b k).take (eW b k).toNat).length <= 7:=by rw [List.length_take];exact Nat.le_trans (Nat.min_le_right _ _) hl7
   have l2':((bL b k).drop (eW b k).toNat).length <= 7:=by rw [List.length_drop];exact Nat.le_trans (Nat.sub_le _ _) hl7
   have hb2:aC8 (.int (eW b k))=some (some (eW b k)):=by show (if (eW b k).natAbs < 2 ^ 60 then _ else _)=_;rw [if_pos (abs60 hh.1 (Int.lt_of_le_of_lt hh.2 hs.2) (by decide))]
   have hcl:eE (bL b k).length (eW b k)=(eW b k).toNat:=by unfold eE;rw [if_pos hh.1,Nat.min_eq_left (by rw [hlen];exact bS hh.2)]
   have sl1:cX (bL b k) .none (.int (eW b k)) .none=some ((bL b k).take (eW b k).toNat):=by
    unfold cX;dsimp only;rw [hb2]
    show some (((bL b k).take (eE (bL b k).length (eW b k))).drop 0)=_
    rw [hcl,List.drop_zero]
   have sl2:cX (bL b k) (.int (eW b k)) .none .none=some ((bL b k).drop (eW b k).toNat):=by
    unfold cX;dsimp only;rw [hb2]
    show some (((bL b k).take (bL b k).length).drop (eE (bL b k).length (eW b k)))=_
    rw [hcl,List.take_length]
   have s1:dT (.str ⟨(bL b k).toArray⟩) .none (.int (eW b k)) .none m2=.ok (.str ⟨((bL b k).take (eW b k).toNat).toArray⟩) m2:=by
    show (if (bL b k).length <= lid then ofO ((cX (bL b k) .none (.int (eW b k)) .none).map fun l=>V.str ⟨l.toArray⟩) m2 else .bad)=_
    rw [if_pos hlid,sl1];rfl
   have s2:dT (.str ⟨(bL b k).toArray⟩) (.int (eW b k)) .none .none m2=.ok (.str ⟨((bL b k).drop (eW b k).toNat).toArray⟩) m2:=by
    show (if (bL b k).length <= lid then ofO ((cX (bL b k) (.int (eW b k)) .none .none).map fun l=>V.str ⟨l.toArray⟩) m2 else .bad)=_
    rw [if_pos hlid,sl2];rfl
   have e4:aQ9 (.str (Str.ofString "kqxz")) (.int (k % 4)) m2=.ok (.str ⟨#[kqx k]⟩) m2:=by
    have:at_ kq (k % 4)=some (kqx k):=by
     unfold at_ kqx;rw [if_pos (md0 (by decide)),List.getElem?_eq_getElem h4];rfl
    show (if (k % 4).natAbs < 2 ^ 60 then ofO ((at_ kq (k % 4)).map fun c=>V.str ⟨#[c]⟩) m2 else .bad)=_
    rw [if_pos (md60 (by decide) (by decide)),this];rfl
   have er:row b k=⟨((bL b k).take (eW b k).toNat).toArray⟩++⟨#[kqx k]⟩++⟨((bL b k).drop (eW b k).toNat).toArray⟩:=by
    have e1:((⟨((bL b k).take (eW b k).toNat).toArray⟩:Str)++⟨#[kqx k]⟩)=⟨((bL b k).take (eW b k).toNat++[kqx k]).toArray⟩:=aF5 _ [_]
    rw [e1,aF5]
    unfold row bK1;rw [if_neg h9']
   have adds:∀ x y:Str,x.length+y.length <= lid->bK4 .Add (.str x) (.str y) m2=.ok (.str (x++y)) m2:=fun x y h=>if_pos h
   rw [er]
   refine bG (aE (aZ (aZ (bQ0 rfl rfl rfl rfl s1) (eF rfl (aZ rfl rfl rfl) e4) (adds _ _ ?_)) (bQ0 rfl rfl rfl rfl s2) (adds _ _ ?_)) ⟨rfl,l2⟩)
   ·show (List.toArray _).size+1 <= lid
    rw [List.size_toArray];exact bM (Nat.succ_le_succ l1) (by decide)
   ·have:((⟨((bL b k).take (eW b k).toNat).toArray⟩:Str)++⟨#[kqx k]⟩).length <= 8:=by
     refine Nat.le_trans (Nat.le_of_eq (congrArg Str.length (aF5 _ [_]))) ?_
     show (List.toArray _).size <= 8
     rw [List.size_toArray,List.length_append,List.length_singleton];exact Nat.succ_le_succ l1
    show Str.length _+(List.toArray _).size <= lid
    rw [List.size_toArray];exact bM (Nat.add_le_add this l2') (by decide)
 refine bY (t:=b % 2 == 0) (bD (aX (aZ rfl rfl rfl) rfl rfl)) ?_
 cases h2:b % 2 == 0 with
 | true=>
  have h2':b % 2=0:=eq_of_beq h2
  refine aW (aE (a:=.int (b / 4 % (size b k+1))) (m':=m2) (aZ (aZ rfl rfl rfl) rfl (dM (aN9 b k))) (fin _ ?_))
  unfold eW;rw [if_pos h2']
 | false=>
  have h2':¬ b % 2=0:=fun q=>by rw [q] at h2;exact absurd h2 (by decide)
  refine fin _ ?_
  unfold eW;rw [if_neg h2']
end Mini
namespace Mini
open PySem
noncomputable def cK:Str:=Str.ofString "say"
noncomputable def dX:Str:=Str.ofString "mark"
structure Th (m:MH) (v:V):Prop where
 pl:Pl m v
 sub:∀ xs,v=.tup xs->∀ x∈xs,Pl m x
section
variable {S:Sig} {m:MH}
noncomputable def aE6:List CS:=[.ret (.bin .Mod (.var 1) (.var 0))]
theorem bV6 {k:Nat} (h:cM S k 2 2 aE6) (n:Nat) (c i:Int) (hc:0 < c):run S (n+1) k [.int c,.int i] m=.ok (.int (i % c)) m:=
 fF (bN h rfl (bG (aE (aZ rfl rfl (dM hc)) ⟨rfl,rfl⟩)))
noncomputable def look1:CB:=.all false [.not (.val (.isi (.var 1) .tuple)),.val (.cmp (.bi .len [.var 1]) [.NotEq] [.cnst (.int 4)]),.not (.val (.isi (.idx (.var 1) (.cnst (.int 0))) .str))]
noncomputable def aI7 (kN kW kR kC gM:Nat):List CS:=[
 .exp (.call kN [.var 0]),
 .ite look1 [.ret (.cnst (.bool false))] [],
 .ite (.all false [.not (.val (.call kW [.idx (.var 1) (.cnst (.int 1))])),.not (.val (.cmp (.cnst (.int 0)) [.LtE,.LtE] [.idx (.var 1) (.cnst (.int 1)),.glob gM])),.not (.val (.call kR [.idx (.var 1) (.cnst (.int 2))]))]) [.ret (.cnst (.bool false))] [],
 .ite (.all false [.not (.val (.call kW [.idx (.var 1) (.cnst (.int 3))])),.not (.val (.cmp (.cnst (.int 0)) [.LtE,.Lt] [.idx (.var 1) (.cnst (.int 3)),.var 0]))]) [.ret (.cnst (.bool false))] [],
 .ite (.val (.cmp (.idx (.var 1) (.cnst (.int 0))) [.Eq] [.cnst (.str (Str.ofString "say"))])) [
  .ret (.cmp (.idx (.var 1) (.cnst (.int 3))) [.Eq] [.call kC [.var 0,.idx (.var 1) (.cnst (.int 1))]])] [],
 .ret (.cmp (.idx (.var 1) (.cnst (.int 0))) [.Eq] [.cnst (.str (Str.ofString "mark"))])]
theorem cB7 {c i h:Int} (hc:0 < c) (h0:0 <= h) (h1:h < c):(h == i % c)=((i - h) % c == 0):=by
 rw [Bool.eq_iff_iff,beq_iff_eq,beq_iff_eq]
 constructor
 ·rintro rfl
  rw [<- Int.emod_emod_of_dvd _ (Int.dvd_refl c)]
  have:=Int.emod_emod_of_dvd i (Int.dvd_refl c)
  rw [Int.sub_emod,this,Int.sub_self,Int.zero_emod];rfl
 ·intro q
  have e:=Int.emod_add_mul_ediv (i - h) c
  have e2:i=h+c * ((i - h) / c):=by lia
  rw [e2,Int.add_mul_emod_self_left,Int.emod_eq_of_lt h0 h1]
end
end Mini
namespace Mini
open PySem
section
variable {S:Sig} {m:MH}
theorem b8 {k:Nat} (h:cM S k 1 1 aC9) (n:Nat) (i:Int):run S (n+1) k [.int i] m=.ok (.bool true) m:=
 fF (bN h rfl (bG (aC rfl ⟨rfl,rfl⟩)))
theorem aB1 {k kW gM c:Nat} {gn:Str} (h:cM S k 1 1 (bG3 kW gM c)) (hW:cM S kW 1 1 aC9) (hM:S.globs[gM]?=some (gn,.int 12)) (n:Nat) {i:Int} (h1:1 <= i) (h2:i <= 12):run S (n+2) k [.int i] m=.ok .none m:=by
 have e:=eO (bD (bC8 (S:=S) (F:=run S (n+1)) (r:=[some (.int i)]) (m:=m) (a:=.cnst (.int 1)) (b:=.var 0) (o:=.LtE) (o':=.LtE) (t:=decide (1 <= i)) (u:=decide (i <= 12)) rfl rfl (bC7 hM) rfl rfl))
 rw [decide_eq_true h1,decide_eq_true h2] at e
 exact fF (bN h rfl (bY (t:=false) (aA8 (bT (x:=false) (eO (bD (bO rfl (b8 hW n i)))) (bT (x:=false) e fN))) (cU ⟨rfl,rfl⟩)))
theorem bC6 {k gL gM:Nat} {n1 n2:Str} (h:cM S k 1 2 (aE5 gL gM)) (hL:S.globs[gL]?=some (n1,.str letterS)) (hM:S.globs[gM]?=some (n2,.int 8)) (n:Nat) {s:Str} (hr:bP7 (.str s)=true):run S (n+1) k [.str s] m=.ok (.bool true) m:=by
 have hr:(cW3 s&&s.cps.toList.all okC)=true:=hr
 rcases Bool.and_eq_true_iff.mp hr with ⟨h1,h2⟩
 have h8:s.length <= lid:=by
  have:=of_decide_eq_true (Bool.and_eq_true_iff.mp h1).2
  exact Nat.le_trans (Int.ofNat_le.mp this) (by decide)
 have e:=eO (bD (bC8 (S:=S) (F:=run S n) (r:=[some (.str s),Option.none]) (m:=m) (a:=.cnst (.int 1)) (b:=.bi .len [.var 0]) (o:=.LtE) (o':=.LtE) (t:=decide ((1:Int) <= (s.length:Int))) (u:=decide ((s.length:Int) <= 8)) rfl (dA2 rfl h8) (bC7 hM) rfl rfl))
 rw [show (decide ((1:Int) <= (s.length:Int))&&decide ((s.length:Int) <= 8))=true from h1] at e
 refine fF (bN h rfl (bY (t:=false) (aA8 (bT (x:=false) rfl (bT (x:=false) e fN))) ?_))
 refine aL2 s.cps.toList ch (fun zs r m'=>m'=m /\ (∃ u,r=[some (.str s),u]) /\ zs.all okC=true) (aC rfl (aC rfl ⟨rfl,⟨rfl,⟨_,rfl⟩,h2⟩,fun y_ y_ y_ y_=>rfl,?_,?_⟩))
 ·rintro c zs r m' ⟨rfl,⟨u,rfl⟩,e⟩
  rcases Bool.and_eq_true_iff.mp e with ⟨q1,q2⟩
  refine aC rfl (bY (t:=!okC c) (bD (aX rfl (bC7 hL) rfl)) ?_)
  rw [q1]
  exact cU ⟨rfl,⟨_,rfl⟩,q2⟩
 ·intro r m' q
  exact bG (aC rfl ⟨rfl,q.1⟩)
theorem bQ1 {F:Fns} {r:Lo} {a c:CE} {x y:Int} (ha:ev S F a r m=.ok (.int x) m) (hc:ev S F c r m=.ok (.int y) m) (h0:0 <= x) (h1:x < y):evT S F (.not (.val (.cmp (.cnst (Lt.int 0)) [.LtE,.Lt] [a,c]))) r m=.ok false m:=by
 have:=eO (bD (bC8 (S:=S) (F:=F) (r:=r) (m:=m) (a:=.cnst (Lt.int 0)) (o:=.LtE) (o':=.Lt) (t:=decide (0 <= x)) (u:=decide (x < y)) rfl ha hc rfl rfl))
 rw [decide_eq_true h0,decide_eq_true h1] at this
 exact this
theorem bK9 {k kN kW kR kC gN gM gL gS cB:Nat} {n1 n2 n3 n4:Str} (h:cM S k 2 2 (aI7 kN kW kR kC gM)) (hN:cM S kN 1 1 (bG3 kW gN cB)) (hW:cM S kW 1 1 aC9) (hR:cM S kR 1 2 (aE5 gL gS)) (hC:cM S kC 2 2 aE6)
  (gn:S.globs[gN]?=some (n1,.int 12)) (gm:S.globs[gM]?=some (n2,.int 9999)) (gl:S.globs[gL]?=some (n3,.str letterS)) (gs:S.globs[gS]?=some (n4,.int 8)) (n:Nat) {c i y:Int} {s r:Str} (h1:1 <= c) (h2:c <= 12)
  (hk:s=cK \/ s=dX) (i0:0 <= i) (i1:i <= 9999) (hr:bP7 (.str r)=true) (y0:0 <= y) (y1:y < c) (hc:s=cK->(i - y) % c=0):run S (n+3) k [.int c,.tup [.str s,.int i,.str r,.int y]] m=.ok (.bool true) m:=by
 have e:=eO (bD (bC8 (S:=S) (F:=run S (n+2)) (r:=[some (.int c),some (.tup [.str s,.int i,.str r,.int y])]) (m:=m) (a:=.cnst (.int 0)) (b:=.idx (.var 1) (.cnst (.int 1))) (o:=.LtE) (o':=.LtE) (t:=decide (0 <= i)) (u:=decide (i <= 9999)) rfl rfl (bC7 gm) rfl rfl))
 rw [decide_eq_true i0,decide_eq_true i1] at e
 refine fF (bN h rfl (fD (aE (bO rfl (aB1 hN hW gn n h1 h2)) (bY (t:=false) (aA8 (bT (x:=false) rfl (bT (x:=false) rfl (bT (x:=false) rfl fN))))
  (bY (t:=false) (aA8 (bT (x:=false) (eO (bD (bO rfl (b8 hW _ i)))) (bT (x:=false) e (bT (x:=false) (eO (bD (bO rfl (bC6 hR gl gs _ hr)))) fN))))
  (bY (t:=false) (aA8 (bT (x:=false) (eO (bD (bO rfl (b8 hW _ y)))) (bT (x:=false) (bQ1 rfl rfl y0 y1) fN)))
  (bY (t:=s == cK) (bD (aX rfl rfl rfl)) ?_)))))))
 rcases hk with rfl | rfl
 ·refine bG (aE (aX (t:=y == i % c) rfl (fO rfl (bV6 hC _ c i (Int.lt_of_lt_of_le (by decide) h1))) rfl) ⟨?_,rfl⟩)
  rw [cB7 (Int.lt_of_lt_of_le (by decide) h1) y0 y1,hc rfl];rfl
 ·rw [show (dX == cK)=false by decide +kernel]
  exact bG (aE (aX (t:=dX == dX) rfl rfl rfl) ⟨by rw [beq_self_eq_true],rfl⟩)
end
end Mini
namespace Mini
open PySem
noncomputable def Mod (T:List Nat) (m m':MH):Prop:=m.length <= m'.length /\ ∀ p,p < m.length->p∉T->m'[p]?=m[p]?
theorem Mod.refl (T:List Nat) (m:MH):Mod T m m:=⟨Nat.le_refl _,fun y_ y_ y_=>rfl⟩
theorem Mod.trans {T:List Nat} {a b c:MH} (h:Mod T a b) (k:Mod T b c):Mod T a c:=⟨Nat.le_trans h.1 k.1,fun p q z=>(k.2 p (Nat.lt_of_lt_of_le q h.1) z).trans (h.2 p q z)⟩
theorem Le.mod {T:List Nat} {a b:MH} (h:Le a b):Mod T a b:=⟨h.1,fun p q y_=>h.2 p q⟩
theorem Mod.has {T:List Nat} {m m':MH} (h:Mod T m m') {p:Nat} {o:MObj} (k:m[p]?=some o) (z:p∉T):m'[p]?=some o:=by
 rw [h.2 p (aS k) z,k]
theorem Mod.set {T:List Nat} {m:MH} {p:Nat} {o:MObj} (h:p∈T):Mod T m (m.set p o):=
 ⟨by rw [List.length_set];exact Nat.le_refl _,fun q y_ z=>by rw [List.getElem?_set_ne];rintro rfl;exact z h⟩
section
variable {S:Sig} {F:Fns} {r:Lo} {m:MH} {E:Nat->MH->Prop}
theorem cV5 {p c k:Nat} {fs:List (Nat×V)} {v:V} (h:m[p]?=some (.inst c fs)) (hv:aJ6 k fs=some v):aB7 (.ref p) k m=.ok v m:=by
 unfold aB7;dsimp only;rw [h];dsimp only;rw [hv];rfl
theorem aO {a:CE} {p c k:Nat} {fs:List (Nat×V)} {v:V} (ha:ev S F a r m=.ok (.ref p) m) (h:m[p]?=some (.inst c fs)) (hv:aJ6 k fs=some v):ev S F (.attr a k) r m=.ok v m:=by
 show Res.bind (ev S F a r m) _=_
 rw [ha];exact cV5 h hv
theorem cG {o:CE} {k:Nat} {as:List CE} {Q:V->MH->Prop} (h:Wp (ev S F o r) m (fun x m'=>∃ p c fs d j,x=.ref p /\ m'[p]?=some (.inst c fs) /\ S.cls[c]?=some d /\ aJ6 k fs=none /\ d.meths.lookup k=some j /\ Wp (evs S F as r) m' (fun vs m''=>Wp (F j (.ref p::vs)) m'' Q E) E) E):Wp (ev S F (.meth o k as) r) m Q E:=by
 refine aI (x:=ev S F o r) (wp_mono h (fun x m' q=>?_) fun y_ y_ q=>q)
 rcases q with ⟨p,c,fs,d,j,rfl,h1,h2,h3,h4,q⟩
 have em:fE S k (.ref p) m'=.ok j m':=by unfold fE;dsimp only;rw [h1];dsimp only;rw [h2];dsimp only;rw [h3];dsimp only;rw [h4];rfl
 exact aI (aE em (aI (x:=evs S F as r) q))
theorem bQ5 {c:Nat} {as:List CE} {Q:V->MH->Prop} (h:Wp (evs S F as r) m (fun vs m'=>∃ d k,S.cls[c]?=some d /\ d.exc=false /\ d.init=some k /\ Wp (F k (.ref m'.length::vs)) (m'++[.inst c []]) (fun u m''=>u=.none /\ Q (.ref m'.length) m'') E) E):Wp (ev S F (.new c as) r) m Q E:=by
 refine aI (x:=evs S F as r) (wp_mono h (fun vs m' q=>?_) fun y_ y_ q=>q)
 rcases q with ⟨d,k,h1,h2,h3,q⟩
 unfold cQ7
 rw [h1];dsimp only;rw [h2,h3]
 show Wp (bnd (alloc (.inst c [])) fun x=>bnd (F k (x::vs)) (dB2 x)) m' Q E
 refine aI (aE (a:=.ref m'.length) (m':=m'++[.inst c []]) rfl (aI (x:=F k (.ref m'.length::vs)) (wp_mono q (fun u m'' z=>?_) fun y_ y_ z=>z)))
 rcases z with ⟨rfl,z⟩
 exact z
variable {Q:Fl×Lo->MH->Prop} {ss:List CS}
theorem aA6 {o e:CE} {k:Nat} (h:Wp (ev S F e r) m (fun v m'=>Wp (ev S F o r) m' (fun x m''=>∃ p c fs,x=.ref p /\ m''[p]?=some (.inst c fs) /\ Wp (exs S F ss r) (m''.set p (.inst c (eH k v fs))) Q E) E) E):Wp (exs S F (.asg (.attr o k) e::ss) r) m Q E:=by
 refine aA5 (aI (x:=ev S F e r) (wp_mono h (fun v m' q=>aI (aI (x:=ev S F o r) (wp_mono q (fun x m'' q=>?_) fun y_ y_ q=>q))) fun y_ y_ q=>q))
 rcases q with ⟨p,c,fs,rfl,h1,q⟩
 refine aI (aE (a:=()) (m':=m''.set p (.inst c (eH k v fs))) (by unfold dO;dsimp only;rw [h1]) q)
theorem eC {o i e:CE} (h:Wp (ev S F e r) m (fun v m1=>Wp (ev S F o r) m1 (fun x m2=>Wp (ev S F i r) m2 (fun y m3=>Wp (dJ x y v) m3 (fun y_ m4=>Wp (exs S F ss r) m4 Q E) E) E) E) E):Wp (exs S F (.asg (.idx o i) e::ss) r) m Q E:=by
 refine aA5 (aI (x:=ev S F e r) (wp_mono h (fun v m' q=>aI (aI (x:=ev S F o r) (wp_mono q (fun x m'' q=>aI (x:=ev S F i r) (wp_mono q (fun y m3 q=>aI (x:=dJ x y v) (wp_mono q (fun y_ m4 q=>q) fun y_ y_ q=>q)) fun y_ y_ q=>q)) fun y_ y_ q=>q))) fun y_ y_ q=>q))
theorem eB {p e:Nat} {y:V} {k:Ky} {kvs:List (Ky×V)} {v:V} {Q:Unit->MH->Prop} (h:m[p]?=some (.dict kvs e)) (hk:dN y=some k) (hs:aJ k kvs=true) (hl:kvs.length < lid) (q:Q () (m.set p (.dict (put k v kvs) (e+1)))):Wp (dJ (.ref p) y v) m Q E:=by
 refine aE (a:=()) (m':=m.set p (.dict (put k v kvs) (e+1))) ?_ q
 unfold dJ;dsimp only;rw [h];dsimp only;rw [hk];dsimp only;rw [hs,decide_eq_true hl];rfl
theorem cX2 {p e:Nat} {j:Int} {kvs:List (Ky×V)} {v:V} {Q:V->MH->Prop} (h:m[p]?=some (.dict kvs e)) (hs:aJ (.int j) kvs=true) (hl:bP (.int j) kvs=some v) (q:Q v (m.set p (.dict (eX (.int j) kvs) (e+1)))):Wp (dH 1 (.ref p) .pop [.int j]) m Q E:=by
 refine aE (m':=m.set p (.dict (eX (.int j) kvs) (e+1))) ?_ q
 show (match m[p]? with | some (.dict kvs e)=>aI3 p kvs e .pop [.int j] m | _=>.bad)=_
 rw [h]
 show (if aJ (.int j) kvs=true then (match bP (.int j) kvs with | some v=>Res.ok v (m.set p (.dict (eX (.int j) kvs) (e+1))) | Option.none=>.bad) else .bad)=_
 rw [if_pos hs,hl]
theorem aN0 {p:Nat} {xs:List V} {v:V} {Q:V->MH->Prop} (h:m[p]?=some (.list xs)) (hl:xs.length < lid) (q:Q .none (m.set p (.list (xs++[v])))):Wp (dH 0 (.ref p) .append [v]) m Q E:=by
 refine aE (m':=m.set p (.list (xs++[v]))) ?_ q
 show (match m[p]? with | some (.list xs)=>bS0 p xs .append [v] m | _=>.bad)=_
 rw [h]
 show (if xs.length < lid then Res.ok V.none (m.set p (.list (xs++[v]))) else .bad)=_
 rw [if_pos hl]
theorem cZ4 {p e:Nat} {kvs:List (Ky×V)} (h:m[p]?=some (.dict kvs e)):smK (.ref p) m=some 1:=by unfold smK;dsimp only;rw [h]
theorem bA {p e:Nat} {x:V} {k:Ky} {kvs:List (Ky×V)} (h:m[p]?=some (.dict kvs e)) (hk:dN x=some k) (hs:aJ k kvs=true):inV x (.ref p) m=.ok (bP k kvs).isSome m:=by
 unfold inV;dsimp only;rw [h];dsimp only;rw [hk];dsimp only;rw [if_pos hs]
theorem d7 {p e:Nat} {x v:V} {k:Ky} {kvs:List (Ky×V)} (h:m[p]?=some (.dict kvs e)) (hk:dN x=some k) (hs:aJ k kvs=true) (hl:bP k kvs=some v):aQ9 (.ref p) x m=.ok v m:=by
 unfold aQ9;dsimp only;rw [h];dsimp only;rw [hk];dsimp only;rw [if_pos hs,hl];rfl
end
end Mini
namespace Mini
open PySem
structure Wo where
 k:Str
 n:Int
 r:Str
 h:Int
 deriving DecidableEq
noncomputable def Wo.v (w:Wo):V:=.tup [.str w.k,.int w.n,.str w.r,.int w.h]
noncomputable def Wo.ky (w:Wo):Ky:=.tup [.inr w.k,.inl w.n,.inr w.r,.inl w.h]
theorem cX1 {a b:Wo} (h:a.ky=b.ky):a=b:=by
 rcases a with ⟨a1,a2,a3,a4⟩
 rcases b with ⟨b1,b2,b3,b4⟩
 cases h;rfl
noncomputable def mrk (n:Int) (r:Str) (h:Int):Wo:=⟨dX,n,r,h⟩
noncomputable def aT (a b:Wo):Bool:=a.h == b.h&&a.k == b.k&&a.n == b.n&&a.r != b.r
noncomputable def kD (l:List Wo):List (Ky×V):=l.map fun w=>(w.ky,.bool true)
noncomputable def iD (l:List Int):List (Ky×V):=l.map fun i=>(.int i,.bool true)
noncomputable def aK4 (w:Wo) (l:List Wo):List Wo:=if w∈l then l else l++[w]
theorem dB (l:List Wo) (w:Wo):aJ w.ky (kD l)=true:=by
 unfold aJ kD
 rw [List.all_map,List.all_eq_true]
 intro _ _;rfl
theorem eN (l:List Int) (k:Int):aJ (.int k) (iD l)=true:=by
 unfold aJ iD
 rw [List.all_map,List.all_eq_true]
 intro _ _;rfl
theorem aP0 (w:Wo):∀ l:List Wo,(bP w.ky (kD l)).isSome=decide (w∈l)
 | []=>by simp [kD,bP]
 | a::l=>by
  show (if a.ky=w.ky then some (V.bool true) else bP w.ky (kD l)).isSome=_
  by_cases z:a=w
  ·subst z;rw [if_pos rfl];simp
  ·rw [if_neg fun c=>z (cX1 c),aP0 w l]
   have:w≠a:=fun c=>z c.symm
   simp [this]
theorem aR9 (w:Wo):∀ l:List Wo,put w.ky (.bool true) (kD l)=kD (aK4 w l)
 | []=>by simp [kD,put,aK4]
 | a::l=>by
  show (if a.ky=w.ky then (a.ky,V.bool true)::kD l else (a.ky,V.bool true)::put w.ky (.bool true) (kD l))=_
  by_cases z:a=w
  ·subst z;rw [if_pos rfl];simp [aK4,kD]
  ·rw [if_neg fun c=>z (cX1 c),aR9 w l]
   have:w≠a:=fun c=>z c.symm
   unfold aK4
   by_cases y:w∈l
   ·rw [if_pos y,if_pos (.tail _ y)];rfl
   ·rw [if_neg y,if_neg (by simp [this,y])];rfl
theorem bS6 {a b:Int} (h:Ky.int a=Ky.int b):a=b:=dC0 h
noncomputable def tD {α:Type} (g:α->Int) (f:α->V) (l:List α):List (Ky×V):=l.map fun x=>(.int (g x),f x)
theorem bB {α:Type} (g:α->Int) (f:α->V) (l:List α) (k:Int):aJ (.int k) (tD g f l)=true:=by
 unfold aJ tD
 rw [List.all_map,List.all_eq_true]
 intro _ _;rfl
theorem eS {α:Type} (g:α->Int) (f:α->V) (k:Int):∀ l:List α,bP (.int k) (tD g f l)=(l.find? fun x=>g x == k).map f
 | []=>rfl
 | a::l=>by
  show (if Ky.int (g a)=Ky.int k then some (f a) else bP (.int k) (tD g f l))=_
  by_cases z:g a=k
  ·rw [if_pos (by rw [z]),List.find?_cons_of_pos (by simp [z])];rfl
  ·rw [if_neg fun c=>z (bS6 c),List.find?_cons_of_neg (by simp [z]),eS g f k l]
theorem eU {α:Type} (g:α->Int) (f:α->V) (k:Int) (l:List α):(bP (.int k) (tD g f l)).isSome=l.any fun x=>g x == k:=by
 rw [eS,Option.isSome_map]
 induction l with
 | nil=>rfl
 | cons a l ih=>
  rw [List.any_cons]
  by_cases z:(g a == k)=true
  ·rw [List.find?_cons_of_pos (p:=fun x=>g x == k) z,z];rfl
  ·rw [List.find?_cons_of_neg (p:=fun x=>g x == k) z,ih];simp [z]
theorem aA9 {α:Type} (g:α->Int) (f:α->V) (k:Int) (v:V):∀ l:List α,(l.any fun x=>g x == k)=false->put (.int k) v (tD g f l)=tD g f l++[(.int k,v)]
 | [],_=>rfl
 | a::l,h=>by
  rw [List.any_cons,Bool.or_eq_false_iff] at h
  show (if Ky.int (g a)=Ky.int k then _ else (Ky.int (g a),f a)::put (.int k) v (tD g f l))=_
  rw [if_neg fun c=>by rw [bS6 c] at h;simp at h,aA9 g f k v l h.2];rfl
theorem cD6 (l:List Int):iD l=tD id (fun y_=>.bool true) l:=rfl
structure Hs where
 cnt:Int
 own:Int
 onw:Int
 known:List Wo
 marked:List Int
 rows:List (Int×Str×List Wo)
 named:List (Int×Wo×Wo)
noncomputable def bC (c:Int):Int:=(c+(c - 1) / 3) / 2+1
noncomputable def Hs.marking (s:Hs) (w:Wo):Hs×List Wo:=
 if w.k≠cK \/ w.n∈s.marked then (s,[]) else ({ s with marked:=s.marked++[w.n],known:=aK4 (mrk w.n w.r s.own) s.known },[mrk w.n w.r s.own])
noncomputable def Hs.marks (s:Hs) (n:Int) (r:Str):List Wo:=((List.range s.cnt.toNat).map fun (j:Nat)=>mrk n r j).filter fun w=>decide (w∈s.known)
noncomputable def Hs.wrote (s:Hs) (n:Int):Bool:=s.rows.any fun x=>x.1 == n
noncomputable def Hs.writing (s:Hs) (n:Int) (r:Str):Hs×List Wo:=
 if ((s.marks n r).length:Int) < bC s.cnt \/ s.wrote n=true then (s,[]) else ({ s with rows:=s.rows++[(n,r,s.marks n r)] },s.marks n r)
noncomputable def Hs.naming (s:Hs) (w:Wo) (ahead:List Wo):Hs×List Wo:=match ahead with
 | []=>(s,[])
 | a::_=>if (s.named.any fun x=>x.1 == w.h)=true then (s,[]) else ({ s with named:=s.named++[(w.h,a,w)] },[a,w])
noncomputable def Hs.hear (s:Hs) (w:Wo):Hs×List Wo:=
 if w∈s.known then (s,[]) else
  let ahead:=s.known.filter fun a=>aT a w
  let a:=({ s with known:=s.known++[w] }:Hs).marking w
  let b:=a.1.writing w.n w.r
  let c:=b.1.naming w ahead
  (c.1,a.2++b.2++c.2)
noncomputable def Hs.call (s:Hs) (r:Str):Hs×List Wo:=
 let w:Wo:=⟨cK,s.onw,r,s.own⟩
 let a:=({ s with onw:=s.onw+s.cnt }:Hs).hear w
 (a.1,w::a.2)
structure Hd where
 p:Nat
 a:Nat
 b:Nat
 c:Nat
 d:Nat
 e:Nat
 f:Nat
 bs:List Nat
noncomputable def Hd.foot (D:Hd):List Nat:=[D.p,D.a,D.b,D.c,D.d,D.e,D.f]
noncomputable def Hd.all (D:Hd):List Nat:=D.foot++D.bs
noncomputable def aL3 (l:List (Int×Str×List Wo)):List (Ky×V):=tD (·.1) (fun x=>V.str x.2.1) l
noncomputable def bK5 (l:List (Int×Nat)):List (Ky×V):=tD (·.1) (fun x=>V.ref x.2) l
noncomputable def bak (s:Hs) (D:Hd):List (Int×Nat):=(s.rows.map (·.1)).zip D.bs
noncomputable def bI5 (l:List (Int×Wo×Wo)):List V:=l.map fun x=>.tup [.int x.1,x.2.1.v,x.2.2.v]
noncomputable def bB2 (l:List (Int×Wo×Wo)):List (Ky×V):=tD (·.1) (fun y_=>V.bool true) l
noncomputable def cW4 (D:Hd) (s:Hs):List (Nat×V):=[(8,.int s.cnt),(9,.int s.own),(10,.int s.onw),(11,.ref D.a),(12,.ref D.b),(13,.ref D.c),(14,.ref D.d),(15,.ref D.e),(16,.ref D.f)]
structure Ho (m:MH) (C:Nat) (D:Hd) (s:Hs):Prop where
 inst:m[D.p]?=some (.inst C (cW4 D s))
 kn:∃ e,m[D.a]?=some (.dict (kD s.known) e)
 mr:∃ e,m[D.b]?=some (.dict (iD s.marked) e)
 ro:∃ e,m[D.c]?=some (.dict (aL3 s.rows) e)
 ba:∃ e,m[D.d]?=some (.dict (bK5 (bak s D)) e)
 na:m[D.e]?=some (.list (bI5 s.named))
 bl:∃ e,m[D.f]?=some (.dict (bB2 s.named) e)
 bk:∀ (i:Nat) (x:Int×Str×List Wo),s.rows[i]?=some x->∃ q,D.bs[i]?=some q /\ m[q]?=some (.list (x.2.2.map Wo.v))
 len:D.bs.length=s.rows.length
 nd:D.all.Nodup
theorem Ho.mod {T:List Nat} {m m':MH} {C:Nat} {D:Hd} {s:Hs} (h:Ho m C D s) (l:Mod T m m') (ht:∀ x∈D.all,x∉T):Ho m' C D s:=by
 have F:∀ x∈D.foot,x∉T:=fun x hx=>ht x (List.mem_append_left _ hx)
 refine ⟨l.has h.inst (F _ (by simp [Hd.foot])),?_,?_,?_,?_,l.has h.na (F _ (by simp [Hd.foot])),?_,fun i x e=>?_,h.len,h.nd⟩
 ·rcases h.kn with ⟨e,k⟩;exact ⟨e,l.has k (F _ (by simp [Hd.foot]))⟩
 ·rcases h.mr with ⟨e,k⟩;exact ⟨e,l.has k (F _ (by simp [Hd.foot]))⟩
 ·rcases h.ro with ⟨e,k⟩;exact ⟨e,l.has k (F _ (by simp [Hd.foot]))⟩
 ·rcases h.ba with ⟨e,k⟩;exact ⟨e,l.has k (F _ (by simp [Hd.foot]))⟩
 ·rcases h.bl with ⟨e,k⟩;exact ⟨e,l.has k (F _ (by simp [Hd.foot]))⟩
 ·rcases h.bk i x e with ⟨q,k1,k2⟩
  exact ⟨q,k1,l.has k2 (ht _ (List.mem_append_right _ (List.mem_of_getElem? k1)))⟩
theorem Ho.le {m m':MH} {C:Nat} {D:Hd} {s:Hs} (h:Ho m C D s) (l:Le m m'):Ho m' C D s:=h.mod (T:=[]) l.mod fun y_ y_ q=>nomatch q
theorem Ho.lt {m:MH} {C:Nat} {D:Hd} {s:Hs} (h:Ho m C D s):∀ x∈D.all,x < m.length:=by
 intro x hx
 rcases h.kn with ⟨y_,k1⟩
 rcases h.mr with ⟨y_,k2⟩
 rcases h.ro with ⟨y_,k3⟩
 rcases h.ba with ⟨y_,k4⟩
 rcases h.bl with ⟨y_,k5⟩
 rcases List.mem_append.mp hx with hx | hx
 ·simp only [Hd.foot,List.mem_cons,List.not_mem_nil,or_false] at hx
  rcases hx with rfl | rfl | rfl | rfl | rfl | rfl | rfl
  ·exact aS h.inst
  ·exact aS k1
  ·exact aS k2
  ·exact aS k3
  ·exact aS k4
  ·exact aS h.na
  ·exact aS k5
 ·rcases List.getElem?_of_mem hx with ⟨i,hi⟩
  have:i < s.rows.length:=by rw [<- h.len];exact (List.getElem?_eq_some_iff.mp hi).1
  rcases h.bk i _ (List.getElem?_eq_getElem this) with ⟨q,e1,e2⟩
  rw [hi] at e1;cases e1;exact aS e2
end Mini
namespace Mini
open PySem
theorem cB6 {l:List Nat} (nd:l.Nodup) {i j x y:Nat} (hi:l[i]?=some x) (hj:l[j]?=some y) (hij:i≠j):x≠y:=by
 rcases List.getElem?_eq_some_iff.mp hi with ⟨h1,rfl⟩
 rcases List.getElem?_eq_some_iff.mp hj with ⟨h2,rfl⟩
 have P:=List.pairwise_iff_getElem.mp nd
 rcases Nat.lt_or_gt_of_ne hij with z | z
 ·exact P i j h1 h2 z
 ·exact fun e=>P j i h2 h1 z e.symm
theorem n7 {i k:Nat} (h:k < 7):i+7≠k:=fun c=>Nat.not_lt.mpr (Nat.le_add_left 7 i) (c▸h)
theorem Hd.upd {D:Hd} (nd:D.all.Nodup) {m:MH} {o':MObj} {j x:Nat} (hx:D.all[j]?=some x):∀ (i q:Nat) (o:MObj),D.all[i]?=some q->i≠j->m[q]?=some o->(m.set x o')[q]?=some o:=
 fun i q o hq hij k=>aN (cB6 nd hx hq (fun e=>hij e.symm)) k
section
variable {m:MH} {C:Nat} {D:Hd} {s:Hs}
theorem Ho.setP (h:Ho m C D s) (k:Int):Ho (m.set D.p (.inst C (cW4 D { s with onw:=k }))) C D { s with onw:=k }:=by
 have F:=Hd.upd h.nd (m:=m) (o':=.inst C (cW4 D { s with onw:=k })) (j:=0) rfl
 refine ⟨aV h.inst,?_,?_,?_,?_,F 5 _ _ rfl (by decide) h.na,?_,fun i x e=>?_,h.len,h.nd⟩
 ·rcases h.kn with ⟨e,k⟩;exact ⟨e,F 1 _ _ rfl (by decide) k⟩
 ·rcases h.mr with ⟨e,k⟩;exact ⟨e,F 2 _ _ rfl (by decide) k⟩
 ·rcases h.ro with ⟨e,k⟩;exact ⟨e,F 3 _ _ rfl (by decide) k⟩
 ·rcases h.ba with ⟨e,k⟩;exact ⟨e,F 4 _ _ rfl (by decide) k⟩
 ·rcases h.bl with ⟨e,k⟩;exact ⟨e,F 6 _ _ rfl (by decide) k⟩
 ·rcases h.bk i x e with ⟨q,k1,k2⟩;exact ⟨q,k1,F (i+7) _ _ k1 (n7 (by decide)) k2⟩
theorem Ho.setK (h:Ho m C D s) (l:List Wo) (e:Nat):Ho (m.set D.a (.dict (kD l) e)) C D { s with known:=l }:=by
 have F:=Hd.upd h.nd (m:=m) (o':=.dict (kD l) e) (j:=1) rfl
 rcases h.kn with ⟨e0,k0⟩
 refine ⟨F 0 _ _ rfl (by decide) h.inst,⟨e,aV k0⟩,?_,?_,?_,F 5 _ _ rfl (by decide) h.na,?_,fun i x e=>?_,h.len,h.nd⟩
 ·rcases h.mr with ⟨e,k⟩;exact ⟨e,F 2 _ _ rfl (by decide) k⟩
 ·rcases h.ro with ⟨e,k⟩;exact ⟨e,F 3 _ _ rfl (by decide) k⟩
 ·rcases h.ba with ⟨e,k⟩;exact ⟨e,F 4 _ _ rfl (by decide) k⟩
 ·rcases h.bl with ⟨e,k⟩;exact ⟨e,F 6 _ _ rfl (by decide) k⟩
 ·rcases h.bk i x e with ⟨q,k1,k2⟩;exact ⟨q,k1,F (i+7) _ _ k1 (n7 (by decide)) k2⟩
theorem Ho.setM (h:Ho m C D s) (l:List Int) (e:Nat):Ho (m.set D.b (.dict (iD l) e)) C D { s with marked:=l }:=by
 have F:=Hd.upd h.nd (m:=m) (o':=.dict (iD l) e) (j:=2) rfl
 rcases h.mr with ⟨e0,k0⟩
 refine ⟨F 0 _ _ rfl (by decide) h.inst,?_,⟨e,aV k0⟩,?_,?_,F 5 _ _ rfl (by decide) h.na,?_,fun i x e=>?_,h.len,h.nd⟩
 ·rcases h.kn with ⟨e,k⟩;exact ⟨e,F 1 _ _ rfl (by decide) k⟩
 ·rcases h.ro with ⟨e,k⟩;exact ⟨e,F 3 _ _ rfl (by decide) k⟩
 ·rcases h.ba with ⟨e,k⟩;exact ⟨e,F 4 _ _ rfl (by decide) k⟩
 ·rcases h.bl with ⟨e,k⟩;exact ⟨e,F 6 _ _ rfl (by decide) k⟩
 ·rcases h.bk i x e with ⟨q,k1,k2⟩;exact ⟨q,k1,F (i+7) _ _ k1 (n7 (by decide)) k2⟩
theorem Ho.setR (h:Ho m C D s) {n:Int} {r:Str} {ws:List Wo} {q e1 e2:Nat} (hq:m[q]?=some (.list (ws.map Wo.v))) (hn:q∉D.all) :
  Ho ((m.set D.c (.dict (aL3 (s.rows++[(n,r,ws)])) e1)).set D.d (.dict (bK5 (bak s D++[(n,q)])) e2)) C { D with bs:=D.bs++[q] } { s with rows:=s.rows++[(n,r,ws)] }:=by
 have F1:=Hd.upd h.nd (m:=m) (o':=.dict (aL3 (s.rows++[(n,r,ws)])) e1) (j:=3) rfl
 have F2:=Hd.upd h.nd (m:=m.set D.c (.dict (aL3 (s.rows++[(n,r,ws)])) e1)) (o':=.dict (bK5 (bak s D++[(n,q)])) e2) (j:=4) rfl
 have F:∀ (i x:Nat) (o:MObj),D.all[i]?=some x->i≠3->i≠4->m[x]?=some o->((m.set D.c (.dict (aL3 (s.rows++[(n,r,ws)])) e1)).set D.d (.dict (bK5 (bak s D++[(n,q)])) e2))[x]?=some o:=fun i x o a b c d=>F2 i x o a c (F1 i x o a b d)
 rcases h.ro with ⟨e3,k3⟩
 rcases h.ba with ⟨e4,k4⟩
 have qc:D.c≠q:=fun e=>hn (e▸List.mem_append_left _ (by simp [Hd.foot]))
 have qd:D.d≠q:=fun e=>hn (e▸List.mem_append_left _ (by simp [Hd.foot]))
 have kc:(m.set D.c (.dict (aL3 (s.rows++[(n,r,ws)])) e1))[D.c]?=some (.dict (aL3 (s.rows++[(n,r,ws)])) e1):=aV k3
 have kd:=F1 4 D.d _ rfl (by decide) k4
 have eb:bak { s with rows:=s.rows++[(n,r,ws)] } { D with bs:=D.bs++[q] }=bak s D++[(n,q)]:=by
  unfold bak
  rw [List.map_append]
  exact List.zip_append (by rw [List.length_map,h.len])
 refine ⟨F 0 _ _ rfl (by decide) (by decide) h.inst,?_,?_,⟨e1,F2 3 _ _ rfl (by decide) kc⟩,⟨e2,?_⟩,F 5 _ _ rfl (by decide) (by decide) h.na,?_,fun i x e=>?_,?_,?_⟩
 ·rcases h.kn with ⟨e,k⟩;exact ⟨e,F 1 _ _ rfl (by decide) (by decide) k⟩
 ·rcases h.mr with ⟨e,k⟩;exact ⟨e,F 2 _ _ rfl (by decide) (by decide) k⟩
 ·rw [eb];exact aV kd
 ·rcases h.bl with ⟨e,k⟩;exact ⟨e,F 6 _ _ rfl (by decide) (by decide) k⟩
 ·rcases Nat.lt_or_ge i s.rows.length with z | z
  ·have e:s.rows[i]?=some x:=by rw [<- e];exact (List.getElem?_append_left z).symm
   rcases h.bk i x e with ⟨y,k1,k2⟩
   exact ⟨y,by rw [<- k1];exact List.getElem?_append_left (by rw [h.len];exact z),F (i+7) _ _ k1 (n7 (by decide)) (n7 (by decide)) k2⟩
  ·have e:(s.rows++[(n,r,ws)])[i]?=some x:=e
   rw [List.getElem?_append_right z] at e
   have hi:i=s.rows.length:=by
    cases w:i - s.rows.length with
    | zero=>lia
    | succ j=>rw [w] at e;cases e
   subst hi
   rw [Nat.sub_self] at e
   cases e
   refine ⟨q,?_,aN qd (aN qc hq)⟩
   show (D.bs++[q])[s.rows.length]?=some q
   rw [<- h.len];simp
 ·show (D.bs++[q]).length=(s.rows++[(n,r,ws)]).length
  rw [List.length_append,List.length_append,h.len];rfl
 ·show (D.foot++(D.bs++[q])).Nodup
  rw [<- List.append_assoc]
  refine List.nodup_append.mpr ⟨h.nd,List.nodup_cons.mpr ⟨List.not_mem_nil,List.nodup_nil⟩,fun a ha b hb=>?_⟩
  rw [List.mem_singleton.mp hb]
  rintro rfl
  exact hn ha
theorem Ho.setN (h:Ho m C D s) {x:Int×Wo×Wo} {e1:Nat}:Ho ((m.set D.f (.dict (bB2 (s.named++[x])) e1)).set D.e (.list (bI5 (s.named++[x])))) C D { s with named:=s.named++[x] }:=by
 have F1:=Hd.upd h.nd (m:=m) (o':=.dict (bB2 (s.named++[x])) e1) (j:=6) rfl
 have F2:=Hd.upd h.nd (m:=m.set D.f (.dict (bB2 (s.named++[x])) e1)) (o':=.list (bI5 (s.named++[x]))) (j:=5) rfl
 have F:∀ (i y:Nat) (o:MObj),D.all[i]?=some y->i≠6->i≠5->m[y]?=some o->((m.set D.f (.dict (bB2 (s.named++[x])) e1)).set D.e (.list (bI5 (s.named++[x]))))[y]?=some o:=fun i x o a b c d=>F2 i x o a c (F1 i x o a b d)
 rcases h.bl with ⟨e3,k3⟩
 have kf:(m.set D.f (.dict (bB2 (s.named++[x])) e1))[D.f]?=some (.dict (bB2 (s.named++[x])) e1):=aV k3
 have ke:=F1 5 D.e _ rfl (by decide) h.na
 refine ⟨F 0 _ _ rfl (by decide) (by decide) h.inst,?_,?_,?_,?_,aV ke,⟨e1,F2 6 _ _ rfl (by decide) kf⟩,fun i x e=>?_,h.len,h.nd⟩
 ·rcases h.kn with ⟨e,k⟩;exact ⟨e,F 1 _ _ rfl (by decide) (by decide) k⟩
 ·rcases h.mr with ⟨e,k⟩;exact ⟨e,F 2 _ _ rfl (by decide) (by decide) k⟩
 ·rcases h.ro with ⟨e,k⟩;exact ⟨e,F 3 _ _ rfl (by decide) (by decide) k⟩
 ·rcases h.ba with ⟨e,k⟩;exact ⟨e,F 4 _ _ rfl (by decide) (by decide) k⟩
 ·rcases h.bk i x e with ⟨q,k1,k2⟩;exact ⟨q,k1,F (i+7) _ _ k1 (n7 (by decide)) (n7 (by decide)) k2⟩
end
end Mini
namespace Mini
open PySem
structure HN where
 C:Nat
 kW:Nat
 kN:Nat
 kM:Nat
 kE:Nat
 kR:Nat
 kU:Nat
 ki:Nat
 cC:Nat
 cH:Nat
 cR:Nat
 cN:Nat
 gM:Nat
 gL:Nat
 gS:Nat
noncomputable def cK8 (kN:Nat):List CS:=[.exp (.call kN [.var 0]),.ret (.bin .FloorDiv (.bin .Sub (.var 0) (.cnst (.int 1))) (.cnst (.int 3)))]
noncomputable def bG7 (kN kM:Nat):List CS:=[.exp (.call kN [.var 0]),.ret (.bin .Add (.bin .FloorDiv (.bin .Add (.var 0) (.call kM [.var 0])) (.cnst (.int 2))) (.cnst (.int 1)))]
noncomputable def bF9:List CS:=[
 (.ret (.boolop true [(.cmp (.idx (.var 0) (.cnst (Lt.int 3))) [.Eq] [(.idx (.var 1) (.cnst (Lt.int 3)))]),(.cmp (.idx (.var 0) (.cnst (Lt.int 0))) [.Eq] [(.idx (.var 1) (.cnst (Lt.int 0)))]),(.cmp (.idx (.var 0) (.cnst (Lt.int 1))) [.Eq] [(.idx (.var 1) (.cnst (Lt.int 1)))]),(.cmp (.idx (.var 0) (.cnst (Lt.int 2))) [.NotEq] [(.idx (.var 1) (.cnst (Lt.int 2)))])]))]
noncomputable def bW6 (kN kW cH:Nat):List CS:=[
 (.exp (.call kN [(.var 1)])),
 (.ite (.all false [(.not (.val (.call kW [(.var 2)]))),(.not (.val (.cmp (.cnst (Lt.int 0)) [.LtE,.Lt] [(.var 2),(.var 1)])))]) [
  (.rse cH (Str.ofString "no house of the town"))] []),
 (.asg (.attr (.var 0) 8) (.var 1)),
 (.asg (.attr (.var 0) 9) (.var 2)),
 (.asg (.attr (.var 0) 10) (.var 2)),
 (.asg (.attr (.var 0) 11) (.dict [] [])),
 (.asg (.attr (.var 0) 12) (.dict [] [])),
 (.asg (.attr (.var 0) 13) (.dict [] [])),
 (.asg (.attr (.var 0) 14) (.dict [] [])),
 (.asg (.attr (.var 0) 15) (.list [])),
 (.asg (.attr (.var 0) 16) (.dict [] []))]
noncomputable def cL0 (kR cR:Nat):List CS:=[
 (.ite (.not (.val (.call kR [(.var 1)]))) [
  (.rse cR (Str.ofString "no row"))] []),
 (.asg (.one (.one 2)) (.tup [(.cnst (Lt.str (Str.ofString "say"))),(.attr (.var 0) 10),(.var 1),(.attr (.var 0) 9)])),
 (.asg (.attr (.var 0) 10) (.bin .Add (.attr (.var 0) 10) (.attr (.var 0) 8))),
 (.ret (.bin .Add (.list [(.var 2)]) (.meth (.var 0) 1 [(.var 2)])))]
noncomputable def cK9 (kU:Nat):List CS:=[
 (.ite (.val (.cmp (.var 1) [.In] [(.attr (.var 0) 11)])) [
  (.ret (.list []))] []),
 (.asg (.one (.one 2)) (.comp (.var 3) (.one 3) 1 .expr [(.attr (.var 0) 11)] [(.val (.call kU [(.var 3),(.var 1)]))])),
 (.asg (.idx (.attr (.var 0) 11) (.var 1)) (.cnst (Lt.bool true))),
 (.ret (.bin .Add (.bin .Add (.meth (.var 0) 2 [(.var 1)]) (.meth (.var 0) 3 [(.idx (.var 1) (.cnst (Lt.int 1))),(.idx (.var 1) (.cnst (Lt.int 2)))])) (.meth (.var 0) 4 [(.var 1),(.var 2)])))]
noncomputable def aW8:List CS:=[
 (.ite (.all false [(.val (.cmp (.idx (.var 1) (.cnst (Lt.int 0))) [.NotEq] [(.cnst (Lt.str (Str.ofString "say")))])),(.val (.cmp (.idx (.var 1) (.cnst (Lt.int 1))) [.In] [(.attr (.var 0) 12)]))]) [
  (.ret (.list []))] []),
 (.asg (.one (.one 2)) (.tup [(.cnst (Lt.str (Str.ofString "mark"))),(.idx (.var 1) (.cnst (Lt.int 1))),(.idx (.var 1) (.cnst (Lt.int 2))),(.attr (.var 0) 9)])),
 (.asg (.idx (.attr (.var 0) 12) (.idx (.var 1) (.cnst (Lt.int 1)))) (.cnst (Lt.bool true))),
 (.asg (.idx (.attr (.var 0) 11) (.var 2)) (.cnst (Lt.bool true))),
 (.ret (.list [(.var 2)]))]
noncomputable def aW5 (kE:Nat):List CS:=[
 (.asg (.one (.one 3)) (.comp (.tup [(.cnst (Lt.str (Str.ofString "mark"))),(.var 1),(.var 2),(.var 4)]) (.one 4) 1 .range [(.attr (.var 0) 8)] [])),
 (.asg (.one (.one 3)) (.comp (.var 4) (.one 4) 1 .expr [(.var 3)] [(.val (.cmp (.var 4) [.In] [(.attr (.var 0) 11)]))])),
 (.ite (.all false [(.val (.cmp (.bi .len [(.var 3)]) [.Lt] [(.call kE [(.attr (.var 0) 8)])])),(.val (.cmp (.var 1) [.In] [(.attr (.var 0) 13)]))]) [
  (.ret (.list []))] []),
 (.asg (.idx (.attr (.var 0) 13) (.var 1)) (.var 2)),
 (.asg (.idx (.attr (.var 0) 14) (.var 1)) (.var 3)),
 (.ret (.bi .list [(.var 3)]))]
noncomputable def bG4:List CS:=[
 (.ite (.all false [(.val (.cmp (.var 2) [.Eq] [(.list [])])),(.val (.cmp (.idx (.var 1) (.cnst (Lt.int 3))) [.In] [(.attr (.var 0) 16)]))]) [
  (.ret (.list []))] []),
 (.asg (.idx (.attr (.var 0) 16) (.idx (.var 1) (.cnst (Lt.int 3)))) (.cnst (Lt.bool true))),
 (.exp (.smeth (.attr (.var 0) 15) .append [(.tup [(.idx (.var 1) (.cnst (Lt.int 3))),(.idx (.var 2) (.cnst (Lt.int 0))),(.var 1)])])),
 (.ret (.list [(.idx (.var 2) (.cnst (Lt.int 0))),(.var 1)]))]
noncomputable def bG5:List CS:=[
 (.asg (.one (.one 1)) (.dict [] [])),
 (.for_ .expr (.one 2) [(.bi .sorted [(.attr (.var 0) 13)])] [
  (.asg (.idx (.var 1) (.var 2)) (.idx (.attr (.var 0) 13) (.var 2)))]),
 (.ret (.var 1))]
noncomputable def bG9:List CS:=[
 (.ret (.bi .list [(.attr (.var 0) 15)]))]
structure HF (S:Sig) (N:HN):Prop where
 W:cM S N.kW 1 1 aC9
 N_:cM S N.kN 1 1 (bG3 N.kW N.gM N.cC)
 M:cM S N.kM 1 1 (cK8 N.kN)
 E:cM S N.kE 1 1 (bG7 N.kN N.kM)
 R:cM S N.kR 1 2 (aE5 N.gL N.gS)
 U:cM S N.kU 2 2 bF9
 I:cM S N.ki 3 3 (bW6 N.kN N.kW N.cH)
 call:cM S (N.ki+1) 2 3 (cL0 N.kR N.cR)
 hear:cM S (N.ki+2) 2 3 (cK9 N.kU)
 marking:cM S (N.ki+3) 2 3 aW8
 writing:cM S (N.ki+4) 3 4 (aW5 N.kE)
 naming:cM S (N.ki+5) 3 3 bG4
 ledger:cM S (N.ki+6) 1 3 bG5
 caught:cM S (N.ki+8) 1 1 bG9
 gM:∃ nm,S.globs[N.gM]?=some (nm,.int 12)
 gL:∃ nm,S.globs[N.gL]?=some (nm,.str letterS)
 gS:∃ nm,S.globs[N.gS]?=some (nm,.int 8)
 cls:∃ d,S.cls[N.C]?=some d /\ d.exc=false /\ d.init=some N.ki /\ ∀ j,j < 8->d.meths.lookup j=some (N.ki+1+j)
section
variable {S:Sig} {N:HN} {m:MH} {D:Hd} {s:Hs}
theorem cQ8 (H:HF S N) (n:Nat) (c:Int) (h1:1 <= c) (h2:c <= 12) (m:MH):run S (n+3) N.kM [.int c] m=.ok (.int ((c - 1) / 3)) m:=by
 rcases H.gM with ⟨y_,gM⟩
 have en:run S (n+2) N.kN [.int c] m=.ok .none m:=by
  exact aB1 H.N_ H.W gM n h1 h2
 refine fF ?_
 exact bN H.M rfl (fD (aE (bO rfl en) (bG (aC rfl ⟨rfl,rfl⟩))))
theorem bU7 (H:HF S N) (n:Nat) (c:Int) (h1:1 <= c) (h2:c <= 12) (m:MH):run S (n+4) N.kE [.int c] m=.ok (.int (bC c)) m:=by
 rcases H.gM with ⟨y_,gM⟩
 have en:run S (n+3) N.kN [.int c] m=.ok .none m:=by
  exact aB1 H.N_ H.W gM (n+1) h1 h2
 refine fF ?_
 refine bN H.E rfl (fD (aE (bO rfl en) (bG (aE (aZ (aZ (aZ rfl (bO rfl (cQ8 H n c h1 h2 m)) rfl) rfl rfl) rfl rfl) ⟨rfl,rfl⟩))))
theorem bM7 (H:HF S N) (n:Nat) (a b:Wo) (m:MH):run S (n+1) N.kU [a.v,b.v] m=.ok (.bool (aT a b)) m:=by
 refine fF ?_
 refine bN H.U rfl (bG (aE (cO9 (x:=a.h == b.h) ?_ (cO9 (x:=a.k == b.k) ?_ (cO9 (x:=a.n == b.n) ?_ (q_one (v:=.bool (a.r != b.r)) ?_)))) ⟨?_,rfl⟩))
 ·exact aX rfl rfl rfl
 ·exact aX rfl rfl rfl
 ·exact aX rfl rfl rfl
 ·exact aX rfl rfl rfl
 ·unfold aT;simp [Bool.and_assoc]
noncomputable def Hd.ext (D:Hd) (l:List Nat):Hd:={ D with bs:=D.bs++l }
theorem Hd.ext_nil (D:Hd):D.ext []=D:=by unfold Hd.ext;rw [List.append_nil]
theorem Hd.ext_ext (D:Hd) (a b:List Nat):(D.ext a).ext b=D.ext (a++b):=by unfold Hd.ext;rw [List.append_assoc]
structure Tells (m:MH) (C:Nat) (D:Hd) (x:Hs×List Wo) (u:V) (m':MH):Prop where
 all:∃ q l,u=.ref q /\ m'[q]?=some (.list (x.2.map Wo.v)) /\ m.length <= q /\ q∉(D.ext l).all /\ Ho m' C (D.ext l) x.1 /\ Mod D.foot m m' /\ ∀ y∈l,m.length <= y
theorem dA {C:Nat} {x:Hs×List Wo} {q:Nat} {m':MH} (k:m'[q]?=some (.list (x.2.map Wo.v))) (g:m.length <= q) (o:q∉D.all) (h:Ho m' C D x.1) (M:Mod D.foot m m'):Tells m C D x (.ref q) m':=
 ⟨q,[],rfl,k,g,by rw [Hd.ext_nil];exact o,by rw [Hd.ext_nil];exact h,M,fun y_ q=>nomatch q⟩
theorem dS {C:Nat} {p:Hs×List Wo} {x:Mn V} {Q:V->MH->Prop} {E:Nat->MH->Prop} (h:Wp x m (Tells m C D p) nox) (k:∀ m' q l,m'[q]?=some (.list (p.2.map Wo.v))->m.length <= q->q∉(D.ext l).all->Ho m' C (D.ext l) p.1->Mod D.foot m m'->(∀ y∈l,m.length <= y)->Q (.ref q) m'):Wp x m Q E:=
 aU h fun y_ m' ⟨q,l,e,k1,k2,k3,k4,k5,k6⟩=>e▸k m' q l k1 k2 k3 k4 k5 k6
theorem bI7 (H:HF S N) (n:Nat) (w:Wo) (h:Ho m N.C D s) (hl:s.known.length+s.marked.length < lid):Wp (run S (n+1) (N.ki+3) [.ref D.p,w.v]) m (Tells m N.C D (s.marking w)) nox:=by
 rcases h.mr with ⟨eb,kb⟩
 have hc:evT S (run S n) (.all false [(.val (.cmp (.idx (.var 1) (.cnst (Lt.int 0))) [.NotEq] [(.cnst (Lt.str (Str.ofString "say")))])),(.val (.cmp (.idx (.var 1) (.cnst (Lt.int 1))) [.In] [(.attr (.var 0) 12)]))]) [some (.ref D.p),some w.v,none] m=.ok (decide (w.k≠cK \/ w.n∈s.marked)) m:=by
  have e1:evT S (run S n) (.val (.cmp (.idx (.var 1) (.cnst (Lt.int 0))) [.NotEq] [(.cnst (Lt.str (Str.ofString "say")))])) [some (.ref D.p),some w.v,none] m=.ok (!(w.k == cK)) m:=bD (aX rfl rfl rfl)
  have e2:evT S (run S n) (.val (.cmp (.idx (.var 1) (.cnst (Lt.int 1))) [.In] [(.attr (.var 0) 12)])) [some (.ref D.p),some w.v,none] m=.ok (decide (w.n∈s.marked)) m:=by
   refine bD (aX rfl (aO rfl h.inst rfl) ?_)
   show inV (.int w.n) (.ref D.b) m=_
   rw [bA kb rfl (eN _ _),cD6,eU]
   congr 1
   rw [Bool.eq_iff_iff];simp
  have:=aA8 (bT e1 (bT e2 fN))
  rw [this]
  congr 1
  rw [Bool.eq_iff_iff];simp
 refine bN H.marking rfl (bY hc ?_)
 unfold Hs.marking
 by_cases z:w.k≠cK \/ w.n∈s.marked
 ·rw [if_pos z,decide_eq_true z]
  refine bG (bF (aG (aM fun q m' l k g=>?_)))
  exact dA k g (fun c=>Nat.not_lt.mpr g (h.lt q c)) (h.le l) l.mod
 ·rw [if_neg z,decide_eq_false z]
  have z2:w.n∉s.marked:=fun c=>z (.inr c)
  refine aW (aE (aY4 (aP rfl (aP rfl (aP rfl (aP (aO rfl h.inst rfl) rfl))))) ?_)
  refine eC (aC rfl (aE (aO rfl h.inst rfl) (aC rfl (eB kb rfl (eN _ _) (by unfold iD;rw [List.length_map];lia) ?_))))
  have ep:put (.int w.n) (.bool true) (iD s.marked)=iD (s.marked++[w.n]):=by
   rw [cD6,aA9 _ _ _ _ _ (by rw [List.any_eq_false];intro x hx;simp;rintro rfl;exact z2 hx)]
   unfold iD tD
   rw [List.map_append];rfl
  show Wp _ (m.set D.b (.dict (put (.int w.n) (.bool true) (iD s.marked)) (eb+1))) _ _
  rw [ep]
  have h1:=h.setM (s.marked++[w.n]) (eb+1)
  rcases h1.kn with ⟨ea,ka⟩
  refine eC (aC rfl (aE (aO rfl h1.inst rfl) (aC rfl (eB ka (k:=(mrk w.n w.r s.own).ky) rfl (dB _ _) (by unfold kD;rw [List.length_map];show s.known.length < lid;lia) ?_))))
  show Wp _ (List.set _ D.a (.dict (put (mrk w.n w.r s.own).ky (.bool true) (kD s.known)) (ea+1))) _ _
  rw [aR9]
  have h2:=h1.setK (aK4 (mrk w.n w.r s.own) s.known) (ea+1)
  refine bG (bF (aF (aC rfl (aG (aM fun q m' l k g=>?_)))))
  have g':m.length <= q:=by simpa using g
  refine dA k g' (fun c=>by have:=h.lt q c;lia) (h2.le l) ?_
  exact ((Mod.set (by simp [Hd.foot])).trans (Mod.set (by simp [Hd.foot]))).trans l.mod
end
end Mini
namespace Mini
open PySem
section
variable {S:Sig} {N:HN} {m:MH} {D:Hd} {s:Hs}
theorem aB8 {α:Type} {x y:Mn α} {Q:α->MH->Prop} {E:Nat->MH->Prop} (h:x m=y m) (k:Wp y m Q E):Wp x m Q E:=by unfold Wp at k ⊢;rw [h];exact k
theorem Ho.out {C:Nat} (h:Ho m C D s) {q:Nat} (hq:m.length <= q):q∉D.all:=fun c=>Nat.not_lt.mpr hq (h.lt q c)
theorem aB0 {D:Hd} {q:Nat} (h:q∉D.all):q∉D.foot:=fun c=>h (List.mem_append_left _ c)
theorem aT2 (s:Hs) (x:Int) (r:Str):(s.marks x r).length <= s.cnt.toNat:=by
 unfold Hs.marks
 exact Nat.le_trans (List.length_filter_le _ _) (by rw [List.length_map,List.length_range];exact Nat.le_refl _)
theorem bH3 (H:HF S N) (n:Nat) (x:Int) (r:Str) (h:Ho m N.C D s) (h1:1 <= s.cnt) (h2:s.cnt <= 12) (hl:s.rows.length < lid):Wp (run S (n+5) (N.ki+4) [.ref D.p,.int x,.str r]) m (Tells m N.C D (s.writing x r)) nox:=by
 have hcn:s.cnt.toNat <= 12:=by lia
 refine bN H.writing rfl (aW (bD3 (List.range s.cnt.toNat) (fun (j:Nat)=>V.int (0+(j:Int))) (fun (j:Nat)=>(mrk x r j).v) (fun m'=>m'=m) (aF (aE (aO rfl h.inst rfl) (aG (aE (aN6 (by lia)) ⟨rfl,rfl,fun y_ y_=>rfl,?_,?_,?_⟩))))))
 ·intro j hj m' em
  rw [em]
  refine aC rfl (aC rfl ⟨?_,rfl⟩)
  show V.tup [_,_,_,.int (0+(j:Int))]=_
  rw [Int.zero_add];rfl
 ·rw [List.length_range];exact Nat.le_trans hcn (by decide)
 ·intro q1 m1' m1 em l1 k1 g1
  rw [em] at l1 g1
  clear em m1'
  have ha:=h.le l1
  rcases ha.kn with ⟨ea,ka⟩
  have k1:m1[q1]?=some (.list (((List.range s.cnt.toNat).map fun (j:Nat)=>mrk x r j).map Wo.v)):=by rw [List.map_map];exact k1
  refine aW (aO5 ((List.range s.cnt.toNat).map fun (j:Nat)=>mrk x r j) Wo.v Wo.v (fun w=>decide (w∈s.known)) (fun m'=>m'=m1) (aF (aC rfl (aG (eI (m:=m1) (p:=q1) (xs:=((List.range s.cnt.toNat).map fun (j:Nat)=>mrk x r j).map Wo.v) k1 ⟨rfl,rfl,?_,?_,?_,?_⟩)))))
  ·intro m' em;rw [em];exact cV k1
  ·intro w hw m' em
   rw [em]
   refine aC rfl (aP2 (aE (bD (aX (t:=decide (w∈s.known)) rfl (aO rfl ha.inst rfl) ?_)) ⟨rfl,?_⟩))
   ·show inV w.v (.ref D.a) m1=_
    rw [bA ka (k:=w.ky) rfl (dB _ _),aP0]
   ·cases decide (w∈s.known) with
    | true=>exact eA (aC (m':=m1) (a:=w.v) rfl ⟨rfl,rfl⟩)
    | false=>rfl
  ·rw [List.length_map,List.length_range];exact Nat.le_trans hcn (by decide)
  ·intro q2 m2' m2 em l2 k2 g2
   rw [em] at l2 g2
   clear em m2'
   have k2:m2[q2]?=some (.list ((s.marks x r).map Wo.v)):=k2
   have hb:=ha.le l2
   have qo:q2∉D.all:=ha.out g2
   rcases hb.ro with ⟨ec,kc⟩
   rcases hb.ba with ⟨ed,kd⟩
   have ml:=aT2 s x r
   have hc:evT S (run S (n+4)) (.all false [(.val (.cmp (.bi .len [(.var 3)]) [.Lt] [(.call N.kE [(.attr (.var 0) 8)])])),(.val (.cmp (.var 1) [.In] [(.attr (.var 0) 13)]))]) [some (.ref D.p),some (.int x),some (.str r),some (.ref q2)] m2=.ok (decide (((s.marks x r).length:Int) < bC s.cnt \/ s.wrote x=true)) m2:=by
    have e1:evT S (run S (n+4)) (.val (.cmp (.bi .len [(.var 3)]) [.Lt] [(.call N.kE [(.attr (.var 0) 8)])])) [some (.ref D.p),some (.int x),some (.str r),some (.ref q2)] m2=.ok (decide (((s.marks x r).length:Int) < bC s.cnt)) m2:=by
     refine bD (aX (x:=.int (s.marks x r).length) ?_ (bO (aO rfl hb.inst rfl) (bU7 H n s.cnt h1 h2 m2)) rfl)
     show biV .len [.ref q2] m2=_
     unfold biV;dsimp only;rw [k2];dsimp only;rw [List.length_map]
    have e2:evT S (run S (n+4)) (.val (.cmp (.var 1) [.In] [(.attr (.var 0) 13)])) [some (.ref D.p),some (.int x),some (.str r),some (.ref q2)] m2=.ok (s.wrote x) m2:=by
     refine bD (aX rfl (aO rfl hb.inst rfl) ?_)
     show inV (.int x) (.ref D.c) m2=_
     rw [bA kc rfl (bB _ _ _ _),aL3,eU];rfl
    rw [aA8 (bT e1 (bT e2 fN))]
    congr 1
    rw [Bool.eq_iff_iff];simp
   refine bY hc ?_
   unfold Hs.writing
   by_cases z:((s.marks x r).length:Int) < bC s.cnt \/ s.wrote x=true
   ·rw [if_pos z,decide_eq_true z]
    refine bG (bF (aG (aM fun q m' l k g=>?_)))
    have g3:m.length <= q:=Nat.le_trans l1.1 (Nat.le_trans l2.1 g)
    exact dA k g3 (h.out g3) (hb.le l) ((l1.trans (l2.trans l)).mod)
   ·rw [if_neg z,decide_eq_false z]
    have zw:s.wrote x=false:=by cases w:s.wrote x with | true=>exact absurd (.inr w) z | false=>rfl
    refine eC (aC rfl (aE (aO rfl hb.inst rfl) (aC rfl (eB kc rfl (bB _ _ _ _) (by unfold aL3 tD;rw [List.length_map];exact hl) ?_))))
    have ep:put (.int x) (.str r) (aL3 s.rows)=aL3 (s.rows++[(x,r,s.marks x r)]):=by
     unfold aL3
     rw [aA9 _ _ _ _ _ zw]
     unfold tD
     rw [List.map_append];rfl
    show Wp _ (m2.set D.c (.dict (put (.int x) (.str r) (aL3 s.rows)) (ec+1))) _ _
    rw [ep]
    have F:=Hd.upd hb.nd (m:=m2) (o':=.dict (aL3 (s.rows++[(x,r,s.marks x r)])) (ec+1)) (j:=3) rfl
    have kd':=F 4 _ _ rfl (by decide) kd
    have ki':=F 0 _ _ rfl (by decide) hb.inst
    have zb:((bak s D).any fun y=>y.1 == x)=false:=by
     rw [List.any_eq_false]
     intro y hy
     have:y.1∈s.rows.map (·.1):=(List.of_mem_zip (a:=y.1) (b:=y.2) hy).1
     rcases List.mem_map.mp this with ⟨t,ht,e⟩
     have:=List.any_eq_false.mp zw t ht
     rw [<- e];exact this
    refine eC (aC rfl (aE (aO rfl ki' rfl) (aC rfl (eB kd' rfl (bB _ _ _ _) (by unfold bK5 tD;rw [List.length_map];unfold bak;rw [List.length_zip,List.length_map,h.len,Nat.min_self];exact hl) ?_))))
    have ep2:put (.int x) (.ref q2) (bK5 (bak s D))=bK5 (bak s D++[(x,q2)]):=by
     unfold bK5
     rw [aA9 _ _ _ _ _ zb]
     unfold tD
     rw [List.map_append];rfl
    show Wp _ (List.set _ D.d (.dict (put (.int x) (.ref q2) (bK5 (bak s D))) (ed+1))) _ _
    rw [ep2]
    have h3:=hb.setR (n:=x) (r:=r) (e1:=ec+1) (e2:=ed+1) k2 qo
    have k3:((m2.set D.c (.dict (aL3 (s.rows++[(x,r,s.marks x r)])) (ec+1))).set D.d (.dict (bK5 (bak s D++[(x,q2)])) (ed+1)))[q2]?=some (.list ((s.marks x r).map Wo.v)):=
     aN (fun e=>qo (e▸List.mem_append_left _ (by simp [Hd.foot]))) (aN (fun e=>qo (e▸List.mem_append_left _ (by simp [Hd.foot]))) k2)
    have el:biV .list [.ref q2] ((m2.set D.c (.dict (aL3 (s.rows++[(x,r,s.marks x r)])) (ec+1))).set D.d (.dict (bK5 (bak s D++[(x,q2)])) (ed+1)))=alloc (.list ((s.marks x r).map Wo.v)) ((m2.set D.c (.dict (aL3 (s.rows++[(x,r,s.marks x r)])) (ec+1))).set D.d (.dict (bK5 (bak s D++[(x,q2)])) (ed+1))):=by
     unfold biV;dsimp only;rw [k3]
    refine bG (aS4 (aF (aC rfl (aG ?_))))
    refine aB8 el (aM fun q m' l k g=>?_)
    have gl:m2.length <= q:=by simpa using g
    have g3:m.length <= q:=Nat.le_trans l1.1 (Nat.le_trans l2.1 gl)
    have q3:q2 < m2.length:=aS k2
    have g4:m.length <= q2:=Nat.le_trans l1.1 g2
    refine ⟨q,[q2],rfl,k,g3,fun c=>?_,h3.le l,?_,fun y hy=>by rw [List.mem_singleton.mp hy];exact g4⟩
    ·have:=h3.lt q c
     simp at this;lia
    ·exact ((l1.trans l2).mod.trans ((Mod.set (by simp [Hd.foot])).trans (Mod.set (by simp [Hd.foot])))).trans l.mod
noncomputable def Wo.d (w:Wo):PyData:=.tuple [.str w.k,.int w.n,.str w.r,.int w.h]
theorem aO2 (m:MH) (f:Nat):∀ l:List Wo,fR (rd (f+2) m) (l.map Wo.v)=some (l.map Wo.d)
 | []=>rfl
 | w::l=>bH0 rfl (aO2 m f l)
theorem bF0 (x y:PyData) (a b:List PyData):PyData.eqvAll (x::a) (y::b)=(PyData.eqv x y&&PyData.eqvAll a b):=rfl
theorem eqv_d (a b:Wo):PyData.eqv a.d b.d=decide (a=b):=by
 rcases a with ⟨a1,a2,a3,a4⟩
 rcases b with ⟨b1,b2,b3,b4⟩
 have e:PyData.eqv (Wo.d ⟨a1,a2,a3,a4⟩) (Wo.d ⟨b1,b2,b3,b4⟩)=(a1 == b1&&(a2 == b2&&(a3 == b3&&(a4 == b4&&true)))):=rfl
 rw [e,Bool.eq_iff_iff,decide_eq_true_iff,Bool.and_eq_true_iff,Bool.and_eq_true_iff,Bool.and_eq_true_iff,Bool.and_true,beq_iff_eq,beq_iff_eq,beq_iff_eq,beq_iff_eq]
 exact ⟨fun ⟨p,q,r,s⟩=>by subst p q r s;rfl,fun e=>by cases e;exact ⟨rfl,rfl,rfl,rfl⟩⟩
theorem aV4:∀ a b:List Wo,PyData.eqvAll (a.map Wo.d) (b.map Wo.d)=decide (a=b)
 | [],[]=>rfl
 | [],_::_=>(decide_eq_false fun e=>by cases e).symm
 | _::_,[]=>(decide_eq_false fun e=>by cases e).symm
 | x::a,y::b=>by
  rw [List.map_cons,List.map_cons,bF0,eqv_d,aV4 a b,Bool.eq_iff_iff,Bool.and_eq_true_iff,decide_eq_true_iff,decide_eq_true_iff,decide_eq_true_iff]
  exact ⟨fun h=>by rw [h.1,h.2],fun h=>⟨(List.cons.inj h).1,(List.cons.inj h).2⟩⟩
theorem cF2 {p q:Nat} {a b:List Wo} (hp:m[p]?=some (.list (a.map Wo.v))) (hq:m[q]?=some (.list (b.map Wo.v))):eqV (.ref p) (.ref q) m=.ok (decide (a=b)) m:=by
 have r1:rd eY m (.ref p)=some (.list (a.map Wo.d)):=by
  show (match m[p]? with | some (.list xs)=>(fR (rd 11 m) xs).map PyData.list | _=>none)=_
  rw [hp];show (fR (rd 11 m) (a.map Wo.v)).map PyData.list=_;rw [aO2 m 9 a];rfl
 have r2:rd eY m (.ref q)=some (.list (b.map Wo.d)):=by
  show (match m[q]? with | some (.list xs)=>(fR (rd 11 m) xs).map PyData.list | _=>none)=_
  rw [hq];show (fR (rd 11 m) (b.map Wo.v)).map PyData.list=_;rw [aO2 m 9 b];rfl
 unfold eqV
 rw [r1,r2]
 show Res.ok (PyData.eqvAll _ _) m=_
 rw [aV4]
theorem bR3 (H:HF S N) (n:Nat) (w:Wo) {ahead:List Wo} {qa:Nat} (ha:m[qa]?=some (.list (ahead.map Wo.v))) (hq:qa∉D.all) (h:Ho m N.C D s) (hl:s.named.length < lid):Wp (run S (n+1) (N.ki+5) [.ref D.p,w.v,.ref qa]) m (Tells m N.C D (s.naming w ahead)) nox:=by
 refine bN H.naming rfl (aF9 (aL5 (cE (aG5 (aG6 (aC rfl (bF (aG (aM fun q0 m0 l0 k0 g0=>?_)))))))))
 have ha0:=l0.has ha
 have e0:aI9 .Eq (.ref qa) (.ref q0) m0=.ok (decide (ahead=[])) m0:=cF2 ha0 (b:=[]) k0
 refine aE e0 (aC rfl ?_)
 have h0:=h.le l0
 rcases h0.bl with ⟨ef,kf⟩
 cases ahead with
 | nil=>
  rw [show decide (([]:List Wo)=[])=true from by simp]
  refine aD7 ?_
  refine bG (bF (aG (aM fun q m' l k g=>?_)))
  have g3:m.length <= q:=Nat.le_trans l0.1 g
  exact dA k g3 (h.out g3) (h0.le l) ((l0.trans l).mod)
 | cons a as=>
  have e2:evT S (run S n) (.val (.cmp (.idx (.var 1) (.cnst (Lt.int 3))) [.In] [(.attr (.var 0) 16)])) [some (.ref D.p),some w.v,some (.ref qa)] m0=.ok (s.named.any fun x=>x.1 == w.h) m0:=by
   refine bD (aX rfl (aO rfl h0.inst rfl) ?_)
   show inV (.int w.h) (.ref D.f) m0=_
   rw [bA kf rfl (bB _ _ _ _),bB2,eU]
  rw [show decide (a::as=[])=false from by simp]
  refine eA ?_
  refine aE (bT e2 fN) ?_
  rw [Bool.or_false]
  unfold Hs.naming
  dsimp only
  cases z:s.named.any fun x=>x.1 == w.h with
  | true=>
   show Wp _ m0 _ _
   refine bG (bF (aG (aM fun q m' l k g=>?_)))
   have g3:m.length <= q:=Nat.le_trans l0.1 g
   exact dA k g3 (h.out g3) (h0.le l) ((l0.trans l).mod)
  | false=>
   show Wp _ m0 _ _
   rw [if_neg Bool.false_ne_true]
   refine eC (aC rfl (aE (aO rfl h0.inst rfl) (aC rfl (eB kf rfl (bB _ _ _ _) (by unfold bB2 tD;rw [List.length_map];exact hl) ?_))))
   have ep:put (.int w.h) (.bool true) (bB2 s.named)=bB2 (s.named++[(w.h,a,w)]):=by
    unfold bB2
    rw [aA9 _ _ _ _ _ z]
    unfold tD
    rw [List.map_append];rfl
   show Wp _ (m0.set D.f (.dict (put (.int w.h) (.bool true) (bB2 s.named)) (ef+1))) _ _
   rw [ep]
   have F:=Hd.upd h0.nd (m:=m0) (o':=.dict (bB2 (s.named++[(w.h,a,w)])) (ef+1)) (j:=6) rfl
   have ki:=F 0 _ _ rfl (by decide) h0.inst
   have ke:=F 5 _ _ rfl (by decide) h0.na
   have qf:D.f≠qa:=fun e=>hq (e▸List.mem_append_left _ (by simp [Hd.foot]))
   have qe:D.e≠qa:=fun e=>hq (e▸List.mem_append_left _ (by simp [Hd.foot]))
   have ha1:=aN (o':=.dict (bB2 (s.named++[(w.h,a,w)])) (ef+1)) qf ha0
   have hi:∀ (m':MH),m'[qa]?=some (.list ((a::as).map Wo.v))->aQ9 (.ref qa) (.int 0) m'=.ok a.v m':=fun m' k=>by
    unfold aQ9;dsimp only;rw [k];rfl
   refine fD (dL (aE (aO rfl ki rfl) ⟨0,bO9 ke,rfl,aE (aP (aY4 (aP rfl (aP (eF rfl rfl (hi _ ha1)) (aP rfl rfl)))) rfl) (aN0 ke (by unfold bI5;rw [List.length_map];exact hl) ?_)⟩))
   have en:bI5 s.named++[V.tup [.int w.h,a.v,w.v]]=bI5 (s.named++[(w.h,a,w)]):=by unfold bI5;rw [List.map_append];rfl
   show Wp _ (List.set _ D.e (.list (bI5 s.named++[V.tup [.int w.h,a.v,w.v]]))) _ _
   rw [en]
   have h1:=h0.setN (x:=(w.h,a,w)) (e1:=ef+1)
   have ha2:=aN (o':=.list (bI5 (s.named++[(w.h,a,w)]))) qe ha1
   refine bG (bF (aE (aP (eF rfl rfl (hi _ ha2)) (aP rfl rfl)) (aM fun q m' l k g=>?_)))
   have gl:m0.length <= q:=by simpa using g
   have g3:m.length <= q:=Nat.le_trans l0.1 gl
   refine dA k g3 (h.out g3) (h1.le l) ?_
   exact (l0.mod.trans ((Mod.set (by simp [Hd.foot])).trans (Mod.set (by simp [Hd.foot])))).trans l.mod
end
end Mini
namespace Mini
open PySem
noncomputable def Hs.sz (s:Hs):Nat:=s.known.length+s.marked.length+s.rows.length+s.named.length
theorem Hs.km (s:Hs):s.known.length+s.marked.length <= s.sz:=Nat.le_trans (Nat.le_add_right _ _) (Nat.le_add_right _ _)
theorem Hs.kl (s:Hs):s.known.length <= s.sz:=Nat.le_trans (Nat.le_add_right _ _) s.km
theorem Hs.rl (s:Hs):s.rows.length <= s.sz:=Nat.le_trans (Nat.le_add_left _ _) (Nat.le_add_right _ _)
theorem Hs.nl (s:Hs):s.named.length <= s.sz:=Nat.le_add_left _ _
theorem cY9 {a b a' b' c d k:Nat} (h:a' <= a+k) (h2:b' <= b+1):a'+b'+c+d <= a+b+c+d+(k+1):=by lia
theorem sum_3 {a b c d:Nat}:a+b+(c+1)+d <= a+b+c+d+1:=Nat.le_of_eq (by rw [<- Nat.add_assoc,Nat.add_right_comm _ 1 d])
theorem cO0 {a b c d:Nat}:a+1+b+c+d=a+b+c+d+1:=by rw [Nat.add_right_comm a 1 b,Nat.add_right_comm _ 1 c,Nat.add_right_comm _ 1 d]
theorem bH1 (w:Wo) (l:List Wo):(aK4 w l).length <= l.length+1:=by
 unfold aK4
 by_cases h:w∈l
 ·rw [if_pos h];exact Nat.le_succ _
 ·rw [if_neg h,List.length_append];exact Nat.le_refl _
theorem bK (s:Hs) (w:Wo):(s.marking w).1.cnt=s.cnt /\ (s.marking w).1.rows=s.rows /\ (s.marking w).1.named=s.named /\ (s.marking w).1.own=s.own /\ (s.marking w).1.onw=s.onw /\ (s.marking w).1.sz <= s.sz+2 /\ (s.marking w).2.length <= 1:=by
 unfold Hs.marking
 split
 ·exact ⟨rfl,rfl,rfl,rfl,rfl,Nat.le_add_right _ _,Nat.zero_le _⟩
 ·refine ⟨rfl,rfl,rfl,rfl,rfl,?_,Nat.le_refl _⟩
  exact cY9 (bH1 (mrk w.n w.r s.own) s.known) (Nat.le_of_eq List.length_append)
theorem cO (s:Hs) (x:Int) (r:Str):(s.writing x r).1.cnt=s.cnt /\ (s.writing x r).1.named=s.named /\ (s.writing x r).1.own=s.own /\ (s.writing x r).1.onw=s.onw /\ (s.writing x r).1.sz <= s.sz+1 /\ (s.writing x r).2.length <= s.cnt.toNat:=by
 unfold Hs.writing
 split
 ·exact ⟨rfl,rfl,rfl,rfl,Nat.le_add_right _ _,Nat.zero_le _⟩
 ·refine ⟨rfl,rfl,rfl,rfl,?_,aT2 s x r⟩
  unfold Hs.sz;rw [List.length_append];exact sum_3
theorem e9 (s:Hs) (w:Wo) (l:List Wo):(s.naming w l).1.cnt=s.cnt /\ (s.naming w l).1.own=s.own /\ (s.naming w l).1.onw=s.onw /\ (s.naming w l).1.sz <= s.sz+1 /\ (s.naming w l).2.length <= 2:=by
 cases l with
 | nil=>exact ⟨rfl,rfl,rfl,Nat.le_add_right _ _,Nat.zero_le _⟩
 | cons a l=>
  unfold Hs.naming
  dsimp only
  split
  ·exact ⟨rfl,rfl,rfl,Nat.le_add_right _ _,Nat.zero_le _⟩
  ·refine ⟨rfl,rfl,rfl,?_,Nat.le_refl _⟩
   unfold Hs.sz;rw [List.length_append];exact Nat.le_refl _
theorem bX (s:Hs) (w:Wo):(s.hear w).1.cnt=s.cnt /\ (s.hear w).1.own=s.own /\ (s.hear w).1.onw=s.onw /\ (s.hear w).1.sz <= s.sz+5 /\ (s.hear w).2.length <= s.cnt.toNat+3:=by
 unfold Hs.hear
 split
 ·exact ⟨rfl,rfl,rfl,Nat.le_add_right _ _,Nat.zero_le _⟩
 ·dsimp only
  rcases bK { s with known:=s.known++[w] } w with ⟨a1,a2,a3,a4,a5,a6,a7⟩
  rcases cO (({ s with known:=s.known++[w] }:Hs).marking w).1 w.n w.r with ⟨b1,b2,b3,b4,b5,b6⟩
  rcases e9 ((({ s with known:=s.known++[w] }:Hs).marking w).1.writing w.n w.r).1 w (s.known.filter fun a=>aT a w) with ⟨c1,c2,c3,c4,c5⟩
  have z:({ s with known:=s.known++[w] }:Hs).sz=s.sz+1:=by unfold Hs.sz;rw [List.length_append];exact cO0
  rw [a1] at b6
  refine ⟨c1.trans (b1.trans a1),c2.trans (b3.trans a4),c3.trans (b4.trans a5),Nat.le_trans c4 (Nat.succ_le_succ (Nat.le_trans b5 (Nat.succ_le_succ (Nat.le_trans a6 (Nat.le_of_eq (congrArg (·+2) z)))))),?_⟩
  rw [List.length_append,List.length_append]
  exact Nat.le_trans (Nat.add_le_add (Nat.add_le_add a7 b6) c5) (Nat.le_of_eq (by rw [Nat.add_comm 1]))
section
variable {S:Sig} {N:HN} {m:MH} {D:Hd} {s:Hs}
theorem bZ7 {p e:Nat} {kvs:List (Ky×V)} (h:m[p]?=some (.dict kvs e)):fC .expr [.ref p] m=.ok (kvs.map fun x=>x.1.val,.dict p e) m:=by
 show eD (.ref p) m=_
 unfold eD;dsimp only;rw [h]
theorem cO2 {p e:Nat} {kvs:List (Ky×V)} (h:m[p]?=some (.dict kvs e)):(Gd.dict p e).stays m=true:=by
 unfold Gd.stays;dsimp only;rw [h];exact beq_self_eq_true e
theorem bS8 (l:List Wo):((kD l).map fun x=>x.1.val)=l.map Wo.v:=by unfold kD;rw [List.map_map];rfl
theorem bT5 (H:HF S N) (n:Nat) (w:Wo) (h:Ho m N.C D s) (h1:1 <= s.cnt) (h2:s.cnt <= 12) (hl:s.sz+8 < lid):Wp (run S (n+6) (N.ki+2) [.ref D.p,w.v]) m (Tells m N.C D (s.hear w)) nox:=by
 rcases h.kn with ⟨ea,ka⟩
 rcases H.cls with ⟨d,hd,hx,hi,hm⟩
 have e0:evT S (run S (n+5)) (.val (.cmp (.var 1) [.In] [(.attr (.var 0) 11)])) [some (.ref D.p),some w.v,none] m=.ok (decide (w∈s.known)) m:=by
  refine bD (aX rfl (aO rfl h.inst rfl) ?_)
  show inV w.v (.ref D.a) m=_
  rw [bA ka (k:=w.ky) rfl (dB _ _),aP0]
 refine bN H.hear rfl (bY e0 ?_)
 unfold Hs.hear
 by_cases z:w∈s.known
 ·rw [if_pos z,decide_eq_true z]
  refine bG (bF (aG (aM fun q m' l k g=>?_)))
  exact dA k g (h.out g) (h.le l) l.mod
 ·rw [if_neg z,decide_eq_false z]
  dsimp only
  have hsl:s.sz < lid:=Nat.lt_of_le_of_lt (Nat.le_add_right _ _) hl
  have hkl:s.known.length <= lid:=Nat.le_of_lt (Nat.lt_of_le_of_lt s.kl hsl)
  refine aW (aO5 s.known Wo.v Wo.v (fun a=>aT a w) (fun m'=>m'=m) (aF (aE (aO rfl h.inst rfl) (aG (aE (bZ7 ka) ⟨bS8 _,rfl,?_,?_,hkl,?_⟩)))))
  ·intro m' em;rw [em];exact cO2 ka
  ·intro a ha m' em
   rw [em]
   refine aC rfl (aP2 (aE (bD (fO (vs:=[a.v,w.v]) rfl (bM7 H _ a w m))) ⟨rfl,?_⟩))
   cases aT a w with
   | true=>exact eA (aC (m':=m) (a:=a.v) rfl ⟨rfl,rfl⟩)
   | false=>rfl
  ·intro qa m1' m1 em l1 k1 g1
   rw [em] at l1 g1
   clear em m1'
   have ha:=h.le l1
   rcases ha.kn with ⟨ea,ka⟩
   refine eC (aC rfl (aE (aO rfl ha.inst rfl) (aC rfl (eB ka (k:=w.ky) rfl (dB _ _) (by unfold kD;rw [List.length_map];exact Nat.lt_of_le_of_lt s.kl hsl) ?_))))
   show Wp _ (m1.set D.a (.dict (put w.ky (.bool true) (kD s.known)) (ea+1))) _ _
   rw [aR9,show aK4 w s.known=s.known++[w] from if_neg z]
   have hb:=ha.setK (s.known++[w]) (ea+1)
   have qo:qa∉D.all:=h.out g1
   have kq:=aN (o':=.dict (kD (s.known++[w])) (ea+1)) (fun e=>qo (e▸List.mem_append_left _ (by simp [Hd.foot])):D.a≠qa) k1
   have M1:Mod D.foot m (m1.set D.a (.dict (kD (s.known++[w])) (ea+1))):=l1.mod.trans (Mod.set (by simp [Hd.foot]))
   generalize hs1:({ s with known:=s.known++[w] }:Hs)=s1 at hb ⊢
   have sz1:s1.sz=s.sz+1:=by rw [<- hs1];unfold Hs.sz;rw [List.length_append];exact cO0
   have cn1:s1.cnt=s.cnt:=by rw [<- hs1]
   generalize hm2:m1.set D.a (.dict (kD (s.known++[w])) (ea+1))=m2 at hb kq M1 ⊢
   have c1:=(bK s1 w).1
   have c6:=(bK s1 w).2.2.2.2.2.1
   have c7:=(bK s1 w).2.2.2.2.2.2
   refine bG (aG7 (aG7 (cG (aC rfl ⟨D.p,N.C,_,d,N.ki+3,rfl,hb.inst,hd,rfl,hm 2 (by decide),aC rfl (dS (bI7 H (n+4) w hb (Nat.lt_of_le_of_lt s1.km (by rw [sz1];exact Nat.lt_of_le_of_lt (Nat.add_le_add_left (show 1 <= 8 by decide) s.sz) hl))) fun m3 q1 l3 k3 g3 o3 h3 M3 y3=>?_)⟩))))
   refine cG (aC rfl ⟨D.p,N.C,_,d,N.ki+4,rfl,h3.inst,hd,rfl,hm 3 (by decide),aC rfl (dS (bH3 (D:=D.ext l3) H n w.n w.r h3 (by rw [c1,cn1];exact h1) (by rw [c1,cn1];exact h2) (Nat.lt_of_le_of_lt (Hs.rl _) (Nat.lt_of_le_of_lt c6 (by rw [sz1];exact Nat.lt_of_le_of_lt (Nat.add_le_add_left (show 3 <= 8 by decide) s.sz) hl)))) fun m4 q2 l4 k4 g4 o4 h4 M4 y4=>?_)⟩)
   have b5:=(cO (s1.marking w).1 w.n w.r).2.2.2.2.1
   have b6:=(cO (s1.marking w).1 w.n w.r).2.2.2.2.2
   have k34:=M4.has k3 (aB0 (D:=D.ext l3) o3)
   have len2:(s1.marking w).2.length+((s1.marking w).1.writing w.n w.r).2.length <= 13:=by rw [c1,cn1] at b6;exact Nat.add_le_add c7 (Nat.le_trans b6 (bS h2))
   refine aR0 k34 k4 (by rw [List.length_map,List.length_map];exact bM len2 (by decide)) fun q5 m5 l5 k5 g5=>?_
   have h5:=h4.le l5
   have le23:=M3.1
   have le34:=M4.1
   have qa5:m5[qa]?=some (.list ((s.known.filter fun a=>aT a w).map Wo.v)):=l5.has (M4.has (M3.has kq (aB0 qo)) (show qa∉D.foot from aB0 qo))
   have lt2:qa < m2.length:=aS kq
   have oa:qa∉((D.ext l3).ext l4).all:=fun c=>by
    rcases List.mem_append.mp c with c | c
    ·exact qo (List.mem_append_left _ c)
    ·have c:qa∈(D.bs++l3)++l4:=c
     rcases List.mem_append.mp c with c | c
     ·rcases List.mem_append.mp c with c | c
      ·exact qo (List.mem_append_right _ c)
      ·exact absurd (y3 _ c) (Nat.not_le.mpr lt2)
     ·exact absurd (Nat.le_trans le23 (y4 _ c)) (Nat.not_le.mpr lt2)
   refine cG (aC rfl ⟨D.p,N.C,_,d,N.ki+5,rfl,h5.inst,hd,rfl,hm 4 (by decide),aC rfl (dS (bR3 (D:=(D.ext l3).ext l4) H (n+4) w qa5 oa h5 (Nat.lt_of_le_of_lt (Hs.nl _) (Nat.lt_of_le_of_lt (Nat.le_trans b5 (Nat.succ_le_succ c6)) (by rw [sz1];exact Nat.lt_of_le_of_lt (Nat.add_le_add_left (show 4 <= 8 by decide) s.sz) hl)))) fun m6 q6 l6 k6 g6 o6 h6 M6 y6=>?_)⟩)
   have n5:=(e9 ((s1.marking w).1.writing w.n w.r).1 w (s.known.filter fun a=>aT a w)).2.2.2.2
   have o5:q5∉((D.ext l3).ext l4).all:=h4.out g5
   have k56:=M6.has k5 (aB0 (D:=(D.ext l3).ext l4) o5)
   refine aR0 k56 k6 (by rw [List.length_append,List.length_map,List.length_map,List.length_map];exact bM (Nat.add_le_add len2 n5) (by decide)) fun q7 m7 l7 k7 g7=>?_
   have h7:=h6.le l7
   have lm:m.length <= m2.length:=M1.1
   have le56:=M6.1
   have le45:=l5.1
   rw [Hd.ext_ext,Hd.ext_ext] at h7
   rw [Hd.ext_ext,Hd.ext_ext] at h6
   rw [<- List.append_assoc] at h6 h7
   have le2:=Nat.le_trans lm le23
   have le3:=Nat.le_trans le2 le34
   refine ⟨q7,l3++l4++l6,rfl,?_,Nat.le_trans (Nat.le_trans le3 le45) (Nat.le_trans le56 g7),h6.out g7,h7,?_,fun y hy=>?_⟩
   ·rw [k7,List.map_append,List.map_append]
   ·exact (M1.trans M3).trans ((M4.trans l5.mod).trans (Mod.trans M6 l7.mod))
   ·rcases List.mem_append.mp hy with hy | hy
    ·rcases List.mem_append.mp hy with hy | hy
     ·exact Nat.le_trans lm (y3 y hy)
     ·exact Nat.le_trans le2 (y4 y hy)
    ·exact Nat.le_trans (Nat.le_trans le3 le45) (y6 y hy)
theorem cV2 (H:HF S N) (n:Nat) (r:Str) (h:Ho m N.C D s) (hr:bP7 (.str r)=true) (hrl:r.length <= 64) (h1:1 <= s.cnt) (h2:s.cnt <= 12) (hl:s.sz+8 < lid):Wp (run S (n+7) (N.ki+1) [.ref D.p,.str r]) m (Tells m N.C D (s.call r)) nox:=by
 rcases H.gL with ⟨y_,gL⟩
 rcases H.gS with ⟨y_,gS⟩
 rcases H.cls with ⟨d,hd,hx,hi,hm⟩
 have er:=bC6 H.R gL gS (n+5) (m:=m) hr
 refine bN H.call rfl (bY (eO (bD (bO rfl er))) ?_)
 show Wp _ m _ _
 refine aW (aE (aY4 (aP rfl (aP (aO rfl h.inst rfl) (aP rfl (aP (aO rfl h.inst rfl) rfl))))) ?_)
 refine aA6 (aE (aZ (aO rfl h.inst rfl) (aO rfl h.inst rfl) rfl) (aC rfl ⟨D.p,N.C,_,rfl,h.inst,?_⟩))
 have hb:=h.setP (s.onw+s.cnt)
 show Wp _ (m.set D.p (.inst N.C (cW4 D { s with onw:=s.onw+s.cnt }))) _ _
 have M1:Mod D.foot m (m.set D.p (.inst N.C (cW4 D { s with onw:=s.onw+s.cnt }))):=Mod.set (by simp [Hd.foot])
 generalize hm2:m.set D.p (.inst N.C (cW4 D { s with onw:=s.onw+s.cnt }))=m2 at hb M1 ⊢
 refine bG (aG7 (bF (aF (aC rfl (aG (aM fun q0 m0 l0 k0 g0=>?_))))))
 have h0:=hb.le l0
 refine cG (aC rfl ⟨D.p,N.C,_,d,N.ki+2,rfl,h0.inst,hd,rfl,hm 1 (by decide),aC rfl (dS (bT5 H n ⟨cK,s.onw,r,s.own⟩ h0 h1 h2 hl) fun m3 q1 l3 k3 g3 o3 h3 M3 y3=>?_)⟩)
 have o0:q0∉D.all:=hb.out g0
 have k03:=M3.has k0 (aB0 o0)
 have n5:(Hs.hear { s with onw:=s.onw+s.cnt } ⟨cK,s.onw,r,s.own⟩).2.length <= s.cnt.toNat+3:=(bX { s with onw:=s.onw+s.cnt } ⟨cK,s.onw,r,s.own⟩).2.2.2.2
 refine aR0 k03 k3 (by rw [List.length_map];exact bM (Nat.add_le_add (Nat.le_refl 1) (Nat.le_trans n5 (Nat.add_le_add_right (bS h2) 3))) (by decide)) fun q7 m7 l7 k7 g7=>?_
 have lm:=M1.1
 have lm2:=l0.1
 have lm3:=M3.1
 refine ⟨q7,l3,rfl,k7,Nat.le_trans (Nat.le_trans lm lm2) (Nat.le_trans lm3 g7),h3.out g7,h3.le l7,?_,fun y hy=>Nat.le_trans (Nat.le_trans lm lm2) (y3 y hy)⟩
 exact (M1.trans l0.mod).trans (M3.trans l7.mod)
end
end Mini
namespace Mini
open PySem
section
variable {S:Sig} {N:HN} {m:MH} {D:Hd} {s:Hs}
theorem bT7 {p C:Nat} {fs:List (Nat×V)} (h:m[p]?=some (.inst C fs)) (fs':List (Nat×V)) (o:MObj) :
  ∃ m',(m++[o]).set p (.inst C fs')=m' /\ m'[p]?=some (.inst C fs') /\ m'[m.length]?=some o /\ (∀ q x,q≠p->m[q]?=some x->m'[q]?=some x) /\ m'.length=m.length+1 /\ Mod [p] m m':=by
 have hlt:=aS h
 refine ⟨_,rfl,aV ((Le.app _ _).has h),?_,fun q x hq k=>?_,by simp,(Le.app _ _).mod.trans (Mod.set (.head _))⟩
 ·rw [List.getElem?_set_ne (by lia)];exact cP
 ·exact aN (fun e=>hq e.symm) ((Le.app _ _).has k)
noncomputable def Hs.new (c o:Int):Hs:=⟨c,o,o,[],[],[],[]⟩
theorem nd7 {p n:Nat} (h:p < n):[p,n,n+1,n+2,n+3,n+4,n+5].Nodup:=by
 show (p::List.range' n 6).Nodup
 exact List.nodup_cons.mpr ⟨fun q=>absurd (List.mem_range'_1.mp q).1 (Nat.not_le.mpr h),List.nodup_range'⟩
theorem mem7 {p n y:Nat} (hy:y∈[p,n,n+1,n+2,n+3,n+4,n+5]):y=p \/ n <= y:=by
 have hy:y∈p::List.range' n 6:=hy
 rcases List.mem_cons.mp hy with e | e
 ·exact .inl e
 ·exact .inr (List.mem_range'_1.mp e).1
theorem cY {F:Fns} {r:Lo} {E:Nat->MH->Prop} {Q:Fl×Lo->MH->Prop} {ss:List CS} {p C k n:Nat} {fs:List (Nat×V)} {o:MObj} {e:CE} (he:ev S F e r m=.ok (.ref m.length) (m++[o])) (hv:ev S F (.var 0) r (m++[o])=.ok (.ref p) (m++[o])) (h:m[p]?=some (.inst C fs)) (hn:m.length=n)
  (q:∀ m',m'[p]?=some (.inst C (eH k (.ref n) fs))->m'[n]?=some o->(∀ q x,q≠p->m[q]?=some x->m'[q]?=some x)->m'.length=n+1->Mod [p] m m'->Wp (exs S F ss r) m' Q E):Wp (exs S F (.asg (.attr (.var 0) k) e::ss) r) m Q E:=by
 subst hn
 rcases bT7 h (eH k (.ref m.length) fs) o with ⟨a1,e1,i1,n1,f1,L1,M1⟩
 refine aA6 (aE he (aE hv ⟨p,C,fs,rfl,(Le.app _ _).has h,?_⟩))
 rw [e1]
 exact q a1 i1 n1 f1 L1 M1
theorem cS5 (H:HF S N) (n:Nat) {c o:Int} {p:Nat} (h1:1 <= c) (h2:c <= 12) (h3:0 <= o) (h4:o < c) (hp:m[p]?=some (.inst N.C [])):Wp (run S (n+3) N.ki [.ref p,.int c,.int o]) m (fun u m'=>u=.none /\ ∃ D,D.p=p /\ Ho m' N.C D (Hs.new c o) /\ Mod [p] m m' /\ ∀ y∈D.all,y=p \/ m.length <= y) nox:=by
 rcases H.gM with ⟨y_,gM⟩
 have en:run S (n+2) N.kN [.int c] m=.ok .none m:=by
  exact aB1 H.N_ H.W gM n h1 h2
 have hlt:=aS hp
 refine bN H.I rfl (fD (aE (bO rfl en) (bY (t:=false) (aA8 (bT (x:=false) (eO (bD (bO rfl (b8 H.W (n+1) o)))) (bT (x:=false) (bQ1 rfl rfl h3 h4) fN))) ?_)))
 clear en h1 h2 h3 h4
 refine aA6 (aC rfl (aC rfl ⟨p,N.C,[],rfl,hp,?_⟩))
 have k1:=aV (o':=.inst N.C (eH 8 (.int c) [])) hp
 refine aA6 (aC rfl (aC rfl ⟨p,N.C,_,rfl,k1,?_⟩))
 have k2:=aV (o':=.inst N.C (eH 9 (.int o) (eH 8 (.int c) []))) k1
 refine aA6 (aC rfl (aC rfl ⟨p,N.C,_,rfl,k2,?_⟩))
 have k3:=aV (o':=.inst N.C (eH 10 (.int o) (eH 9 (.int o) (eH 8 (.int c) [])))) k2
 have M0:Mod [p] m (((m.set p (.inst N.C (eH 8 (.int c) []))).set p (.inst N.C (eH 9 (.int o) (eH 8 (.int c) [])))).set p (.inst N.C (eH 10 (.int o) (eH 9 (.int o) (eH 8 (.int c) []))))):=
  ((Mod.set (.head _)).trans (Mod.set (.head _))).trans (Mod.set (.head _))
 have L0:(((m.set p (.inst N.C (eH 8 (.int c) []))).set p (.inst N.C (eH 9 (.int o) (eH 8 (.int c) [])))).set p (.inst N.C (eH 10 (.int o) (eH 9 (.int o) (eH 8 (.int c) []))))).length=m.length:=by simp
 clear k1 k2
 generalize ((m.set p (.inst N.C (eH 8 (.int c) []))).set p (.inst N.C (eH 9 (.int o) (eH 8 (.int c) [])))).set p (.inst N.C (eH 10 (.int o) (eH 9 (.int o) (eH 8 (.int c) []))))=a0 at k3 M0 L0 ⊢
 refine cY rfl rfl k3 L0 fun a1 i1 n1 f1 L1 M1=>?_
 refine cY rfl rfl i1 L1 fun a2 i2 n2 f2 L2 M2=>?_
 refine cY rfl rfl i2 L2 fun a3 i3 n3 f3 L3 M3=>?_
 refine cY rfl rfl i3 L3 fun a4 i4 n4 f4 L4 M4=>?_
 refine cY rfl rfl i4 L4 fun a5 i5 n5 f5 L5 M5=>?_
 refine cY rfl rfl i5 L5 fun a6 i6 n6 f6 L6 M6=>?_
 have g:∀ k,m.length+k≠p:=fun k e=>absurd hlt (by rw [<- e];exact Nat.not_lt.mpr (Nat.le_add_right _ _))
 refine cU ⟨rfl,⟨p,m.length,m.length+1,m.length+2,m.length+3,m.length+4,m.length+5,[]⟩,rfl,⟨i6,⟨0,?_⟩,⟨0,?_⟩,⟨0,?_⟩,⟨0,?_⟩,?_,⟨0,n6⟩,fun i x e=>?_,rfl,nd7 hlt⟩,?_,fun y hy=>mem7 hy⟩
 ·exact f6 _ _ (g 0) (f5 _ _ (g 0) (f4 _ _ (g 0) (f3 _ _ (g 0) (f2 _ _ (g 0) n1))))
 ·exact f6 _ _ (g 1) (f5 _ _ (g 1) (f4 _ _ (g 1) (f3 _ _ (g 1) n2)))
 ·exact f6 _ _ (g 2) (f5 _ _ (g 2) (f4 _ _ (g 2) n3))
 ·exact f6 _ _ (g 3) (f5 _ _ (g 3) n4)
 ·exact f6 _ _ (g 4) n5
 ·cases e
 ·exact ((M0.trans M1).trans (M2.trans M3)).trans ((M4.trans M5).trans M6)
theorem bV5 (H:HF S N) (n:Nat) (h:Ho m N.C D s):run S (n+1) (N.ki+8) [.ref D.p] m=.ok (.ref m.length) (m++[.list (bI5 s.named)]):=by
 rw [cH8 H.caught rfl]
 show Res.bind (Res.bind (Res.bind (Res.bind (Res.bind (ev S (run S n) (.attr (.var 0) 15) [some (.ref D.p)] m) _) _) _) _) _=_
 rw [aO (k:=15) (v:=.ref D.e) rfl h.inst rfl]
 show Res.bind (Res.bind (Res.bind (biV .list [.ref D.e] m) _) _) _=_
 have:biV .list [.ref D.e] m=.ok (.ref m.length) (m++[.list (bI5 s.named)]):=by
  unfold biV;dsimp only;rw [h.na];rfl
 rw [this];rfl
noncomputable def dF (l:List (Int×Str×List Wo)) (k:Int):Str:=match l.find? (fun x=>x.1 == k) with
 | some x=>x.2.1
 | none=>Str.empty
noncomputable def ledD (l:List (Int×Str×List Wo)):List (Ky×V):=(sortI (l.map (·.1))).foldl (fun d i=>put (.int i) (.str (dF l i)) d) []
theorem aZ3 {α:Type} (g:α->Int) (f:α->V):∀ l:List α,fI (tD g f l)=some (l.map g)
 | []=>rfl
 | a::l=>by
  show (fI (tD g f l)).map _=_
  rw [aZ3 g f l];rfl
theorem aO8 {i j:Int}:∀ {l:List Int},j∈insI i l↔j=i \/ j∈l
 | []=>by simp [insI]
 | a::l=>by
  unfold insI
  split
  ·simp
  ·rw [List.mem_cons,aO8,List.mem_cons];exact ⟨fun h=>by rcases h with h | h | h <;> simp [h],fun h=>by rcases h with h | h | h <;> simp [h]⟩
theorem mem_sortI {j:Int}:∀ {l:List Int},j∈sortI l↔j∈l
 | []=>Iff.rfl
 | a::l=>by
  show j∈insI a (sortI l)↔_
  rw [aO8,mem_sortI,List.mem_cons]
theorem bE5 (i:Int):∀ l:List Int,(insI i l).length=l.length+1
 | []=>rfl
 | a::l=>by
  unfold insI
  split
  ·rfl
  ·rw [List.length_cons,bE5,List.length_cons]
theorem aR7:∀ l:List Int,(sortI l).length=l.length
 | []=>rfl
 | a::l=>by
  show (insI a (sortI l)).length=_
  rw [bE5,aR7,List.length_cons]
theorem bI1 {k j:Int} {v:V} {d:List (Ky×V)} (h:aJ (.int k) d=true):aJ (.int k) (put (.int j) v d)=true:=by
 induction d with
 | nil=>rfl
 | cons a d ih=>
  rcases a with ⟨b,x⟩
  unfold aJ at h ih ⊢
  rw [List.all_cons,Bool.and_eq_true] at h
  show (if b=Ky.int j then (b,v)::d else (b,x)::put (.int j) v d).all _=true
  split
  ·rw [List.all_cons,h.1,h.2];rfl
  ·rw [List.all_cons,ih h.2,h.1];rfl
theorem bQ3 {k:Ky} {v:V}:∀ d:List (Ky×V),(put k v d).length <= d.length+1
 | []=>Nat.le_refl _
 | (b,x)::d=>by
  show (if b=k then (b,v)::d else (b,x)::put k v d).length <= _
  split
  ·exact Nat.le_succ _
  ·exact Nat.succ_le_succ (bQ3 (k:=k) (v:=v) d)
theorem cR4 {x:Mn V} {kvs:List (Ky×V)} {Q:V->MH->Prop} {E:Nat->MH->Prop} (h:Wp x m (fun u m'=>∃ q e,u=.ref q /\ m'[q]?=some (.dict kvs e) /\ m.length <= q /\ Le m m') nox) (k:∀ m' q e,m'[q]?=some (.dict kvs e)->m.length <= q->Le m m'->Q (.ref q) m'):Wp x m Q E:=
 aU h fun y_ m' ⟨q,e,e0,k1,k2,k3⟩=>e0▸k m' q e k1 k2 k3
inductive LInv (C:Nat) (D:Hd) (s:Hs) (m m0:MH) (zs:List Int) (r:Lo) (m':MH):Prop
 | mk (a:List Int) (e:Nat) (x:Option V) (er:r=[some (.ref D.p),some (.ref m.length),x]) (e1:sortI (s.rows.map (·.1))=a++zs) (ka:m'[m.length]?=some (.dict (a.foldl (fun d i=>put (.int i) (.str (dF s.rows i)) d) []) e)) (kb:m'[m0.length]?=some (.list ((sortI (s.rows.map (·.1))).map V.int))) (hh:Ho m' C D s) (ll:Le m m') (hq:aJ (.int 0) (a.foldl (fun d i=>put (.int i) (.str (dF s.rows i)) d) [])=true) (hz:(a.foldl (fun d i=>put (.int i) (.str (dF s.rows i)) d) []).length <= a.length)
theorem bS4 (H:HF S N) (n:Nat) (h:Ho m N.C D s) (hl:s.rows.length < 64):Wp (run S (n+1) (N.ki+6) [.ref D.p]) m (fun u m'=>∃ q e,u=.ref q /\ m'[q]?=some (.dict (ledD s.rows) e) /\ m.length <= q /\ Le m m') nox:=by
 refine bN H.ledger rfl (aW (aE (a:=.ref m.length) (m':=m++[.dict [] 0]) rfl ?_))
 have l0:Le m (m++[.dict [] 0]):=.app _ _
 have k0:(m++[.dict [] 0])[m.length]?=some (.dict [] 0):=cP
 generalize m++[MObj.dict [] 0]=m0 at l0 k0 ⊢
 have h0:=h.le l0
 rcases h0.ro with ⟨ec,kc⟩
 have hs:biV .sorted [.ref D.c] m0=.ok (.ref m0.length) (m0++[.list ((sortI (s.rows.map (·.1))).map V.int)]):=by
  unfold biV;dsimp only;rw [kc];dsimp only
  unfold aL3
  rw [aZ3];dsimp only
  rw [if_pos (.inl (by rw [List.length_map];exact hl))];rfl
 have k1:(m0++[MObj.list ((sortI (s.rows.map (·.1))).map V.int)])[m0.length]?=some (.list ((sortI (s.rows.map (·.1))).map V.int)):=cP
 have l1:Le m0 (m0++[.list ((sortI (s.rows.map (·.1))).map V.int)]):=.app _ _
 have g1:m0.length < (m0++[MObj.list ((sortI (s.rows.map (·.1))).map V.int)]).length:=by simp
 generalize (m0++[MObj.list ((sortI (s.rows.map (·.1))).map V.int)])=m1 at k1 l1 g1 hs
 have lt0:=aS k0
 have ht:∀ i∈sortI (s.rows.map (·.1)),bP (.int i) (aL3 s.rows)=some (.str (dF s.rows i)):=fun i hi=>by
  have hi:=mem_sortI.mp hi
  rcases List.mem_map.mp hi with ⟨x,hx,e⟩
  unfold aL3
  rw [eS]
  unfold dF
  cases q:s.rows.find? fun x=>x.1 == i with
  | none=>exact absurd (List.find?_eq_none.mp q x hx) (by simp [e])
  | some y=>rfl
 refine aL2 (sortI (s.rows.map (·.1))) V.int (LInv N.C D s m m0) (aF (aS4 (aF (aE (aO rfl h0.inst rfl) (aG (aE hs (aG (eI k1 ⟨rfl,⟨[],0,none,rfl,rfl,l1.has k0,k1,h0.le l1,l0.trans l1,rfl,Nat.le_refl _⟩,?_,?_,?_⟩))))))))
 ·rintro zs r m' ⟨a,e,x,rfl,e1,ka,kb,hh,ll,hq,hz⟩
  exact cV kb
 ·rintro z zs r m' ⟨a,e,x,rfl,e1,ka,kb,hh,ll,hq,hz⟩
  rcases hh.ro with ⟨e2,k2⟩
  have hm:z∈sortI (s.rows.map (·.1)):=by rw [e1];simp
  have al:a.length < 64:=by
   have:=congrArg List.length e1
   rw [aR7,List.length_map,List.length_append] at this
   exact Nat.lt_of_le_of_lt (Nat.le_trans (Nat.le_add_right _ _) (Nat.le_of_eq this.symm)) hl
  have np:m.length∉D.all:=h.out (Nat.le_refl _)
  refine aC rfl (eC (aE (eF (aO rfl hh.inst rfl) rfl (d7 k2 rfl (bB _ _ _ _) (ht z hm))) (aC rfl (aC rfl (eB ka rfl hq (Nat.lt_of_le_of_lt hz (Nat.lt_of_lt_of_le al (by decide))) (cU ?_))))))
  refine ⟨a++[z],e+1,some (.int z),rfl,by rw [e1,List.append_assoc];rfl,?_,aN (Nat.ne_of_lt lt0) kb,hh.mod (T:=[m.length]) (Mod.set (.head _)) fun y hy hy'=>?_,?_,?_,?_⟩
  ·rw [List.foldl_append];exact aV ka
  ·rw [List.mem_singleton.mp hy'] at hy;exact np hy
  ·exact ll.set (Nat.le_refl _) _
  ·rw [List.foldl_append];exact bI1 hq
  ·rw [List.foldl_append,List.length_append]
   have:=bQ3 (k:=.int z) (v:=.str (dF s.rows z)) (a.foldl (fun d i=>put (.int i) (.str (dF s.rows i)) d) [])
   exact Nat.le_trans this (Nat.succ_le_succ hz)
 ·rintro r m' ⟨a,e,x,rfl,e1,ka,kb,hh,ll,hq,hz⟩
  rw [List.append_nil] at e1
  refine bG (aC rfl ⟨m.length,e,rfl,?_,Nat.le_refl _,ll⟩)
  unfold ledD;rw [e1];exact ka
end
end Mini
namespace Mini
open PySem
noncomputable def Rf (v:V):Prop:=∃ d,(∀ m,rd 11 m v=some d) /\ PyData.eqv d d=true
theorem dA0 (i:Int):Rf (.int i):=⟨.int i,fun y_=>rfl,beq_self_eq_true i⟩
theorem cI4:∀ {xs:List V},(∀ x∈xs,Rf x)->∃ ds,(∀ m,fR (rd 11 m) xs=some ds) /\ PyData.eqvAll ds ds=true
 | [],_=>⟨[],fun y_=>rfl,rfl⟩
 | x::xs,h=>by
  rcases h x (.head _) with ⟨d,h1,h2⟩
  rcases cI4 fun y hy=>h y (.tail _ hy) with ⟨ds,h3,h4⟩
  exact ⟨d::ds,fun m=>bH0 (h1 m) (h3 m),by rw [bF0,h2,h4];rfl⟩
section
variable {m:MH} {p q:Nat}
theorem aY2 {xs:List V} (hp:m[p]?=some (.list xs)):rd eY m (.ref p)=(fR (rd 11 m) xs).map PyData.list:=by
 show (match m[p]? with | some (.list xs)=>(fR (rd 11 m) xs).map PyData.list | _=>none)=_
 rw [hp]
theorem eq_rf {xs:List V} (hx:∀ x∈xs,Rf x) (hp:m[p]?=some (.list xs)) (hq:m[q]?=some (.list xs)):eqV (.ref p) (.ref q) m=.ok true m:=by
 rcases cI4 hx with ⟨ds,h1,h2⟩
 have r1:∀ {p:Nat},m[p]?=some (.list xs)->rd eY m (.ref p)=some (.list ds):=fun hp=>by rw [aY2 hp,h1];rfl
 unfold eqV
 rw [r1 hp,r1 hq]
 show Res.ok (PyData.eqvAll ds ds) m=_
 rw [h2]
theorem bF5 {ls:List (Ky×V)}:∀ {ks:List (Ky×V)},(∀ x∈ks,∃ t,x.2=.str t /\ bP x.1 ls=some (.str t))->aD6 m ls ks=some true
 | [],_=>rfl
 | (k,v)::r,h=>by
  rcases h _ (.head _) with ⟨t,e,hl⟩
  have e:v=.str t:=e
  subst e
  show (match bP k ls with | none=>some false | some u=>(match rd eY m (.str t) with | some x=>(match rd eY m u with | some y=>(match aD6 m ls r with | some b=>some (PyData.eqv x y&&b) | none=>none) | none=>none) | none=>none))=_
  rw [hl,bF5 fun x hx=>h x (.tail _ hx)]
  show some (t == t&&true)=_
  rw [beq_self_eq_true];rfl
theorem cF3 {ks ls:List (Ky×V)} {e e':Nat} (hp:m[p]?=some (.dict ks e)) (hq:m[q]?=some (.dict ls e')) (hne:p≠q) (hl:ks.length=ls.length) (h1:aJ5 ks=true) (h2:aJ5 ls=true) (h:∀ x∈ks,∃ t,x.2=.str t /\ bP x.1 ls=some (.str t)):eqV (.ref p) (.ref q) m=.ok true m:=by
 have r1:rd eY m (.ref p)=none:=by
  show (match m[p]? with | some (.list xs)=>(fR (rd 11 m) xs).map PyData.list | _=>none)=_
  rw [hp]
 have en:eqN m (.ref p) (.ref q)=some true:=by
  show (match m[p]? with | some (.dict ks _)=>(match m[q]? with | some (.dict ls _)=>(if p≠q /\ ks.length=ls.length /\ (aJ5 ks&&aJ5 ls)=true then aD6 m ls ks else none) | _=>none) | _=>none)=_
  rw [hp,hq]
  show (if p≠q /\ ks.length=ls.length /\ (aJ5 ks&&aJ5 ls)=true then aD6 m ls ks else none)=_
  rw [if_pos ⟨hne,hl,by rw [h1,h2];rfl⟩]
  exact bF5 h
 unfold eqV
 rw [r1]
 show (match eqN m (.ref p) (.ref q) with | some c=>Res.ok c m | Option.none=>.bad)=_
 rw [en]
theorem aO7 {a b:V} (h:eqV a b m=.ok true m):aI9 .NotEq a b m=.ok false m:=by
 show (eqV a b m).bind _=_
 rw [h];rfl
end
theorem ins_mem {i j:Int} {l:List Int}:j∈insI i l↔j=i \/ j∈l:=aO8
theorem cJ1 {i:Int}:∀ {l:List Int},l.Pairwise (· < ·)->i∉l->(insI i l).Pairwise (· < ·)
 | [],_,_=>List.pairwise_singleton _ _
 | k::l,h,hi=>by
  show (if i <= k then i::k::l else k::insI i l).Pairwise (· < ·)
  have hk:i≠k:=fun e=>hi (e▸.head _)
  have h':=List.pairwise_cons.mp h
  by_cases z:i <= k
  ·rw [if_pos z]
   have z:i < k:=Int.lt_iff_le_and_ne.mpr ⟨z,hk⟩
   exact List.pairwise_cons.mpr ⟨List.forall_mem_cons.mpr ⟨z,fun x hx=>Int.lt_trans z (h'.1 x hx)⟩,h⟩
  ·rw [if_neg z]
   refine List.pairwise_cons.mpr ⟨fun x hx=>?_,cJ1 h'.2 fun q=>hi (.tail _ q)⟩
   rcases ins_mem.mp hx with e | e
   ·rw [e];exact Int.not_le.mp z
   ·exact h'.1 x e
theorem aN8:∀ {l:List Int},l.Nodup->(sortI l).Pairwise (· < ·)
 | [],_=>List.Pairwise.nil
 | i::l,h=>by
  rw [List.nodup_cons] at h
  exact cJ1 (aN8 h.2) fun q=>h.1 (mem_sortI.mp q)
theorem aR5:∀ {l:List Int},l.Pairwise (· < ·)->sortI l=l
 | [],_=>rfl
 | i::l,h=>by
  have h':=List.pairwise_cons.mp h
  show insI i (sortI l)=_
  rw [aR5 h'.2]
  cases l with
  | nil=>rfl
  | cons j l=>exact if_pos (Int.le_of_lt (h'.1 j (.head _)))
theorem cP2 {k:Int} {v:V}:∀ {is:List Int} {f:Int->V},k∉is->put (.int k) v (tD id f is)=tD id f is++[(.int k,v)]:=fun {is f} h=>by
 rw [aA9]
 rw [List.any_eq_false]
 intro x hx e
 exact h (eq_of_beq e▸hx)
noncomputable def aX2 (l:List (Int×Str×List Wo)):List (Ky×V):=tD id (fun i=>.str (dF l i)) (sortI (l.map (·.1)))
theorem dB7 {l:List (Int×Str×List Wo)} (nd:(l.map (·.1)).Nodup):ledD l=aX2 l:=by
 have key:∀ (is js:List Int),(js++is).Nodup->is.foldl (fun d i=>put (.int i) (.str (dF l i)) d) (tD id (fun i=>.str (dF l i)) js)=tD id (fun i=>.str (dF l i)) (js++is):=by
  intro is
  induction is with
  | nil=>intro js _;rw [List.append_nil];rfl
  | cons i is ih=>
   intro js h
   have hi:i∉js:=fun c=>(List.nodup_append.mp h).2.2 i c i (.head _) rfl
   rw [List.foldl_cons,cP2 hi]
   have:=ih (js++[i]) (by rw [List.append_assoc];exact h)
   rw [List.append_assoc] at this
   rw [show tD id (fun i=>V.str (dF l i)) js++[(Ky.int i,V.str (dF l i))]=tD id (fun i=>.str (dF l i)) (js++[i]) by unfold tD;rw [List.map_append];rfl]
   exact this
 exact key _ [] ((aN8 nd).imp fun h=>Int.ne_of_lt h)
theorem bT1 {α:Type} (g:α->Int) (f:α->V) (l:List α):aJ5 (tD g f l)=true:=by
 unfold aJ5 tD
 rw [List.all_map,List.all_eq_true]
 intro _ _;rfl
theorem cC7 {l:List (Int×Str×List Wo)}:∀ x∈aX2 l,∃ t,x.2=.str t /\ bP x.1 (aX2 l)=some (.str t):=fun x hx=>by
 rcases List.mem_map.mp hx with ⟨i,hi,rfl⟩
 refine ⟨dF l i,rfl,?_⟩
 have hs:((sortI (l.map (·.1))).find? fun x=>id x == i).isSome=true:=by rw [List.find?_isSome];exact ⟨i,hi,beq_self_eq_true i⟩
 rcases Option.isSome_iff_exists.mp hs with ⟨y,hy⟩
 have e:y=i:=eq_of_beq (List.find?_some (p:=fun x=>id x == i) hy)
 unfold aX2
 rw [show (Ky.int (id i),V.str (dF l i)).1=Ky.int i from rfl,eS,hy,e];rfl
end Mini
namespace Mini
open PySem
structure Lr where
 s:Int
 r:Int
 w:Wo
noncomputable def Lr.v (l:Lr):V:=.tup [.int l.s,.int l.r,l.w.v]
noncomputable def aT7 (l:List (Int×Lr)):List (Ky×V):=tD (·.1) (fun x=>x.2.v) l
structure Tn where
 cnt:Int
 hs:List Hs
 given:Int
 lets:List (Int×Lr)
 said:List Wo
noncomputable def Tn.send (t:Tn) (l:Lr):Tn:={ t with given:=t.given+1,lets:=t.lets++[(t.given,l)] }
noncomputable def Tn.say (t:Tn) (w:Wo):Tn:={ t with said:=aK4 w t.said }
noncomputable def Tn.to (h:Int) (w:Wo) (t:Tn) (j:Nat):Tn:=if (j:Int)=h then t else t.send ⟨h,j,w⟩
noncomputable def Tn.tell1 (h:Int) (t:Tn) (w:Wo):Tn:=(List.range t.cnt.toNat).foldl (Tn.to h w) (t.say w)
noncomputable def Tn.tell (t:Tn) (h:Int) (ws:List Wo):Tn:=ws.foldl (Tn.tell1 h) t
structure Tn.Lk (t:Tn) (b:Nat):Prop where
 lt:∀ x∈t.lets,x.1 < t.given
 ll:t.lets.length <= b
 sl:t.said.length <= b
theorem Tn.Lk.mono {t:Tn} {b c:Nat} (h:t.Lk b) (k:b <= c):t.Lk c:=⟨h.lt,Nat.le_trans h.ll k,Nat.le_trans h.sl k⟩
theorem Tn.Lk.send {t:Tn} {b:Nat} (h:t.Lk b) (l:Lr):(t.send l).Lk (b+1):=by
 refine ⟨fun x hx=>?_,?_,Nat.le_succ_of_le h.sl⟩
 ·rcases List.mem_append.mp hx with hx | hx
  ·exact Int.lt_trans (h.lt x hx) (Int.lt_succ _)
  ·rw [List.mem_singleton.mp hx];exact Int.lt_succ _
 ·show (t.lets++[_]).length <= _
  rw [List.length_append];exact Nat.succ_le_succ h.ll
theorem Tn.Lk.say {t:Tn} {b:Nat} (h:t.Lk b) (w:Wo):(t.say w).Lk (b+1):=⟨h.lt,Nat.le_succ_of_le h.ll,Nat.le_trans (bH1 w t.said) (Nat.succ_le_succ h.sl)⟩
theorem Tn.Lk.to {t:Tn} {b:Nat} (h:t.Lk b) (i:Int) (w:Wo) (j:Nat):(t.to i w j).Lk (b+1):=by
 unfold Tn.to
 split
 ·exact h.mono (Nat.le_succ _)
 ·exact h.send _
theorem Tn.Lk.tos {b:Nat} (i:Int) (w:Wo):∀ (l:List Nat) {t:Tn} {b:Nat},t.Lk b->(l.foldl (Tn.to i w) t).Lk (b+l.length)
 | [],_,_,h=>h
 | j::l,t,b,h=>by
  have:=Tn.Lk.tos (b:=0) i w l (h.to i w j)
  rw [List.length_cons,Nat.add_comm l.length,<- Nat.add_assoc];exact this
theorem cY6 (i:Int) (w:Wo) (t:Tn) (j:Nat):(t.to i w j).cnt=t.cnt /\ (t.to i w j).hs=t.hs /\ (t.to i w j).said=t.said:=by
 unfold Tn.to
 split <;> exact ⟨rfl,rfl,rfl⟩
theorem bN3 (i:Int) (w:Wo):∀ (l:List Nat) (t:Tn),(l.foldl (Tn.to i w) t).cnt=t.cnt /\ (l.foldl (Tn.to i w) t).hs=t.hs /\ (l.foldl (Tn.to i w) t).said=t.said
 | [],_=>⟨rfl,rfl,rfl⟩
 | j::l,t=>by
  have h:=bN3 i w l (t.to i w j)
  have k:=cY6 i w t j
  exact ⟨h.1.trans k.1,h.2.1.trans k.2.1,h.2.2.trans k.2.2⟩
theorem fT (i:Int) (w:Wo) (t:Tn):(t.tell1 i w).cnt=t.cnt /\ (t.tell1 i w).hs=t.hs /\ (t.tell1 i w).said=aK4 w t.said:=bN3 i w _ (t.say w)
theorem Tn.Lk.tell1 {t:Tn} {b:Nat} (h:t.Lk b) (i:Int) (w:Wo) (h2:t.cnt <= 12):(t.tell1 i w).Lk (b+13):=by
 have:=Tn.Lk.tos (b:=0) i w (List.range t.cnt.toNat) (h.say w)
 refine this.mono ?_
 rw [List.length_range,Nat.add_assoc]
 exact Nat.add_le_add_left (by rw [Nat.add_comm];exact Nat.succ_le_succ (bS h2)) b
theorem bE (i:Int):∀ (ws:List Wo) (t:Tn),(t.tell i ws).cnt=t.cnt /\ (t.tell i ws).hs=t.hs /\ (t.tell i ws).said=ws.foldl (fun l w=>aK4 w l) t.said
 | [],_=>⟨rfl,rfl,rfl⟩
 | w::l,t=>by
  have h:=bE i l (t.tell1 i w)
  have k:=fT i w t
  refine ⟨h.1.trans k.1,h.2.1.trans k.2.1,h.2.2.trans ?_⟩
  rw [k.2.2];rfl
theorem Tn.Lk.tell (i:Int):∀ (ws:List Wo) {t:Tn} {b:Nat},t.Lk b->t.cnt <= 12->(t.tell i ws).Lk (b+13 * ws.length)
 | [],_,_,h,_=>h
 | w::l,t,b,h,h2=>by
  have:=Tn.Lk.tell i l (h.tell1 i w h2) (by rw [(fT i w t).1];exact h2)
  rw [List.length_cons,Nat.mul_succ,Nat.add_comm (13 * l.length),<- Nat.add_assoc];exact this
structure Td where
 p:Nat
 h:Nat
 o:Nat
 l:Nat
 s:Nat
 ds:List Hd
noncomputable def Td.foot (T:Td):List Nat:=[T.p,T.h,T.o,T.l,T.s]
noncomputable def Td.all (T:Td):List Nat:=T.foot++T.ds.flatMap Hd.all
theorem Td.m0 {T:Td}:T.p∈T.foot:=.head _
theorem Td.m1 {T:Td}:T.h∈T.foot:=.tail _ (.head _)
theorem Td.m2 {T:Td}:T.o∈T.foot:=.tail _ (.tail _ (.head _))
theorem Td.m3 {T:Td}:T.l∈T.foot:=.tail _ (.tail _ (.tail _ (.head _)))
theorem Td.m4 {T:Td}:T.s∈T.foot:=.tail _ (.tail _ (.tail _ (.tail _ (.head _))))
theorem Td.ne {T:Td} (h:T.foot.Nodup):T.o≠T.l /\ T.o≠T.s /\ T.l≠T.s:=⟨cB6 h (i:=2) (j:=3) rfl rfl (by decide),cB6 h (i:=2) (j:=4) rfl rfl (by decide),cB6 h (i:=3) (j:=4) rfl rfl (by decide)⟩
theorem Td.out {T:Td} (h:T.foot.Nodup):T.p∉[T.o,T.l,T.s] /\ T.h∉[T.o,T.l,T.s]:=by
 have a:=List.nodup_cons.mp h
 have b:=List.nodup_cons.mp a.2
 exact ⟨fun c=>a.1 (.tail _ c),b.1⟩
theorem Td.mem {T:Td} {x:Nat}:x∈T.all↔x∈T.foot \/ ∃ D∈T.ds,x∈D.all:=by
 unfold Td.all;rw [List.mem_append,List.mem_flatMap]
noncomputable def cD7 (t:Tn) (T:Td):List (Ky×V):=tD (·.1) (fun x:Int×Nat=>V.ref x.2) ((t.hs.map (·.own)).zip (T.ds.map (·.p)))
structure To (m:MH) (N:HN) (T:Td) (t:Tn):Prop where
 inst:m[T.p]?=some (.inst (N.C+2) [(8,.int t.cnt),(26,.ref T.h),(27,.ref T.o),(28,.ref T.s)])
 hd:∃ e,m[T.h]?=some (.dict (cD7 t T) e)
 po:m[T.o]?=some (.inst (N.C+1) [(20,.int t.given),(21,.ref T.l)])
 le:∃ e,m[T.l]?=some (.dict (aT7 t.lets) e)
 sa:∃ e,m[T.s]?=some (.dict (kD t.said) e)
 hs:∀ (i:Nat) (D:Hd),T.ds[i]?=some D->∃ s,t.hs[i]?=some s /\ Ho m N.C D s
 len:T.ds.length=t.hs.length
 nd:T.foot.Nodup
 df:∀ D∈T.ds,∀ x∈D.all,x∉T.foot
 dd:∀ (i j:Nat) (D D':Hd),T.ds[i]?=some D->T.ds[j]?=some D'->i≠j->∀ x∈D.all,x∉D'.all
section
variable {S:Sig} {N:HN} {m m':MH} {T:Td} {t:Tn}
theorem To.mod {X:List Nat} (h:To m N T t) (l:Mod X m m') (hx:∀ x∈T.all,x∉X):To m' N T t:=by
 have F:∀ x∈T.foot,x∉X:=fun x q=>hx x (Td.mem.mpr (.inl q))
 refine ⟨l.has h.inst (F _ Td.m0),h.hd.imp fun e k=>l.has k (F _ Td.m1),l.has h.po (F _ Td.m2),h.le.imp fun e k=>l.has k (F _ Td.m3),h.sa.imp fun e k=>l.has k (F _ Td.m4),fun i D e=>?_,h.len,h.nd,h.df,h.dd⟩
 rcases h.hs i D e with ⟨s,k1,k2⟩
 exact ⟨s,k1,k2.mod l fun x q=>hx x (Td.mem.mpr (.inr ⟨D,List.mem_of_getElem? e,q⟩))⟩
theorem To.up (h:To m N T t) (l:Le m m'):To m' N T t:=h.mod (X:=[]) l.mod fun y_ y_ q=>nomatch q
theorem To.lt (h:To m N T t):∀ x∈T.all,x < m.length:=by
 intro x hx
 rcases Td.mem.mp hx with hx | ⟨D,hD,hx⟩
 ·rcases h.hd with ⟨y_,k1⟩
  rcases h.le with ⟨y_,k2⟩
  rcases h.sa with ⟨y_,k3⟩
  simp only [Td.foot,List.mem_cons,List.not_mem_nil,or_false] at hx
  rcases hx with rfl | rfl | rfl | rfl | rfl
  ·exact aS h.inst
  ·exact aS k1
  ·exact aS h.po
  ·exact aS k2
  ·exact aS k3
 ·rcases List.getElem?_of_mem hD with ⟨i,e⟩
  rcases h.hs i D e with ⟨s,y_,k⟩
  exact k.lt x hx
theorem To.out (h:To m N T t) {q:Nat} (hq:m.length <= q):q∉T.all:=fun c=>Nat.not_lt.mpr hq (h.lt q c)
theorem To.chg (h:To m N T t) (M:Mod [T.o,T.l,T.s] m m') {g:Int} {ls:List (Int×Lr)} {sd:List Wo} (po:m'[T.o]?=some (.inst (N.C+1) [(20,.int g),(21,.ref T.l)])) (le:∃ e,m'[T.l]?=some (.dict (aT7 ls) e)) (sa:∃ e,m'[T.s]?=some (.dict (kD sd) e)):To m' N T { t with given:=g,lets:=ls,said:=sd }:=by
 have hp:=Td.out h.nd
 refine ⟨M.has h.inst hp.1,h.hd.imp fun e k=>M.has k hp.2,po,le,sa,fun i D e=>?_,h.len,h.nd,h.df,h.dd⟩
 rcases h.hs i D e with ⟨s,k1,k2⟩
 exact ⟨s,k1,k2.mod M fun x q c=>h.df D (List.mem_of_getElem? e) x q (.tail _ (.tail _ c))⟩
theorem aA1 {α:Type} {l:List α} {i:Nat} {x:α} (h:l[i]?=some x):l.set i x=l:=by
 refine List.ext_getElem? fun j=>?_
 by_cases q:i=j
 ·subst q;rw [List.getElem?_set_self (List.getElem?_eq_some_iff.mp h).1,h]
 ·rw [List.getElem?_set_ne q]
set_option tactic.hygienic true in
theorem To.hou (h:To m N T t) {i:Nat} {D:Hd} {s s':Hs} {l:List Nat} (hi:T.ds[i]?=some D) (hs:t.hs[i]?=some s) (ho:s'.own=s.own) (M:Mod D.foot m m') (H:Ho m' N.C (D.ext l) s') (hl:∀ y∈l,m.length <= y):To m' N { T with ds:=T.ds.set i (D.ext l) } { t with hs:=t.hs.set i s' }:=by
 have hD:=List.mem_of_getElem? hi
 have lt:=(List.getElem?_eq_some_iff.mp hi).1
 have F:∀ x∈T.foot,x∉D.foot:=fun x q c=>h.df D hD x (List.mem_append_left _ c) q
 have ext:∀ x,x∈(D.ext l).all->x∈D.all \/ m.length <= x:=fun x q=>by
  rcases List.mem_append.mp q with q | q
  ·exact .inl (List.mem_append_left _ q)
  ·rcases List.mem_append.mp q with q | q
   ·exact .inl (List.mem_append_right _ q)
   ·exact .inr (hl x q)
 have get:∀ (j:Nat) (D':Hd),(T.ds.set i (D.ext l))[j]?=some D'->(j=i /\ D'=D.ext l) \/ (j≠i /\ T.ds[j]?=some D'):=fun j D' e=>by
  by_cases q:i=j
  ·subst q
   rw [List.getElem?_set_self lt] at e
   exact .inl ⟨rfl,(Option.some.inj e).symm⟩
  ·rw [List.getElem?_set_ne q] at e
   exact .inr ⟨fun c=>q c.symm,e⟩
 have oldlt:∀ (j:Nat) (D':Hd),T.ds[j]?=some D'->∀ x∈D'.all,x < m.length:=fun j D' e x q=>h.lt x (Td.mem.mpr (.inr ⟨D',List.mem_of_getElem? e,q⟩))
 refine ⟨M.has h.inst (F _ Td.m0),?_,M.has h.po (F _ Td.m2),h.le.imp fun e k=>M.has k (F _ Td.m3),h.sa.imp fun e k=>M.has k (F _ Td.m4),fun j D' e=>?_,?_,h.nd,fun D' q=>?_,fun j k D1 D2 e1 e2 hne x q=>?_⟩
 ·rcases h.hd with ⟨e,k⟩
  refine ⟨e,?_⟩
  have e1:(t.hs.set i s').map (·.own)=t.hs.map (·.own):=by
   rw [List.map_set,ho]
   exact aA1 (by rw [List.getElem?_map,hs];rfl)
  have e2:(T.ds.set i (D.ext l)).map (·.p)=T.ds.map (·.p):=by
   rw [List.map_set]
   exact aA1 (by rw [List.getElem?_map,hi];rfl)
  show m'[T.h]?=some (.dict (tD _ _ (((t.hs.set i s').map (·.own)).zip ((T.ds.set i (D.ext l)).map (·.p)))) e)
  rw [e1,e2]
  exact M.has k (F _ Td.m1)
 ·rcases get j D' e with ⟨rfl,rfl⟩ | ⟨hj,e⟩
  ·exact ⟨s',List.getElem?_set_self (by rw [<- h.len];exact lt),H⟩
  ·rcases h.hs j D' e with ⟨s1,k1,k2⟩
   refine ⟨s1,by rw [List.getElem?_set_ne fun c=>hj c.symm];exact k1,k2.mod M fun x q c=>h.dd j i D' D e hi hj x q (List.mem_append_left _ c)⟩
 ·rw [List.length_set,List.length_set];exact h.len
 ·rcases List.getElem?_of_mem q with ⟨j,e⟩
  intro x hx c
  rcases get j D' e with ⟨rfl,rfl⟩ | ⟨hj,e⟩
  ·rcases ext x hx with z | z
   ·exact h.df D hD x z c
   ·exact Nat.not_lt.mpr z (h.lt x (Td.mem.mpr (.inl c)))
  ·exact h.df D' (List.mem_of_getElem? e) x hx c
 ·rcases get j D1 e1 with ⟨rfl,rfl⟩ | ⟨hj,e1⟩
  ·rcases get k D2 e2 with ⟨rfl,rfl⟩ | ⟨hk,e2⟩
   ·exact absurd rfl hne
   ·intro c
    rcases ext x q with z | z
    ·exact h.dd j k D D2 hi e2 hne x z c
    ·exact Nat.not_lt.mpr z (oldlt k D2 e2 x c)
  ·rcases get k D2 e2 with ⟨rfl,rfl⟩ | ⟨hk,e2⟩
   ·intro c
    rename_i e0
    rcases ext x c with z | z
    ·exact h.dd j k D1 D e0 hi hne x q z
    ·exact Nat.not_lt.mpr z (oldlt j D1 e0 x q)
   ·exact h.dd j k D1 D2 e1 e2 hne x q
end
noncomputable def Tw (m:MH) (N:HN) (p:Nat) (t:Tn) (B:List (Nat×MObj)):Prop:=∃ T,T.p=p /\ To m N T t /\ ∀ x∈B,x.1∉T.all /\ m[x.1]?=some x.2
section
variable {S:Sig} {N:HN} {m m':MH} {p:Nat} {t:Tn} {B:List (Nat×MObj)}
theorem Tw.up (h:Tw m N p t B) (l:Le m m'):Tw m' N p t B:=by
 rcases h with ⟨T,e,h1,h2⟩
 exact ⟨T,e,h1.up l,fun x q=>⟨(h2 x q).1,l.has (h2 x q).2⟩⟩
theorem Tw.new (h:Tw m N p t B) (l:Le m m') {q:Nat} {o:MObj} (k:m'[q]?=some o) (g:m.length <= q):Tw m' N p t ((q,o)::B):=by
 rcases h with ⟨T,e,h1,h2⟩
 exact ⟨T,e,h1.up l,dQ ⟨h1.out g,k⟩ fun x q=>⟨(h2 x q).1,l.has (h2 x q).2⟩⟩
theorem Tw.has (h:Tw m N p t B) {q:Nat} {o:MObj} (k:(q,o)∈B):m[q]?=some o:=by
 rcases h with ⟨T,e,h1,h2⟩
 exact (h2 _ k).2
theorem Tw.sub {B':List (Nat×MObj)} (h:Tw m N p t B) (k:∀ x∈B',x∈B):Tw m N p t B':=by
 rcases h with ⟨T,e,h1,h2⟩
 exact ⟨T,e,h1,fun x q=>h2 x (k x q)⟩
theorem Tw.tail {x:Nat×MObj} (h:Tw m N p t (x::B)):Tw m N p t B:=h.sub fun y_ q=>.tail _ q
theorem Tw.set {q:Nat} {o:MObj} (h:Tw m N p t ((q,o)::B)) (o':MObj) (hn:∀ x∈B,x.1≠q):Tw (m.set q o') N p t ((q,o')::B):=by
 rcases h with ⟨T,e,h1,h2⟩
 have hq:=(h2 _ (.head _)).1
 refine ⟨T,e,h1.mod (X:=[q]) (Mod.set (.head _)) fun x hx c=>hq (List.mem_singleton.mp c▸hx),dQ ⟨hq,aV (h2 _ (.head _)).2⟩ fun x hx=>⟨(h2 x (.tail _ hx)).1,aN (fun c=>hn x hx c.symm) (h2 x (.tail _ hx)).2⟩⟩
end
end Mini
namespace Mini
open PySem
noncomputable def bW4:List CS:=[
 (.asg (.attr (.var 0) 20) (.cnst (Lt.int 0))),
 (.asg (.attr (.var 0) 21) (.dict [] []))]
noncomputable def cK7:List CS:=[
 (.asg (.one (.one 2)) (.attr (.var 0) 20)),
 (.asg (.attr (.var 0) 20) (.bin .Add (.var 2) (.cnst (Lt.int 1)))),
 (.asg (.idx (.attr (.var 0) 21) (.var 2)) (.var 1)),
 (.ret (.var 2))]
noncomputable def bG2 (kW cL:Nat):List CS:=[
 (.ite (.all false [(.not (.val (.call kW [(.var 1)]))),(.val (.cmp (.var 1) [.NotIn] [(.attr (.var 0) 21)]))]) [
  (.rse cL (Str.ofString "no such letter waits"))] []),
 (.ret (.smeth (.attr (.var 0) 21) .pop [(.var 1)]))]
noncomputable def bW3:List CS:=[
 (.ret (.comp (.tup [(.var 1),(.idx (.attr (.var 0) 21) (.var 1))]) (.one 1) 1 .expr [(.bi .sorted [(.attr (.var 0) 21)])] []))]
noncomputable def bW1 (kN kW cH C:Nat):List CS:=[
 (.exp (.call kN [(.var 1)])),
 (.ite (.not (.val (.isi (.var 2) .list))) [
  (.rse cH (Str.ofString "a list of liars is wanted"))] []),
 (.asg (.one (.one 3)) (.dict [] [])),
 (.for_ .expr (.one 4) [(.var 2)] [
  (.ite (.all false [(.not (.val (.call kW [(.var 4)]))),(.not (.val (.cmp (.cnst (Lt.int 0)) [.LtE,.Lt] [(.var 4),(.var 1)]))),(.val (.cmp (.var 4) [.In] [(.var 3)]))]) [
   (.rse cH (Str.ofString "no other house of the town"))] []),
  (.asg (.idx (.var 3) (.var 4)) (.cnst (Lt.bool true)))]),
 (.asg (.attr (.var 0) 8) (.var 1)),
 (.asg (.attr (.var 0) 26) (.dict [] [])),
 (.for_ .range (.one 4) [(.var 1)] [
  (.ite (.val (.cmp (.var 4) [.NotIn] [(.var 3)])) [
   (.asg (.idx (.attr (.var 0) 26) (.var 4)) (.new C [(.var 1),(.var 4)]))] [])]),
 (.asg (.attr (.var 0) 27) (.new (C+1) [])),
 (.asg (.attr (.var 0) 28) (.dict [] []))]
noncomputable def bG6 (kW cH:Nat):List CS:=[
 (.ite (.all false [(.not (.val (.call kW [(.var 1)]))),(.val (.cmp (.var 1) [.NotIn] [(.attr (.var 0) 26)]))]) [
  (.rse cH (Str.ofString "no honest house of the town"))] []),
 (.ret (.idx (.attr (.var 0) 26) (.var 1)))]
noncomputable def cK6:List CS:=[
 (.for_ .expr (.one 3) [(.var 2)] [
  (.asg (.idx (.attr (.var 0) 28) (.var 3)) (.cnst (Lt.bool true))),
  (.for_ .range (.one 4) [(.attr (.var 0) 8)] [
   (.ite (.val (.cmp (.var 4) [.NotEq] [(.var 1)])) [
    (.exp (.meth (.attr (.var 0) 27) 17 [(.tup [(.var 1),(.var 4),(.var 3)])]))] [])])]),
 (.ret (.bi .list [(.var 2)]))]
noncomputable def bW2:List CS:=[
 (.asg (.one (.one 3)) (.meth (.meth (.var 0) 22 [(.var 1)]) 0 [(.var 2)])),
 (.ret (.meth (.var 0) 23 [(.var 1),(.var 3)]))]
noncomputable def bG0:List CS:=[
 (.asg (.one (.one 2)) (.meth (.attr (.var 0) 27) 18 [(.var 1)])),
 (.ite (.val (.cmp (.idx (.var 2) (.cnst (Lt.int 1))) [.NotIn] [(.attr (.var 0) 26)])) [
  (.ret (.list []))] []),
 (.ret (.meth (.var 0) 23 [(.idx (.var 2) (.cnst (Lt.int 1))),(.meth (.idx (.attr (.var 0) 26) (.idx (.var 2) (.cnst (Lt.int 1)))) 1 [(.idx (.var 2) (.cnst (Lt.int 2)))])]))]
noncomputable def dG2 (kW kD cH cW cF:Nat):List CS:=[
 (.ite (.all false [(.not (.val (.call kW [(.var 1)]))),(.not (.val (.cmp (.cnst (Lt.int 0)) [.LtE,.Lt] [(.var 1),(.attr (.var 0) 8)]))),(.val (.cmp (.var 1) [.In] [(.attr (.var 0) 26)]))]) [
  (.rse cH (Str.ofString "no liar of the town"))] []),
 (.ite (.all false [(.not (.val (.call kW [(.var 2)]))),(.not (.val (.cmp (.cnst (Lt.int 0)) [.LtE,.Lt] [(.var 2),(.attr (.var 0) 8)]))),(.val (.cmp (.var 2) [.Eq] [(.var 1)]))]) [
  (.rse cH (Str.ofString "no other house of the town"))] []),
 (.ite (.not (.val (.call kD [(.attr (.var 0) 8),(.var 3)]))) [
  (.rse cW (Str.ofString "no word of the town"))] []),
 (.ite (.all true [(.val (.cmp (.idx (.var 3) (.cnst (Lt.int 3))) [.NotEq] [(.var 1)])),(.val (.cmp (.var 3) [.NotIn] [(.attr (.var 0) 28)]))]) [
  (.rse cF (Str.ofString "nobody has spoken that word"))] []),
 (.asg (.idx (.attr (.var 0) 28) (.var 3)) (.cnst (Lt.bool true))),
 (.ret (.meth (.attr (.var 0) 27) 17 [(.tup [(.var 1),(.var 2),(.var 3)])]))]
noncomputable def bW0:List CS:=[
 (.ret (.meth (.attr (.var 0) 27) 19 []))]
noncomputable def bG1:List CS:=[
 (.ret (.bi .list [(.attr (.var 0) 28)]))]
noncomputable def aW6:List CS:=[
 (.ret (.meth (.meth (.var 0) 22 [(.var 1)]) 5 []))]
noncomputable def aW7:List CS:=[
 (.ret (.meth (.meth (.var 0) 22 [(.var 1)]) 7 []))]
structure TF (S:Sig) (N:HN):Prop where
 H:HF S N
 caller:cM S (N.kR+1) 2 2 aE6
 word:cM S (N.kR+2) 2 2 (aI7 N.kN N.kW N.kR (N.kR+1) (N.gS+1))
 gN:∃ nm,S.globs[N.gS+1]?=some (nm,.int 9999)
 pinit:cM S (N.ki+9) 1 1 bW4
 send:cM S (N.ki+10) 2 3 cK7
 pbring:cM S (N.ki+11) 2 2 (bG2 N.kW (N.cR+3))
 pwait:cM S (N.ki+12) 1 1 bW3
 tinit:cM S (N.ki+13) 3 5 (bW1 N.kN N.kW N.cH N.C)
 honest:cM S (N.ki+14) 2 2 (bG6 N.kW N.cH)
 tell:cM S (N.ki+15) 3 5 cK6
 tcall:cM S (N.ki+16) 3 4 bW2
 tbring:cM S (N.ki+17) 2 3 bG0
 lie:cM S (N.ki+18) 4 4 (dG2 N.kW (N.kR+2) N.cH (N.cR+1) (N.cR+2))
 twait:cM S (N.ki+19) 1 1 bW0
 spoken:cM S (N.ki+20) 1 1 bG1
 tledger:cM S (N.ki+21) 2 2 aW6
 tcaught:cM S (N.ki+23) 2 2 aW7
 post:∃ d,S.cls[N.C+1]?=some d /\ d.exc=false /\ d.init=some (N.ki+9) /\ d.meths.lookup 17=some (N.ki+10) /\ d.meths.lookup 18=some (N.ki+11) /\ d.meths.lookup 19=some (N.ki+12)
 town:∃ d,S.cls[N.C+2]?=some d /\ d.exc=false /\ d.init=some (N.ki+13) /\ d.meths=[(22,N.ki+14),(23,N.ki+15),(0,N.ki+16),(18,N.ki+17),(24,N.ki+18),(19,N.ki+19),(25,N.ki+20),(5,N.ki+21),(6,N.ki+22),(7,N.ki+23)]
theorem cP3 {k:Int} {v:Lr} {l:List (Int×Lr)} (h:∀ x∈l,x.1 < k):put (.int k) v.v (aT7 l)=aT7 (l++[(k,v)]):=by
 unfold aT7
 rw [aA9]
 ·unfold tD;rw [List.map_append];rfl
 ·rw [List.any_eq_false]
  intro x hx e
  exact absurd (eq_of_beq e) (Int.ne_of_lt (h x hx))
section
variable {S:Sig} {N:HN} {m:MH} {T:Td} {t:Tn} {p:Nat} {B:List (Nat×MObj)}
theorem bP4 (Z:TF S N) (n:Nat) (l:Lr) {b:Nat} (h:To m N T t) (k:t.Lk b) (hb:b < lid):Wp (run S (n+1) (N.ki+10) [.ref T.o,l.v]) m (fun u m'=>u=.int t.given /\ To m' N T (t.send l) /\ Mod [T.o,T.l,T.s] m m') nox:=by
 rcases h.le with ⟨e,kd⟩
 have nd:=Td.ne h.nd
 have nol:T.o≠T.l:=nd.1
 have nos:T.o≠T.s:=nd.2.1
 have nls:T.l≠T.s:=nd.2.2
 refine bN Z.send rfl (aW (aE (aO rfl h.po rfl) (aA6 (aC rfl (aC rfl ⟨T.o,N.C+1,_,rfl,h.po,?_⟩)))))
 have po1:=aV (o':=.inst (N.C+1) [(20,.int (t.given+1)),(21,.ref T.l)]) h.po
 have le1:=aN (o':=.inst (N.C+1) [(20,.int (t.given+1)),(21,.ref T.l)]) nol kd
 refine eC (aC rfl (aE (aO rfl po1 rfl) (aC rfl (eB le1 (k:=.int t.given) rfl (bB _ _ _ _) (by unfold aT7 tD;rw [List.length_map];exact Nat.lt_of_le_of_lt k.ll hb) ?_))))
 show Wp _ (List.set _ T.l (.dict (put (.int t.given) l.v (aT7 t.lets)) (e+1))) _ _
 rw [cP3 k.lt]
 have M:Mod [T.o,T.l,T.s] m ((m.set T.o (.inst (N.C+1) [(20,.int (t.given+1)),(21,.ref T.l)])).set T.l (.dict (aT7 (t.lets++[(t.given,l)])) (e+1))):=(Mod.set (.head _)).trans (Mod.set (.tail _ (.head _)))
 refine bG (aC rfl ⟨rfl,h.chg M (aN (fun q=>nol q.symm) po1) ⟨_,aV le1⟩ ?_,M⟩)
 exact h.sa.imp fun e' k'=>aN nls (aN nos k')
theorem nq {T:Td} {q:Nat} (h:q∉T.all):q∉[T.o,T.l,T.s]:=fun c=>h (Td.mem.mpr (.inl (.tail _ (.tail _ c))))
inductive TIn (N:HN) (T:Td) (t:Tn) (h:Int) (q:Nat) (w:Wo) (m:MH) (zs:List Nat) (r:Lo) (m':MH):Prop
 | mk (a:List Nat) (x:Option V) (e:List.range t.cnt.toNat=a++zs) (er:r=[some (.ref T.p),some (.int h),some (.ref q),some w.v,x]) (k:To m' N T (a.foldl (Tn.to h w) (t.say w))) (M:Mod [T.o,T.l,T.s] m m')
inductive TOut (N:HN) (T:Td) (t:Tn) (h:Int) (q:Nat) (ws:List Wo) (m:MH) (zs:List Wo) (r:Lo) (m':MH):Prop
 | mk (a:List Wo) (x y:Option V) (e:ws=a++zs) (er:r=[some (.ref T.p),some (.int h),some (.ref q),x,y]) (k:To m' N T (t.tell h a)) (M:Mod [T.o,T.l,T.s] m m')
theorem cN9 (Z:TF S N) (n:Nat) (h:Int) {ws:List Wo} {q b:Nat} (H:Tw m N p t B) (hq:(q,.list (ws.map Wo.v))∈B) (k:t.Lk b) (hb:b+13 * ws.length < lid) (h0:1 <= t.cnt) (h2:t.cnt <= 12):Wp (run S (n+2) (N.ki+15) [.ref p,.int h,.ref q]) m (fun u m'=>∃ q',u=.ref q' /\ Tw m' N p (t.tell h ws) ((q',.list (ws.map Wo.v))::B)) nox:=by
 rcases H with ⟨T,rfl,h1,hB⟩
 rcases Z.post with ⟨y_,hpd,y_,y_,hm1,y_⟩
 have qo:=nq (hB _ hq).1
 have kq:m[q]?=some (.list (ws.map Wo.v)):=(hB _ hq).2
 refine bN Z.tell rfl (aL2 ws Wo.v (TOut N T t h q ws m) (aF (aC rfl (aG (eI kq ⟨rfl,⟨[],none,none,rfl,rfl,h1,Mod.refl _ _⟩,?_,?_,?_⟩)))))
 ·rintro zs r m' ⟨a,x,y,e,er,k',M⟩
  exact cV (M.has kq qo)
 ·rintro w zs r m' ⟨a,x,y,e,er,k',M⟩
  subst er
  rcases k'.sa with ⟨es,ks⟩
  have lk:=Tn.Lk.tell h a k h2
  have al:a.length+1 <= ws.length:=by rw [e,List.length_append,List.length_cons,<- Nat.add_assoc];exact Nat.succ_le_succ (Nat.le_add_right _ _)
  have cn:(t.tell h a).cnt=t.cnt:=(bE h a t).1
  have bl:b+13 * a.length+13 < lid:=Nat.lt_of_le_of_lt (by rw [Nat.add_assoc];exact Nat.add_le_add_left (Nat.mul_le_mul_left 13 al) b) hb
  refine aC rfl (eC (aC rfl (aE (aO rfl k'.inst rfl) (aC rfl (eB ks (k:=w.ky) rfl (dB _ _) (by unfold kD;rw [List.length_map];exact Nat.lt_of_le_of_lt lk.sl (Nat.lt_of_le_of_lt (Nat.le_add_right _ 13) bl)) ?_)))))
  show Wp _ (m'.set T.s (.dict (put w.ky (.bool true) (kD (t.tell h a).said)) (es+1))) _ _
  rw [aR9]
  have nd:=Td.ne h1.nd
  have M1:Mod [T.o,T.l,T.s] m' (m'.set T.s (.dict (kD (aK4 w (t.tell h a).said)) (es+1))):=Mod.set (.tail _ (.tail _ (.head _)))
  have k1:To (m'.set T.s (.dict (kD (aK4 w (t.tell h a).said)) (es+1))) N T ((t.tell h a).say w):=k'.chg M1 (aN (fun c=>nd.2.1 c.symm) k'.po) (k'.le.imp fun e' k'=>aN (fun c=>nd.2.2 c.symm) k') ⟨_,aV ks⟩
  generalize m'.set T.s (.dict (kD (aK4 w (t.tell h a).said)) (es+1))=m1 at M1 k1 ⊢
  have M2:=M.trans M1
  refine aL2 (List.range (t.tell h a).cnt.toNat) (fun (j:Nat)=>V.int (0+(j:Int))) (TIn N T (t.tell h a) h q w m) (aF (aE (aO rfl k1.inst rfl) (aG (aE (aN6 ?_) ⟨rfl,⟨[],y,rfl,rfl,k1,M2⟩,fun y_ y_ y_ y_=>rfl,?_,?_⟩))))
  ·show ((t.tell h a).cnt).natAbs < 2 ^ 30
   rw [cn]
   exact Nat.lt_of_lt_of_le (fK (c:=13) (Int.le_trans (by decide) h0) (Int.lt_of_le_of_lt h2 (by decide:(12:Int) < 13)) (by decide)) (by decide)
  ·rintro j js r m2 ⟨c,z,e2,er,k2,M3⟩
   subst er
   refine aC rfl (bY (t:=!((0+(j:Int)) == h)) (bD (aX rfl rfl rfl)) ?_)
   have ej:(c++[j]).foldl (Tn.to h w) ((t.tell h a).say w)=Tn.to h w (c.foldl (Tn.to h w) ((t.tell h a).say w)) j:=by rw [List.foldl_append];rfl
   have ec:List.range (t.tell h a).cnt.toNat=(c++[j])++js:=by rw [e2,List.append_assoc];rfl
   cases hz:(0+(j:Int)) == h with
   | true=>
    have hz:=eq_of_beq hz
    rw [Int.zero_add] at hz
    exact cU ⟨c++[j],some (.int (0+(j:Int))),ec,rfl,by rw [ej];unfold Tn.to;rw [if_pos hz];exact k2,M3⟩
   | false=>
    have hz:¬ ((j:Int)=h):=fun q=>by rw [q,Int.zero_add,beq_self_eq_true] at hz;cases hz
    have lk2:=Tn.Lk.tos (b:=0) h w c (lk.say w)
    have cl:c.length <= 12:=by
     have:=congrArg List.length e2
     rw [List.length_range,List.length_append,cn] at this
     exact Nat.le_trans (Nat.le_add_right _ _) (this▸bS h2)
    refine fD (cG (aE (aO rfl k2.inst rfl) ⟨T.o,N.C+1,_,_,N.ki+10,rfl,k2.po,hpd,rfl,hm1,?_⟩))
    refine aC rfl ?_
    refine aU (bP4 Z n ⟨h,0+(j:Int),w⟩ k2 lk2 (Nat.lt_of_le_of_lt (by rw [Nat.add_assoc];exact Nat.add_le_add_left (by rw [Nat.add_comm];exact Nat.succ_le_succ cl) _) bl)) fun u m3 z3=>?_
    refine cU ⟨c++[j],some (.int (0+(j:Int))),ec,rfl,?_,M3.trans z3.2.2⟩
    rw [ej];unfold Tn.to;rw [if_neg hz]
    have:=z3.2.1
    rw [Int.zero_add] at this
    exact this
  ·rintro r m2 ⟨c,z,e2,er,k2,M3⟩
   subst er
   rw [List.append_nil] at e2
   refine cU ⟨a++[w],some w.v,z,by rw [e,List.append_assoc];rfl,rfl,?_,M3⟩
   unfold Tn.tell
   rw [List.foldl_append]
   show To m2 N T (Tn.tell1 h (t.tell h a) w)
   unfold Tn.tell1
   rw [e2];exact k2
 ·rintro r m' ⟨a,x,y,e,er,k',M⟩
  subst er
  rw [List.append_nil] at e
  subst e
  have kq':=M.has kq qo
  have el:biV .list [.ref q] m'=alloc (.list (ws.map Wo.v)) m':=by unfold biV;dsimp only;rw [kq']
  refine bG (aS4 (aF (aC rfl (aG (aB8 el (aM fun q' m2 l k2 g=>⟨q',rfl,?_⟩))))))
  have tw:Tw m' N T.p (t.tell h ws) B:=⟨T,rfl,k',fun x hx=>⟨(hB x hx).1,M.has (hB x hx).2 (nq (hB x hx).1)⟩⟩
  exact tw.new l k2 g
end
end Mini
namespace Mini
open PySem
structure Tn.Ok (t:Tn) (b:Nat):Prop where
 lk:t.Lk b
 c1:1 <= t.cnt
 c2:t.cnt <= 12
 on:(t.hs.map (·.own)).Nodup
 hc:∀ s∈t.hs,s.cnt=t.cnt /\ s.sz <= b
 as:(t.lets.map (·.1)).Pairwise (· < ·)
noncomputable def Tn.turn (t:Tn) (i:Nat) (x:Hs×List Wo):Tn:=Tn.tell { t with hs:=t.hs.set i x.1 } x.1.own x.2
noncomputable def Tn.take (t:Tn) (k:Int):Tn:={ t with lets:=t.lets.filter fun x=>!(x.1 == k) }
section
variable {S:Sig} {N:HN} {m m':MH} {T:Td} {t:Tn} {p b i:Nat} {B:List (Nat×MObj)} {s:Hs} {D:Hd}
theorem bE7 (len:T.ds.length=t.hs.length) (nd:(t.hs.map (·.own)).Nodup) (hs:t.hs[i]?=some s):∃ D,T.ds[i]?=some D /\ bP (.int s.own) (cD7 t T)=some (.ref D.p):=by
 have lt:=(List.getElem?_eq_some_iff.mp hs).1
 have lt':i < T.ds.length:=by rw [len];exact lt
 refine ⟨T.ds[i],List.getElem?_eq_getElem lt',?_⟩
 unfold cD7
 rw [eS]
 have key:∀ (is:List Int) (js:List Nat) (i:Nat) (x:Int) (y:Nat),is.Nodup->is[i]?=some x->js[i]?=some y->(is.zip js).find? (fun z=>z.1 == x)=some (x,y):=by
  intro is
  induction is with
  | nil=>intro js i x y _ h;cases h
  | cons a is ih=>
   intro js i x y nd h1 h2
   cases js with
   | nil=>cases h2
   | cons c js=>
    have nd:=List.nodup_cons.mp nd
    cases i with
    | zero=>
     have e1:a=x:=Option.some.inj h1
     have e2:c=y:=Option.some.inj h2
     subst e1 e2
     exact List.find?_cons_of_pos (by exact beq_self_eq_true a)
    | succ i=>
     have h1:is[i]?=some x:=h1
     rw [List.zip_cons_cons,List.find?_cons_of_neg]
     ·exact ih js i x y nd.2 h1 h2
     ·intro q
      exact nd.1 ((show a=x from eq_of_beq q)▸List.mem_of_getElem? h1)
 rw [key _ _ i s.own T.ds[i].p nd (by rw [List.getElem?_map,hs];rfl) (by rw [List.getElem?_map,List.getElem?_eq_getElem lt'];rfl)]
 rfl
theorem bE6 {h:Int} (hs:∀ s∈t.hs,s.own≠h):(bP (.int h) (cD7 t T)).isSome=false:=by
 unfold cD7
 rw [eU,List.any_eq_false]
 intro x hx e
 have:x.1∈t.hs.map (·.own):=(List.of_mem_zip (a:=x.1) (b:=x.2) hx).1
 rcases List.mem_map.mp this with ⟨s,h1,h2⟩
 exact hs s h1 (h2.trans (eq_of_beq e))
theorem aH4 (Z:TF S N) (n:Nat) (h:To m N T t) (nd:(t.hs.map (·.own)).Nodup) (hs:t.hs[i]?=some s):∃ D,T.ds[i]?=some D /\ Ho m N.C D s /\ run S (n+2) (N.ki+14) [.ref T.p,.int s.own] m=.ok (.ref D.p) m:=by
 rcases bE7 h.len nd hs with ⟨D,e,el⟩
 rcases h.hs i D e with ⟨s',e1,e2⟩
 rw [hs] at e1
 cases e1
 rcases h.hd with ⟨ed,kd⟩
 have so:aJ (.int s.own) (cD7 t T)=true:=bB _ _ _ _
 refine ⟨D,e,e2,fF (bN Z.honest rfl (bY (t:=false) (aA8 (bT (x:=false) (eO (bD (bO rfl (b8 Z.H.W n s.own)))) (bT (x:=false) (bD (aX rfl (aO rfl h.inst rfl) ?_)) fN))) (bG (aE (eF (aO rfl h.inst rfl) rfl (d7 kd rfl so el)) ⟨rfl,rfl⟩))))⟩
 show Res.bind (inV (.int s.own) (.ref T.h) m) _=_
 rw [bA kd rfl so,el];rfl
theorem To.tells (h1:To m N T t) (hB:∀ x∈B,x.1∉T.all /\ m[x.1]?=some x.2) {l:List Nat} {q:Nat} {x:Hs×List Wo} (hi:T.ds[i]?=some D) (hs:t.hs[i]?=some s) (ho:x.1.own=s.own) (k:m'[q]?=some (.list (x.2.map Wo.v))) (g:m.length <= q) (o:q∉(D.ext l).all) (H:Ho m' N.C (D.ext l) x.1) (M:Mod D.foot m m') (hl:∀ y∈l,m.length <= y):Tw m' N T.p { t with hs:=t.hs.set i x.1 } ((q,.list (x.2.map Wo.v))::B):=by
 have old:∀ z,z∈({ T with ds:=T.ds.set i (D.ext l) }:Td).all->z∈T.all \/ z∈(D.ext l).all:=fun z hz=>by
  rcases Td.mem.mp hz with hz | ⟨D',hD,hz⟩
  ·exact .inl (Td.mem.mpr (.inl hz))
  ·rcases List.mem_or_eq_of_mem_set hD with hD | rfl
   ·exact .inl (Td.mem.mpr (.inr ⟨D',hD,hz⟩))
   ·exact .inr hz
 have new:∀ z,z∈(D.ext l).all->z∈T.all \/ m.length <= z:=fun z hz=>by
  rcases List.mem_append.mp hz with hz | hz
  ·exact .inl (Td.mem.mpr (.inr ⟨D,List.mem_of_getElem? hi,List.mem_append_left _ hz⟩))
  ·rcases List.mem_append.mp hz with hz | hz
   ·exact .inl (Td.mem.mpr (.inr ⟨D,List.mem_of_getElem? hi,List.mem_append_right _ hz⟩))
   ·exact .inr (hl z hz)
 refine ⟨{ T with ds:=T.ds.set i (D.ext l) },rfl,h1.hou hi hs ho M H hl,dQ ⟨fun c=>?_,k⟩ fun y hy=>⟨fun c=>?_,M.has (hB y hy).2 fun c=>(hB y hy).1 (Td.mem.mpr (.inr ⟨D,List.mem_of_getElem? hi,List.mem_append_left _ c⟩))⟩⟩
 ·rcases old _ c with c | c
  ·exact h1.out g c
  ·exact o c
 ·rcases old _ c with c | c
  ·exact (hB y hy).1 c
  ·rcases new _ c with c | c
   ·exact (hB y hy).1 c
   ·exact Nat.not_lt.mpr c (aS (hB y hy).2)
theorem cY5 (Z:TF S N) (h:To m N T t):∃ d,m[T.p]?=some (.inst (N.C+2) [(8,.int t.cnt),(26,.ref T.h),(27,.ref T.o),(28,.ref T.s)]) /\ S.cls[N.C+2]?=some d /\ d.meths=[(22,N.ki+14),(23,N.ki+15),(0,N.ki+16),(18,N.ki+17),(24,N.ki+18),(19,N.ki+19),(25,N.ki+20),(5,N.ki+21),(6,N.ki+22),(7,N.ki+23)]:=by
 rcases Z.town with ⟨d,h1,y_,y_,h2⟩
 exact ⟨d,h.inst,h1,h2⟩
theorem bJ (Z:TF S N) (H:Tw m N p t B) {F:Fns} {r:Lo} {E:Nat->MH->Prop} {Q:V->MH->Prop} {o:CE} {k j:Nat} {as:List CE} (ho:ev S F o r m=.ok (.ref p) m) (hf:aJ6 k ([(8,.none),(26,.none),(27,.none),(28,.none)])=none) (hk:[(22,N.ki+14),(23,N.ki+15),(0,N.ki+16),(18,N.ki+17),(24,N.ki+18),(19,N.ki+19),(25,N.ki+20),(5,N.ki+21),(6,N.ki+22),(7,N.ki+23)].lookup k=some j) (q:Wp (evs S F as r) m (fun vs m'=>Wp (F j (.ref p::vs)) m' Q E) E):Wp (ev S F (.meth o k as) r) m Q E:=by
 rcases H with ⟨T,rfl,h1,hB⟩
 rcases cY5 Z h1 with ⟨d,e1,e2,e3⟩
 refine cG (aE ho ⟨T.p,N.C+2,_,d,j,rfl,e1,e2,?_,by rw [e3];exact hk,q⟩)
 have key:∀ (a b c d a' b' c' d':V),aJ6 k [(8,a),(26,b),(27,c),(28,d)]=none->aJ6 k [(8,a'),(26,b'),(27,c'),(28,d')]=none:=by
  intro a b c d a' b' c' d' h
  have h:(if 8=k then some a else if 26=k then some b else if 27=k then some c else if 28=k then some d else none)=none:=h
  show (if 8=k then some a' else if 26=k then some b' else if 27=k then some c' else if 28=k then some d' else none)=none
  by_cases h1:8=k
  ·rw [if_pos h1] at h;cases h
  ·rw [if_neg h1] at h ⊢
   by_cases h2:26=k
   ·rw [if_pos h2] at h;cases h
   ·rw [if_neg h2] at h ⊢
    by_cases h3:27=k
    ·rw [if_pos h3] at h;cases h
    ·rw [if_neg h3] at h ⊢
     by_cases h4:28=k
     ·rw [if_pos h4] at h;cases h
     ·rw [if_neg h4]
 exact key _ _ _ _ _ _ _ _ hf
theorem aP6 (s:Hs) (w:Wo):(s.hear w).1.own=s.own:=(bX s w).2.1
theorem bF7 (s:Hs) (r:Str):(s.call r).1.own=s.own:=aP6 { s with onw:=s.onw+s.cnt } ⟨cK,s.onw,r,s.own⟩
theorem bN0 (Z:TF S N) (n:Nat) {x:Hs×List Wo} {q:Nat} {s:Hs} (H:Tw m N p { t with hs:=t.hs.set i x.1 } ((q,.list (x.2.map Wo.v))::B)) (ho:x.1.own=s.own) (k:t.Ok b) (hb:b+13 * x.2.length < lid):Wp (run S (n+2) (N.ki+15) [.ref p,.int s.own,.ref q]) m (fun u m'=>∃ q',u=.ref q' /\ Tw m' N p (t.turn i x) ((q',.list (x.2.map Wo.v))::B)) nox:=by
 refine aU (cN9 Z n s.own H (.head _) ⟨k.lk.lt,k.lk.ll,k.lk.sl⟩ hb k.c1 k.c2) fun u m' z=>?_
 rcases z with ⟨q',e,z⟩
 refine ⟨q',e,?_⟩
 unfold Tn.turn
 rw [ho]
 exact z.sub fun y hy=>by
  rcases List.mem_cons.mp hy with rfl | hy
  ·exact .head _
  ·exact .tail _ (.tail _ hy)
theorem bZ1 (Z:TF S N) (n:Nat) {r:Str} (H:Tw m N p t B) (k:t.Ok b) (hs:t.hs[i]?=some s) (hr:bP7 (.str r)=true) (hrl:r.length <= 64) (hb:b+300 < lid):Wp (run S (n+8) (N.ki+16) [.ref p,.int s.own,.str r]) m (fun u m'=>∃ q,u=.ref q /\ Tw m' N p (t.turn i (s.call r)) ((q,.list ((s.call r).2.map Wo.v))::B)) nox:=by
 have sc:=k.hc s (List.mem_of_getElem? hs)
 rcases id H with ⟨T,rfl,h1,hB⟩
 rcases aH4 Z (n+5) h1 k.on hs with ⟨D,hD,hH,eh⟩
 rcases Z.H.cls with ⟨dh,hd,hx,hi,hm⟩
 have bl:s.sz+8 < lid:=Nat.lt_of_le_of_lt (Nat.add_le_add sc.2 (by decide:8 <= 300)) hb
 refine bN Z.tcall rfl (aW (cG (bJ Z H rfl rfl rfl (aC rfl (aE eh ⟨D.p,N.C,_,dh,N.ki+1,rfl,hH.inst,hd,rfl,hm 0 (by decide),aC rfl (dS (cV2 Z.H n r hH hr hrl (by rw [sc.1];exact k.c1) (by rw [sc.1];exact k.c2) bl) fun m1 q1 l1 k1 g1 o1 H1 M1 y1=>?_)⟩)))))
 have H2:=h1.tells hB hD hs (bF7 s r) k1 g1 o1 H1 M1 y1
 have n5:(s.call r).2.length <= 16:=by
  have:=(bX { s with onw:=s.onw+s.cnt } ⟨cK,s.onw,r,s.own⟩).2.2.2.2
  show (_::(Hs.hear _ _).2).length <= 16
  rw [List.length_cons]
  exact Nat.succ_le_succ (Nat.le_trans this (Nat.add_le_add_right (bS (show s.cnt <= 12 by rw [sc.1];exact k.c2)) 3))
 exact bG (bJ Z H2 rfl rfl rfl (aC rfl (bN0 Z (n+5) H2 (bF7 s r) k (Nat.lt_of_le_of_lt (Nat.add_le_add_left (Nat.le_trans (Nat.mul_le_mul_left 13 n5) (by decide)) b) hb))))
theorem bE9 {l:Lr} {k:Int} {ls:List (Int×Lr)} (as:(ls.map (·.1)).Pairwise (· < ·)) (h:(k,l)∈ls):ls.find? (fun x=>x.1 == k)=some (k,l):=by
 induction ls with
 | nil=>cases h
 | cons a ls ih=>
  have as:=List.pairwise_cons.mp as
  by_cases z:(a.1 == k)=true
  ·rw [List.find?_cons_of_pos (p:=fun x:Int×Lr=>x.1 == k) z]
   rcases List.mem_cons.mp h with h | h
   ·rw [h]
   ·exact absurd (eq_of_beq z) (Int.ne_of_lt (as.1 k (List.mem_map.mpr ⟨_,h,rfl⟩)))
  ·rw [List.find?_cons_of_neg (p:=fun x:Int×Lr=>x.1 == k) z]
   rcases List.mem_cons.mp h with h | h
   ·rw [<- h] at z;exact absurd (beq_self_eq_true k) z
   ·exact ih as.2 h
theorem bF4 {k:Int}:∀ {ls:List (Int×Lr)},(ls.map (·.1)).Pairwise (· < ·)->eX (.int k) (aT7 ls)=aT7 (ls.filter fun x=>!(x.1 == k))
 | [],_=>rfl
 | a::ls,as=>by
  have as:=List.pairwise_cons.mp as
  show (if Ky.int a.1=Ky.int k then aT7 ls else (Ky.int a.1,a.2.v)::eX (.int k) (aT7 ls))=_
  by_cases z:a.1=k
  ·rw [if_pos (by rw [z]),List.filter_cons_of_neg (by simp [z])]
   congr 1
   refine (List.filter_eq_self.mpr fun x hx=>?_).symm
   have:=as.1 x.1 (List.mem_map.mpr ⟨x,hx,rfl⟩)
   rw [Bool.not_eq_true',beq_eq_false_iff_ne]
   rw [<- z];exact (Int.ne_of_lt this).symm
  ·rw [if_neg fun c=>z (bS6 c),List.filter_cons_of_pos (by simp [z]),bF4 as.2];rfl
theorem aS5 (Z:TF S N) (n:Nat) {k:Int} {l:Lr} (h:To m N T t) (as:(t.lets.map (·.1)).Pairwise (· < ·)) (hk:(k,l)∈t.lets):Wp (run S (n+2) (N.ki+11) [.ref T.o,.int k]) m (fun u m'=>u=l.v /\ To m' N T (t.take k) /\ Mod [T.o,T.l,T.s] m m') nox:=by
 rcases h.le with ⟨e,kd⟩
 have so:aJ (.int k) (aT7 t.lets)=true:=bB _ _ _ _
 have el:bP (.int k) (aT7 t.lets)=some l.v:=by unfold aT7;rw [eS,bE9 as hk];rfl
 have nd:=Td.ne h.nd
 refine bN Z.pbring rfl (bY (t:=false) (aA8 (bT (x:=false) (eO (bD (bO rfl (b8 Z.H.W n k)))) (bT (x:=false) (bD (aX rfl (aO rfl h.po rfl) ?_)) fN))) (bG (dL (aE (aO rfl h.po rfl) ⟨1,cZ4 kd,rfl,aC rfl (cX2 kd so el ⟨rfl,?_,Mod.set (.tail _ (.head _))⟩)⟩))))
 ·show Res.bind (inV (.int k) (.ref T.l) m) _=_
  rw [bA kd rfl so,el];rfl
 ·rw [bF4 as]
  exact h.chg (Mod.set (.tail _ (.head _))) (aN (fun q=>nd.1 q.symm) h.po) ⟨_,aV kd⟩ (h.sa.imp fun e' k'=>aN nd.2.2 k')
theorem To.beside (hB:∀ x∈B,x.1∉T.all /\ m[x.1]?=some x.2) (M:Mod [T.o,T.l,T.s] m m'):∀ x∈B,x.1∉T.all /\ m'[x.1]?=some x.2:=fun x hx=>⟨(hB x hx).1,M.has (hB x hx).2 (nq (hB x hx).1)⟩
theorem bZ2 (Z:TF S N) (n:Nat) {k:Int} {l:Lr} (H:Tw m N p t B) (O:t.Ok b) (hk:(k,l)∈t.lets) (hl:∀ s∈t.hs,s.own≠l.r):Wp (run S (n+3) (N.ki+17) [.ref p,.int k]) m (fun u m'=>∃ q,u=.ref q /\ Tw m' N p (t.take k) ((q,.list [])::B)) nox:=by
 rcases H with ⟨T,rfl,h1,hB⟩
 rcases Z.post with ⟨y_,hpd,y_,y_,y_,hm1,y_⟩
 refine bN Z.tbring rfl (aW (cG (aE (aO rfl h1.inst rfl) ⟨T.o,N.C+1,_,_,N.ki+11,rfl,h1.po,hpd,rfl,hm1,aC rfl (aU (aS5 Z n h1 O.as hk) fun u m1 z=>?_)⟩)))
 rcases z with ⟨rfl,h2,M⟩
 rcases h2.hd with ⟨ed,kd⟩
 refine bY (t:=true) (bD (aX rfl (aO rfl h2.inst rfl) ?_)) (bG (bF (aG (aM fun q m2 l2 k2 g2=>⟨q,rfl,?_⟩))))
 ·show Res.bind (inV (.int l.r) (.ref T.h) m1) _=_
  rw [bA kd rfl (bB _ _ _ _)]
  show Res.ok (!(bP (.int l.r) (cD7 (t.take k) T)).isSome) m1=_
  rw [bE6 (t:=t.take k) hl];rfl
 ·have tw:Tw m1 N T.p (t.take k) B:=⟨T,rfl,h2,To.beside hB M⟩
  exact tw.new l2 k2 g2
theorem bZ3 (Z:TF S N) (n:Nat) {k:Int} {l:Lr} (H:Tw m N p t B) (O:t.Ok b) (hk:(k,l)∈t.lets) (hs:t.hs[i]?=some s) (hl:s.own=l.r) (hb:b+300 < lid):Wp (run S (n+7) (N.ki+17) [.ref p,.int k]) m (fun u m'=>∃ q,u=.ref q /\ Tw m' N p ((t.take k).turn i (s.hear l.w)) ((q,.list ((s.hear l.w).2.map Wo.v))::B)) nox:=by
 rcases H with ⟨T,rfl,h1,hB⟩
 rcases Z.post with ⟨y_,hpd,y_,y_,y_,hm1,y_⟩
 have sc:=O.hc s (List.mem_of_getElem? hs)
 have bl:s.sz+8 < lid:=Nat.lt_of_le_of_lt (Nat.add_le_add sc.2 (by decide:8 <= 300)) hb
 refine bN Z.tbring rfl (aW (cG (aE (aO rfl h1.inst rfl) ⟨T.o,N.C+1,_,_,N.ki+11,rfl,h1.po,hpd,rfl,hm1,aC rfl (aU (aS5 Z (n+4) h1 O.as hk) fun u m1 z=>?_)⟩)))
 rcases z with ⟨rfl,h2,M⟩
 have O2:(t.take k).Ok b:=⟨⟨fun x hx=>O.lk.lt x (List.mem_filter.mp hx).1,Nat.le_trans (List.length_filter_le _ _) O.lk.ll,O.lk.sl⟩,O.c1,O.c2,O.on,O.hc,List.Pairwise.sublist (List.Sublist.map _ List.filter_sublist) O.as⟩
 have tw:Tw m1 N T.p (t.take k) B:=⟨T,rfl,h2,To.beside hB M⟩
 rcases h2.hd with ⟨ed,kd⟩
 rcases bE7 (t:=t.take k) h2.len O.on hs with ⟨D,hD,el⟩
 rcases h2.hs i D hD with ⟨s',e1,hH⟩
 rw [show (t.take k).hs[i]?=some s from hs] at e1
 cases e1
 rcases Z.H.cls with ⟨dh,hd,hx,hi,hm⟩
 have so:aJ (.int s.own) (cD7 (t.take k) T)=true:=bB _ _ _ _
 rw [hl] at el so
 refine bY (t:=false) (bD (aX rfl (aO rfl h2.inst rfl) ?_)) ?_
 ·show Res.bind (inV (.int l.r) (.ref T.h) m1) _=_
  rw [bA kd rfl so,el];rfl
 refine bG (bJ Z tw rfl rfl rfl (aF (aC rfl (aF (cG (aE (eF (aO rfl h2.inst rfl) rfl (d7 kd rfl so el)) ⟨D.p,N.C,_,dh,N.ki+2,rfl,hH.inst,hd,rfl,hm 1 (by decide),aC rfl (dS (bT5 Z.H n l.w hH (by rw [sc.1];exact O.c1) (by rw [sc.1];exact O.c2) bl) fun m3 q3 l3 k3 g3 o3 H3 M3 y3=>?_)⟩))))))
 have H4:=h2.tells (t:=t.take k) (To.beside hB M) hD hs (aP6 s l.w) k3 g3 o3 H3 M3 y3
 have n5:(s.hear l.w).2.length <= 15:=by
  have:=(bX s l.w).2.2.2.2
  exact Nat.le_trans this (Nat.add_le_add_right (bS (show s.cnt <= 12 by rw [sc.1];exact O.c2)) 3)
 refine aG ?_
 have:=bN0 Z (n+4) H4 (aP6 s l.w) O2 (Nat.lt_of_le_of_lt (Nat.add_le_add_left (Nat.le_trans (Nat.mul_le_mul_left 13 n5) (by decide)) b) hb)
 rw [hl] at this
 exact this
end
end Mini
namespace Mini
open PySem
structure Wo.Ok (c:Int) (w:Wo):Prop where
 k:w.k=cK \/ w.k=dX
 n0:0 <= w.n
 n1:w.n <= 9999
 r:bP7 (.str w.r)=true
 h0:0 <= w.h
 h1:w.h < c
 c:w.k=cK->(w.n - w.h) % c=0
section
variable {S:Sig} {N:HN} {m m':MH} {T:Td} {t:Tn} {p b i:Nat} {B:List (Nat×MObj)} {s:Hs} {D:Hd}
theorem bS1 (Z:TF S N) (n:Nat) {h r:Int} {w:Wo} (H:Tw m N p t B) (O:t.Ok b) (h0:0 <= h) (h1:h < t.cnt) (hl:∀ s∈t.hs,s.own≠h) (r0:0 <= r) (r1:r < t.cnt) (hr:r≠h) (hw:w.Ok t.cnt) (hf:w.h=h \/ w∈t.said) (hb:b+300 < lid):Wp (run S (n+4) (N.ki+18) [.ref p,.int h,.int r,w.v]) m (fun u m'=>u=.int t.given /\ Tw m' N p ((t.say w).send ⟨h,r,w⟩) B) nox:=by
 rcases H with ⟨T,rfl,h1',hB⟩
 rcases Z.post with ⟨y_,hpd,y_,y_,hm1,y_⟩
 rcases Z.H.gM with ⟨y_,gM⟩
 rcases Z.gN with ⟨y_,gN⟩
 rcases Z.H.gL with ⟨y_,gL⟩
 rcases Z.H.gS with ⟨y_,gS⟩
 rcases h1'.hd with ⟨ed,kd⟩
 rcases h1'.sa with ⟨es,ks⟩
 have nd:=Td.ne h1'.nd
 have ew:run S (n+3) _ [.int t.cnt,w.v] m=.ok (.bool true) m:=bK9 Z.word Z.H.N_ Z.H.W Z.H.R Z.caller gM gN gL gS n O.c1 O.c2 hw.k hw.n0 hw.n1 hw.r hw.h0 hw.h1 hw.c
 refine bN Z.lie rfl (bY (t:=false) (aA8 (bT (x:=false) (eO (bD (bO rfl (b8 Z.H.W (n+2) h)))) (bT (x:=false) (bQ1 rfl (aO rfl h1'.inst rfl) h0 h1) (bT (x:=false) (bD (aX rfl (aO rfl h1'.inst rfl) ?_)) fN)))) ?_)
 ·show inV (.int h) (.ref T.h) m=_
  rw [bA kd rfl (bB _ _ _ _)]
  show Res.ok ((bP (.int h) (cD7 t T)).isSome) m=_
  rw [bE6 hl]
 refine bY (t:=false) (aA8 (bT (x:=false) (eO (bD (bO rfl (b8 Z.H.W (n+2) r)))) (bT (x:=false) (bQ1 rfl (aO rfl h1'.inst rfl) r0 r1) (bT (x:=false) (bD (aX rfl rfl ?_)) fN)))) ?_
 ·show Res.ok (r == h) m=_
  rw [beq_eq_false_iff_ne.mpr hr]
 refine bY (t:=false) (eO (bD (fO (vs:=[.int t.cnt,w.v]) ?_ ew))) ?_
 ·show Res.bind (ev S _ (.attr (.var 0) 8) _ m) _=_
  rw [aO (v:=.int t.cnt) rfl h1'.inst rfl];rfl
 have e4:evT S (run S (n+3)) (.all true [(.val (.cmp (.idx (.var 3) (.cnst (Lt.int 3))) [.NotEq] [(.var 1)])),(.val (.cmp (.var 3) [.NotIn] [(.attr (.var 0) 28)]))]) [some (.ref T.p),some (.int h),some (.int r),some w.v] m=.ok false m:=by
  have e1:evT S (run S (n+3)) (.val (.cmp (.idx (.var 3) (.cnst (Lt.int 3))) [.NotEq] [(.var 1)])) [some (.ref T.p),some (.int h),some (.int r),some w.v] m=.ok (!(w.h == h)) m:=bD (aX rfl rfl rfl)
  have e2:evT S (run S (n+3)) (.val (.cmp (.var 3) [.NotIn] [(.attr (.var 0) 28)])) [some (.ref T.p),some (.int h),some (.int r),some w.v] m=.ok (!decide (w∈t.said)) m:=by
   refine bD (aX rfl (aO rfl h1'.inst rfl) ?_)
   show Res.bind (inV w.v (.ref T.s) m) _=_
   rw [bA ks (k:=w.ky) rfl (dB _ _),aP0];rfl
  rw [aA8 (cI5 e1 (cI5 e2 fN))]
  rcases hf with hf | hf
  ·rw [hf,beq_self_eq_true];rfl
  ·rw [decide_eq_true hf,Bool.not_true,Bool.false_and,Bool.and_false]
 refine bY e4 ?_
 refine eC (aC rfl (aE (aO rfl h1'.inst rfl) (aC rfl (eB ks (k:=w.ky) rfl (dB _ _) (by unfold kD;rw [List.length_map];exact Nat.lt_of_le_of_lt O.lk.sl (Nat.lt_of_le_of_lt (Nat.le_add_right _ 300) hb)) ?_))))
 show Wp _ (m.set T.s (.dict (put w.ky (.bool true) (kD t.said)) (es+1))) _ _
 rw [aR9]
 have M1:Mod [T.o,T.l,T.s] m (m.set T.s (.dict (kD (aK4 w t.said)) (es+1))):=Mod.set (.tail _ (.tail _ (.head _)))
 have k1:To (m.set T.s (.dict (kD (aK4 w t.said)) (es+1))) N T (t.say w):=h1'.chg M1 (aN (fun c=>nd.2.1 c.symm) h1'.po) (h1'.le.imp fun e' k'=>aN (fun c=>nd.2.2 c.symm) k') ⟨_,aV ks⟩
 generalize m.set T.s (.dict (kD (aK4 w t.said)) (es+1))=m1 at M1 k1 ⊢
 refine bG (cG (aE (aO rfl k1.inst rfl) ⟨T.o,N.C+1,_,_,N.ki+10,rfl,k1.po,hpd,rfl,hm1,?_⟩))
 refine aC rfl ?_
 exact aU (bP4 Z (n+2) ⟨h,r,w⟩ k1 (O.lk.say w) (Nat.lt_of_le_of_lt (Nat.add_le_add_left (by decide) b) hb)) fun u m2 z=>⟨z.1,T,rfl,z.2.1,To.beside hB (M1.trans z.2.2)⟩
noncomputable def aX8 (x:Int×Lr):V:=.tup [.int x.1,x.2.v]
theorem cA6 (Z:TF S N) (n:Nat) (h:To m N T t) (O:t.Ok b) (hb:b < lid):Wp (run S (n+1) (N.ki+12) [.ref T.o]) m (fun u m'=>∃ q,u=.ref q /\ m'[q]?=some (.list (t.lets.map aX8)) /\ m.length <= q /\ Le m m') nox:=by
 rcases h.le with ⟨e,kd⟩
 have hs:biV .sorted [.ref T.l] m=alloc (.list (t.lets.map fun x=>V.int x.1)) m:=by
  unfold biV;dsimp only;rw [kd];dsimp only
  unfold aT7
  rw [aZ3];dsimp only
  rw [if_pos (.inr O.as),aR5 O.as,List.map_map];rfl
 refine bN Z.pwait rfl (bG (bD3 t.lets (fun x=>V.int x.1) aX8 (fun m'=>m'=m++[.list (t.lets.map fun x=>V.int x.1)]) (aF (aS4 (aF (aE (aO rfl h.po rfl) (aG (aE hs (aG (eI cP ⟨rfl,rfl,?_,?_,?_,?_⟩))))))))))
 ·intro m' em;rw [em];exact cV cP
 ·intro x hx m' em
  have l:=Le.app m [.list (t.lets.map fun x=>V.int x.1)]
  have ed:aQ9 (.ref T.l) (.int x.1) m'=.ok x.2.v m':=by
   rw [em]
   refine d7 (l.has kd) rfl (bB _ _ _ _) ?_
   unfold aT7;rw [eS,bE9 O.as (show (x.1,x.2)∈t.lets from hx)];rfl
  have po:=l.has h.po
  rw [<- em] at po
  exact aC rfl (aE (aY4 (aP rfl (aP (eF (aO rfl po rfl) rfl ed) rfl))) ⟨rfl,em⟩)
 ·exact Nat.le_trans O.lk.ll (Nat.le_of_lt hb)
 ·intro q m1 m2 em l2 k2 hq
  rw [em] at l2 hq
  exact ⟨q,rfl,k2,by rw [List.length_append] at hq;exact Nat.le_trans (Nat.le_add_right _ _) hq,(Le.app _ _).trans l2⟩
theorem aN5 (Z:TF S N) (n:Nat) (H:Tw m N p t B) (O:t.Ok b) (hb:b < lid):Wp (run S (n+2) (N.ki+19) [.ref p]) m (fun u m'=>∃ q,u=.ref q /\ Tw m' N p t ((q,.list (t.lets.map aX8))::B) /\ Le m m' /\ m.length <= q) nox:=by
 rcases id H with ⟨T,rfl,h1,hB⟩
 rcases Z.post with ⟨y_,hpd,y_,y_,y_,y_,hm1⟩
 refine bN Z.twait rfl (bG (cG (aE (aO rfl h1.inst rfl) ⟨T.o,N.C+1,_,_,N.ki+12,rfl,h1.po,hpd,rfl,hm1,aC rfl (aU (cA6 Z n h1 O hb) fun u m1 z=>?_)⟩)))
 rcases z with ⟨q,e,k,g,l⟩
 exact ⟨q,e,H.new l k g,l,g⟩
theorem bO3 (Z:TF S N) (n:Nat) (H:Tw m N p t B):Wp (run S (n+1) (N.ki+20) [.ref p]) m (fun u m'=>∃ q,u=.ref q /\ Tw m' N p t ((q,.list (t.said.map Wo.v))::B) /\ Le m m' /\ m.length <= q) nox:=by
 rcases id H with ⟨T,rfl,h1,hB⟩
 rcases h1.sa with ⟨es,ks⟩
 have el:biV .list [.ref T.s] m=alloc (.list (t.said.map Wo.v)) m:=by unfold biV;dsimp only;rw [ks];dsimp only;rw [bS8]
 refine bN Z.spoken rfl (bG (aS4 (aF (aE (aO rfl h1.inst rfl) (aG (aB8 el (aM fun q m1 l k g=>⟨q,rfl,H.new l k g,l,g⟩)))))))
theorem aK6 (Z:TF S N) (n:Nat) (H:Tw m N p t B) (O:t.Ok b) (hs:t.hs[i]?=some s) (hl:s.rows.length < 64) (nd:(s.rows.map (·.1)).Nodup):Wp (run S (n+3) (N.ki+21) [.ref p,.int s.own]) m (fun u m'=>∃ q e,u=.ref q /\ Tw m' N p t ((q,.dict (aX2 s.rows) e)::B) /\ Le m m' /\ m.length <= q) nox:=by
 rcases id H with ⟨T,rfl,h1,hB⟩
 rcases aH4 Z n h1 O.on hs with ⟨D,hD,hH,eh⟩
 rcases Z.H.cls with ⟨dh,hd,hx,hi,hm⟩
 refine bN Z.tledger rfl (bG (cG (bJ Z H rfl rfl rfl (aC rfl (aE eh ⟨D.p,N.C,_,dh,N.ki+6,rfl,hH.inst,hd,rfl,hm 5 (by decide),aC rfl (cR4 (bS4 Z.H (n+1) hH hl) fun m1 q e k g l=>⟨q,e,rfl,?_,l,g⟩)⟩)))))
 rw [dB7 nd] at k
 exact H.new l k g
theorem bH7 (Z:TF S N) (n:Nat) (H:Tw m N p t B) (O:t.Ok b) (hs:t.hs[i]?=some s):Wp (run S (n+3) (N.ki+23) [.ref p,.int s.own]) m (fun u m'=>∃ q,u=.ref q /\ Tw m' N p t ((q,.list (bI5 s.named))::B) /\ Le m m' /\ m.length <= q) nox:=by
 rcases id H with ⟨T,rfl,h1,hB⟩
 rcases aH4 Z n h1 O.on hs with ⟨D,hD,hH,eh⟩
 rcases Z.H.cls with ⟨dh,hd,hx,hi,hm⟩
 exact bN Z.tcaught rfl (bG (cG (bJ Z H rfl rfl rfl (aC rfl (aE eh ⟨D.p,N.C,_,dh,N.ki+8,rfl,hH.inst,hd,rfl,hm 7 (by decide),aC rfl (aE (bV5 Z.H (n+1) hH) ⟨_,rfl,H.new (.app _ _) cP (Nat.le_refl _),.app _ _,Nat.le_refl _⟩)⟩)))))
end
end Mini
namespace Mini
open PySem
noncomputable def aP4 (L:List Int) (a:List Nat):List Int:=(a.map fun (j:Nat)=>(j:Int)).filter fun j=>!(L.any fun y=>y == j)
noncomputable def eG (c:Int) (L:List Int):List Int:=aP4 L (List.range c.toNat)
noncomputable def Tn.new (c:Int) (L:List Int):Tn:=⟨c,(eG c L).map (Hs.new c),0,[],[]⟩
theorem cJ4 (L:List Int) (j:Int):(bP (.int j) (iD L)).isSome=L.any fun y=>y == j:=by rw [cD6,eU];rfl
theorem dD2 {L:List Int} {j:Int} (h:j∉L):put (.int j) (.bool true) (iD L)=iD (L++[j]):=by
 rw [cD6,aA9]
 ·unfold iD tD;rw [List.map_append];rfl
 ·rw [List.any_eq_false]
  intro x hx e
  exact h (eq_of_beq e▸hx)
theorem aB5 (L:List Int) (a:List Nat) (j:Nat):aP4 L (a++[j])=if (L.any fun y=>y == (j:Int))=true then aP4 L a else aP4 L a++[(j:Int)]:=by
 unfold aP4
 rw [List.map_append,List.filter_append]
 show _++List.filter _ [(j:Int)]=_
 rw [List.filter_cons,List.filter_nil]
 cases L.any fun y=>y == (j:Int)
 ·rfl
 ·exact List.append_nil _
theorem aP1 {L:List Int} {c:Int} (nd:L.Nodup) (hL:∀ x∈L,0 <= x /\ x < c):L.length <= c.toNat:=by
 have h1:(L.map Int.toNat).Nodup:=List.pairwise_map.mpr (List.Pairwise.imp_of_mem (fun {x y} hx hy hne e=>hne (by rw [<- Int.toNat_of_nonneg (hL x hx).1,<- Int.toNat_of_nonneg (hL y hy).1,e])) nd)
 have h2:L.map Int.toNat ⊆ List.range c.toNat:=fun y hy=>by
  rcases List.mem_map.mp hy with ⟨x,hx,rfl⟩
  have:=hL x hx
  exact List.mem_range.mpr (by lia)
 have:=h1.length_le_of_subset h2
 rw [List.length_map,List.length_range] at this
 exact this
section
variable {S:Sig} {N:HN} {m m':MH} {p q:Nat} {B:List (Nat×MObj)}
theorem cA8 (Z:TF S N) (n:Nat) (h:m[q]?=some (.inst (N.C+1) [])):Wp (run S (n+1) (N.ki+9) [.ref q]) m (fun u m'=>u=.none /\ m'[q]?=some (.inst (N.C+1) [(20,.int 0),(21,.ref m.length)]) /\ m'[m.length]?=some (.dict [] 0) /\ Mod [q] m m') nox:=by
 refine bN Z.pinit rfl (aA6 (aC rfl (aC rfl ⟨q,N.C+1,[],rfl,h,?_⟩)))
 have h1:=aV (o':=.inst (N.C+1) [(20,.int 0)]) h
 have hl:(m.set q (.inst (N.C+1) [(20,.int 0)])).length=m.length:=List.length_set
 show Wp _ (m.set q (.inst (N.C+1) [(20,.int 0)])) _ _
 have M0:Mod [q] m (m.set q (.inst (N.C+1) [(20,.int 0)])):=Mod.set (.head _)
 generalize m.set q (.inst (N.C+1) [(20,.int 0)])=m1 at h1 hl M0 ⊢
 exact cY rfl rfl h1 hl fun m2 i2 n2 f2 L2 M2=>cU ⟨rfl,i2,n2,M0.trans M2⟩
inductive TL1 (q p d:Nat) (c:Int) (L:List Int) (m:MH) (zs:List Int) (r:Lo) (m':MH):Prop
 | mk (a:List Int) (e:Nat) (x:Option V) (el:L=a++zs) (er:r=[some (.ref p),some (.int c),some (.ref q),some (.ref d),x]) (kd:m'[d]?=some (.dict (iD a) e)) (l:Le m m')
inductive TL2 (N:HN) (q p d h:Nat) (c:Int) (L:List Int) (m:MH) (zs:List Nat) (r:Lo) (m':MH):Prop
 | mk (a:List Nat) (ds:List Hd) (e:Nat) (x:Option V) (el:List.range c.toNat=a++zs) (er:r=[some (.ref p),some (.int c),some (.ref q),some (.ref d),x])
   (kh:m'[h]?=some (.dict (tD (·.1) (fun x:Int×Nat=>V.ref x.2) ((aP4 L a).zip (ds.map (·.p)))) e)) (M:Mod [h] m m')
   (hs:∀ (i:Nat) (D:Hd),ds[i]?=some D->∃ o,(aP4 L a)[i]?=some o /\ Ho m' N.C D (Hs.new c o)) (len:ds.length=(aP4 L a).length) (fr:∀ D∈ds,∀ x∈D.all,m.length <= x)
   (dd:∀ (i j:Nat) (D D':Hd),ds[i]?=some D->ds[j]?=some D'->i≠j->∀ x∈D.all,x∉D'.all)
theorem cD8 {L:List Int} {a:List Nat} {x:Int} (h:x∈aP4 L a):∃ j∈a,x=(j:Int):=by
 have:=(List.mem_filter.mp h).1
 rcases List.mem_map.mp this with ⟨j,h1,h2⟩
 exact ⟨j,h1,h2.symm⟩
theorem nd5 {a b c d e:Nat} (h1:a < b) (h2:b < c) (h3:c < d) (h4:d < e):[a,b,c,d,e].Nodup:=by
 have h12:=Nat.lt_trans h1 h2
 have h13:=Nat.lt_trans h12 h3
 have h23:=Nat.lt_trans h2 h3
 simp only [List.nodup_cons,List.mem_cons,List.not_mem_nil,or_false,not_or,not_false_eq_true,List.nodup_nil,and_true]
 exact ⟨⟨Nat.ne_of_lt h1,Nat.ne_of_lt h12,Nat.ne_of_lt h13,Nat.ne_of_lt (Nat.lt_trans h13 h4)⟩,⟨Nat.ne_of_lt h2,Nat.ne_of_lt h23,Nat.ne_of_lt (Nat.lt_trans h23 h4)⟩,⟨Nat.ne_of_lt h3,Nat.ne_of_lt (Nat.lt_trans h3 h4)⟩,Nat.ne_of_lt h4⟩
set_option tactic.hygienic true in
theorem bY8 (Z:TF S N) (n:Nat) {c:Int} {L:List Int} {q p d h:Nat} {m3:MH} {e:Nat} {Q:Fl×Lo->MH->Prop} (c1:1 <= c) (c2:c <= 12) (i3:m3[p]?=some (.inst (N.C+2) [(8,.int c),(26,.ref h)])) (ph:p < h) (hlt:h < m3.length) (kd3:m3[d]?=some (.dict (iD L) e)) (dh:d≠h) {j:Nat} {js:List Nat} {r:Lo} {m4:MH} (I:TL2 N q p d h c L m3 (j::js) r m4) :
  Wp (aE1 (.one 4) (V.int (0+(j:Int))) r) m4 (fun r' m'=>Wp (exs S (run S (n+3)) [(.ite (.val (.cmp (.var 4) [.NotIn] [(.var 3)])) [(.asg (.idx (.attr (.var 0) 26) (.var 4)) (.new N.C [(.var 1),(.var 4)]))] [])] r') m' (aX1 Q (TL2 N q p d h c L m3) js) nox) nox:=by
 rcases I with ⟨a,ds,e4,x4,el,er,kh,M,hs,len,fr,dd⟩
 subst er
 have dh:d∉[h]:=fun c=>dh (List.mem_singleton.mp c)
 have kd4:=M.has kd3 dh
 have i4:=M.has i3 fun c=>absurd (List.mem_singleton.mp c) (Nat.ne_of_lt ph)
 have ejs:List.range c.toNat=(a++[j])++js:=by rw [el,List.append_assoc];rfl
 refine aC rfl (bY (t:=!(L.any fun y=>y == (0+(j:Int)))) (bD (aX rfl rfl ?_)) ?_)
 ·show Res.bind (inV (.int (0+(j:Int))) (.ref d) m4) _=_
  rw [bA kd4 rfl (eN _ _),cJ4];rfl
 rw [Int.zero_add]
 cases hz:L.any fun y=>y == (j:Int) with
 | true=>
  refine cU ⟨a++[j],ds,e4,_,ejs,rfl,?_,M,?_,?_,fr,dd⟩
  all_goals rw [aB5,if_pos hz]
  ·exact kh
  ·exact hs
  ·exact len
 | false=>
  have hj:j < c.toNat:=List.mem_range.mp (by rw [el];exact List.mem_append_right _ (.head _))
  have hj':(j:Int) < c:=by lia
  rcases Z.H.cls with ⟨dc,hd,hx,hi,hm⟩
  refine eC (bQ5 (aC rfl ⟨dc,N.ki,hd,hx,hi,?_⟩))
  refine aU (cS5 Z.H n (p:=m4.length) c1 c2 (Int.natCast_nonneg j) hj' cP) fun u m5 z=>?_
  rcases z with ⟨hu,D,hDp,hH,M5,hD⟩
  refine ⟨hu,?_⟩
  have L5:Le m4 m5:=by
   refine ⟨Nat.le_trans (by rw [List.length_append];exact Nat.le_add_right _ _) M5.1,fun y hy=>?_⟩
   rw [M5.2 y (by rw [List.length_append];exact Nat.lt_of_lt_of_le hy (Nat.le_add_right _ _)) fun c=>absurd (List.mem_singleton.mp c) (Nat.ne_of_lt hy),List.getElem?_append_left hy]
  have Df:∀ y∈D.all,m4.length <= y:=fun y hy=>by
   rcases hD y hy with rfl | hy
   ·exact Nat.le_refl _
   ·rw [List.length_append] at hy;exact Nat.le_trans (Nat.le_add_right _ _) hy
  have kh5:=L5.has kh
  have le34:=M.1
  refine aE (aO rfl (L5.has i4) rfl) (aC rfl (eB kh5 (k:=.int (j:Int)) rfl (bB _ _ _ _) ?_ ?_))
  ·unfold tD
   rw [List.length_map,List.length_zip]
   refine Nat.lt_of_le_of_lt (Nat.min_le_left _ _) ?_
   refine Nat.lt_of_le_of_lt (List.length_filter_le _ _) ?_
   rw [List.length_map]
   have:=congrArg List.length el
   rw [List.length_range,List.length_append] at this
   exact Nat.lt_of_le_of_lt (Nat.le_trans (Nat.le_add_right _ _) (this▸bS c2)) (by decide)
  have na:((aP4 L a).zip (ds.map (·.p))).any (fun x=>x.1 == (j:Int))=false:=by
   rw [List.any_eq_false]
   intro y hy e
   have:y.1∈aP4 L a:=(List.of_mem_zip (a:=y.1) (b:=y.2) hy).1
   rcases cD8 this with ⟨i,h1,h2⟩
   have:j∈a:=by
    have:(i:Int)=(j:Int):=h2.symm.trans (eq_of_beq e)
    rw [<- Int.ofNat_inj.mp this];exact h1
   have nr:(List.range c.toNat).Nodup:=List.nodup_range
   rw [el] at nr
   exact (List.nodup_append.mp nr).2.2 j this j (.head _) rfl
  have ep:put (.int (j:Int)) (.ref m4.length) (tD (·.1) (fun x:Int×Nat=>V.ref x.2) ((aP4 L a).zip (ds.map (·.p))))=tD (·.1) (fun x:Int×Nat=>V.ref x.2) ((aP4 L (a++[j])).zip ((ds++[D]).map (·.p))):=by
   rw [aA9 _ _ _ _ _ na,aB5,if_neg (by rw [hz];exact Bool.false_ne_true),List.map_append,List.zip_append (by rw [List.length_map];exact len.symm)]
   unfold tD
   rw [List.map_append]
   show _=_++[(Ky.int (j:Int),V.ref D.p)]
   rw [hDp]
  rw [ep]
  have hmod:Mod [h] m5 (m5.set h (.dict (tD (·.1) (fun x:Int×Nat=>V.ref x.2) ((aP4 L (a++[j])).zip ((ds++[D]).map (·.p)))) (e4+1))):=Mod.set (.head _)
  have ge:∀ (i:Nat) (D':Hd),(ds++[D])[i]?=some D'->(i < ds.length /\ ds[i]?=some D') \/ (i=ds.length /\ D'=D):=fun i D' e=>by
   rcases Nat.lt_or_ge i ds.length with z | z
   ·rw [List.getElem?_append_left z] at e;exact .inl ⟨z,e⟩
   ·rw [List.getElem?_append_right z] at e
    have:i - ds.length=0:=by
     cases h:i - ds.length with
     | zero=>rfl
     | succ k=>rw [h] at e;cases e
    rw [this] at e
    exact .inr ⟨Nat.le_antisymm (Nat.le_of_sub_eq_zero this) z,(Option.some.inj e).symm⟩
  have frD:∀ y∈D.all,m3.length <= y:=fun y hy=>Nat.le_trans le34 (Df y hy)
  have oldlt:∀ (i:Nat) (D':Hd),ds[i]?=some D'->∀ y∈D'.all,y < m4.length:=fun i D' e y hy=>by
   rcases hs i D' e with ⟨o,y_,h2⟩
   exact h2.lt y hy
  refine cU ⟨a++[j],ds++[D],e4+1,_,ejs,rfl,aV kh5,M.trans (L5.mod.trans hmod),fun i D' e=>?_,?_,fun D' hD'=>?_,fun i k D1 D2 e1 e2 hne y hy=>?_⟩
  ·rcases ge i D' e with ⟨z,e⟩ | ⟨rfl,rfl⟩
   ·rcases hs i D' e with ⟨o,h1,h2⟩
    exact ⟨o,by rw [aB5,if_neg (by rw [hz];exact Bool.false_ne_true),List.getElem?_append_left (by rw [<- len];exact z)];exact h1,(h2.le L5).mod hmod fun y hy c=>by
     have:=fr D' (List.mem_of_getElem? e) y hy
     rw [List.mem_singleton.mp c] at this
     exact Nat.not_lt.mpr this hlt⟩
   ·refine ⟨(j:Int),by rw [aB5,if_neg (by rw [hz];exact Bool.false_ne_true),len,List.getElem?_append_right (Nat.le_refl _),Nat.sub_self];rfl,hH.mod hmod fun y hy c=>?_⟩
    have:=frD y hy
    rw [List.mem_singleton.mp c] at this
    exact Nat.not_lt.mpr this hlt
  ·rw [aB5,if_neg (by rw [hz];exact Bool.false_ne_true),List.length_append,List.length_append,len];rfl
  ·rcases List.mem_append.mp hD' with h | h
   ·exact fr D' h
   ·rw [List.mem_singleton.mp h];exact frD
  ·rcases ge i D1 e1 with ⟨z1,e1⟩ | ⟨z1,rfl⟩
   ·rcases ge k D2 e2 with ⟨z2,e2⟩ | ⟨z2,rfl⟩
    ·exact dd i k D1 D2 e1 e2 hne y hy
    ·rename_i e0
     exact fun c=>Nat.not_lt.mpr (Df y c) (oldlt i D1 e0 y hy)
   ·rcases ge k D2 e2 with ⟨z2,e2⟩ | ⟨z2,rfl⟩
    ·exact fun c=>Nat.not_lt.mpr (Df y hy) (oldlt k D2 e2 y c)
    ·exact absurd (z1.trans z2.symm) hne
theorem cN7 (Z:TF S N) (n:Nat) {c:Int} {L:List Int} {q p d h:Nat} {m3:MH} (i3:m3[p]?=some (.inst (N.C+2) [(8,.int c),(26,.ref h)])) (ph:p < h) (hlt:h < m3.length) (hB:∀ x∈B,x.1≠p /\ x.1 < h /\ m3[x.1]?=some x.2) {r:Lo} {m4:MH} (I:TL2 N q p d h c L m3 [] r m4) :
  Wp (exs S (run S (n+3)) [(.asg (.attr (.var 0) 27) (.new (N.C+1) [])),(.asg (.attr (.var 0) 28) (.dict [] []))] r) m4 (bK6 fun u m'=>u=.none /\ Tw m' N p (Tn.new c L) B) nox:=by
 rcases I with ⟨a,ds,e4,x4,el,er,kh,M,hs,len,fr,dd⟩
 subst er
 rw [List.append_nil] at el
 have i4:=M.has i3 fun c=>absurd (List.mem_singleton.mp c) (Nat.ne_of_lt ph)
 have B4:∀ x∈B,m4[x.1]?=some x.2:=fun x hx=>M.has ((hB x hx).2.2) fun c=>absurd (List.mem_singleton.mp c) (Nat.ne_of_lt (hB x hx).2.1)
 rcases Z.post with ⟨dp,hpd,hpx,hpi,y_⟩
 refine aA6 (bQ5 (aG ⟨dp,N.ki+9,hpd,hpx,hpi,aU (cA8 Z (n+2) (q:=m4.length) cP) fun u m5 z=>?_⟩))
 rcases z with ⟨hu,k5,k5',M5⟩
 refine ⟨hu,?_⟩
 have L5:Le m4 m5:=by
  refine ⟨Nat.le_trans (by rw [List.length_append];exact Nat.le_add_right _ _) M5.1,fun y hy=>?_⟩
  rw [M5.2 y (by rw [List.length_append];exact Nat.lt_of_lt_of_le hy (Nat.le_add_right _ _)) fun c=>absurd (List.mem_singleton.mp c) (Nat.ne_of_lt hy),List.getElem?_append_left hy]
 rw [List.length_append] at k5 k5'
 have k5:m5[m4.length]?=some (.inst (N.C+1) [(20,.int 0),(21,.ref (m4.length+1))]):=k5
 have k5':m5[m4.length+1]?=some (.dict [] 0):=k5'
 refine aC rfl ⟨p,N.C+2,_,rfl,L5.has i4,?_⟩
 show Wp _ (m5.set p (.inst (N.C+2) [(8,.int c),(26,.ref h),(27,.ref m4.length)])) _ _
 have i6:=aV (o':=.inst (N.C+2) [(8,.int c),(26,.ref h),(27,.ref m4.length)]) (L5.has i4)
 have M6:Mod [p] m5 (m5.set p (.inst (N.C+2) [(8,.int c),(26,.ref h),(27,.ref m4.length)])):=Mod.set (.head _)
 generalize m5.set p (.inst (N.C+2) [(8,.int c),(26,.ref h),(27,.ref m4.length)])=m6 at i6 M6 ⊢
 refine cY rfl rfl i6 rfl fun m7 i7 n7 f7 L7 M7=>?_
 have le34:=M.1
 have h34:h < m4.length:=Nat.lt_of_lt_of_le hlt le34
 have l6:m4.length+1 < m6.length:=Nat.lt_of_lt_of_le (aS k5') M6.1
 have up:∀ (y:Nat) (o:MObj),y≠p->m5[y]?=some o->m7[y]?=some o:=fun y o hy k=>f7 y o hy (M6.has k fun c=>hy (List.mem_singleton.mp c))
 have m57:Mod [p] m5 m7:=M6.trans M7
 have pD:∀ D∈ds,∀ y∈D.all,y∉[p]:=fun D hD y hy c=>by
  have:=fr D hD y hy
  rw [List.mem_singleton.mp c] at this
  exact Nat.not_lt.mpr this (Nat.lt_trans ph hlt)
 have Dlt:∀ D∈ds,∀ y∈D.all,y < m4.length:=fun D hD y hy=>by
  rcases List.getElem?_of_mem hD with ⟨i,e⟩
  rcases hs i D e with ⟨o,y_,h2⟩
  exact h2.lt y hy
 have ea:aP4 L a=eG c L:=by unfold eG;rw [el]
 have eo:((eG c L).map (Hs.new c)).map (·.own)=eG c L:=by rw [List.map_map];exact List.map_id _
 refine cU ⟨rfl,⟨p,h,m4.length,m4.length+1,m6.length,ds⟩,rfl,⟨i7,⟨e4,?_⟩,up _ _ (Nat.ne_of_lt (Nat.lt_trans ph h34)).symm k5,⟨0,up _ _ (Nat.ne_of_lt (Nat.lt_trans (Nat.lt_trans ph h34) (Nat.lt_succ_self _))).symm k5'⟩,⟨0,n7⟩,fun i D e=>?_,?_,?_,fun D hD y hy c=>?_,dd⟩,fun x hx=>⟨fun c=>?_,up _ _ (hB x hx).1 (L5.has (B4 x hx))⟩⟩
 ·show m7[h]?=some (.dict (tD _ _ ((((eG c L).map (Hs.new c)).map (·.own)).zip (ds.map (·.p)))) e4)
  rw [eo,<- ea]
  exact up _ _ (Nat.ne_of_lt ph).symm (L5.has kh)
 ·rcases hs i D e with ⟨o,h1,h2⟩
  refine ⟨Hs.new c o,?_,(h2.le L5).mod m57 (pD D (List.mem_of_getElem? e))⟩
  show ((eG c L).map (Hs.new c))[i]?=_
  rw [List.getElem?_map,<- ea,h1];rfl
 ·show ds.length=((eG c L).map (Hs.new c)).length
  rw [List.length_map,<- ea];exact len
 ·exact nd5 ph h34 (Nat.lt_succ_self _) l6
 ·have c:y∈[p,h,m4.length,m4.length+1,m6.length]:=c
  have y1:=fr D hD y hy
  have y2:=Dlt D hD y hy
  simp only [List.mem_cons,List.not_mem_nil,or_false] at c
  rcases c with rfl | rfl | rfl | rfl | rfl
  ·exact Nat.not_lt.mpr y1 (Nat.lt_trans ph hlt)
  ·exact Nat.not_lt.mpr y1 hlt
  ·exact Nat.lt_irrefl _ y2
  ·exact Nat.not_lt.mpr (Nat.le_succ _) y2
  ·exact Nat.lt_irrefl _ (Nat.lt_trans y2 (Nat.lt_trans (Nat.lt_succ_self _) l6))
 ·rcases Td.mem.mp c with c | ⟨D,hD,c⟩
  ·have c:x.1∈[p,h,m4.length,m4.length+1,m6.length]:=c
   have xl:=(hB x hx).2.1
   simp only [List.mem_cons,List.not_mem_nil,or_false] at c
   rcases c with c | c | c | c | c
   ·exact (hB x hx).1 c
   all_goals rw [c] at xl
   ·exact Nat.lt_irrefl _ xl
   ·exact Nat.lt_irrefl _ (Nat.lt_trans xl h34)
   ·exact Nat.lt_irrefl _ (Nat.lt_trans xl (Nat.lt_trans h34 (Nat.lt_succ_self _)))
   ·exact Nat.lt_irrefl _ (Nat.lt_trans xl (Nat.lt_trans h34 (Nat.lt_trans (Nat.lt_succ_self _) l6)))
  ·exact Nat.not_lt.mpr (fr D hD _ c) (Nat.lt_trans (hB x hx).2.1 hlt)
theorem bY9 (Z:TF S N) (n:Nat) {c:Int} {L:List Int} (hp:m[p]?=some (.inst (N.C+2) [])) (hB:∀ x∈B,x.1≠p /\ m[x.1]?=some x.2) (hq:m[q]?=some (.list (L.map V.int))) (c1:1 <= c) (c2:c <= 12) (hL:∀ x∈L,0 <= x /\ x < c) (nd:L.Nodup):Wp (run S (n+4) (N.ki+13) [.ref p,.int c,.ref q]) m (fun u m'=>u=.none /\ Tw m' N p (Tn.new c L) B) nox:=by
 rcases Z.H.gM with ⟨y_,gM⟩
 have en:run S (n+3) N.kN [.int c] m=.ok .none m:=by
  exact aB1 Z.H.N_ Z.H.W gM (n+1) c1 c2
 have ei:aQ8 S (.ref q) .list m=.ok true m:=by unfold aQ8;dsimp only;rw [hq];rfl
 have plt:=aS hp
 refine bN Z.tinit rfl (fD (aE (bO rfl en) (bY (t:=false) (eO (bD (q_isi rfl ei))) (aW (aE (a:=.ref m.length) (m':=m++[.dict [] 0]) rfl ?_)))))
 have l0:Le m (m++[.dict [] 0]):=.app _ _
 have k0:(m++[.dict [] 0])[m.length]?=some (.dict [] 0):=cP
 generalize m++[MObj.dict [] 0]=m0 at l0 k0 ⊢
 refine aL2 L V.int (TL1 q p m.length c L m) (aF (aC rfl (aG (eI (l0.has hq) ⟨rfl,⟨[],0,none,rfl,rfl,k0,l0⟩,?_,?_,?_⟩))))
 ·rintro zs r m' ⟨a,e,x,el,er,kd,l⟩
  exact cV (l.has hq)
 ·rintro z zs r m' ⟨a,e,x,el,er,kd,l⟩
  subst er
  have hz:=hL z (by rw [el];exact List.mem_append_right _ (.head _))
  have za:z∉a:=fun c=>by rw [el] at nd;exact (List.nodup_append.mp nd).2.2 z c z (.head _) rfl
  have al:a.length < lid:=by
   have h1:a.length <= L.length:=by rw [el,List.length_append];exact Nat.le_add_right _ _
   have h2:=aP1 nd hL
   exact Nat.lt_of_le_of_lt (Nat.le_trans h1 (Nat.le_trans h2 (bS c2))) (by decide)
  refine aC rfl (bY (t:=false) (aA8 (bT (x:=false) (eO (bD (bO rfl (b8 Z.H.W (n+2) z)))) (bT (x:=false) (bQ1 rfl rfl hz.1 hz.2) (bT (x:=false) (bD (aX rfl rfl ?_)) fN)))) ?_)
  ·show inV (.int z) (.ref m.length) m'=_
   rw [bA kd rfl (eN _ _),cJ4]
   rw [show (a.any fun y=>y == z)=false from List.any_eq_false.mpr fun x hx e=>za (eq_of_beq e▸hx)]
  ·refine eC (aC rfl (aC rfl (aC rfl (eB kd (k:=.int z) rfl (eN _ _) (by unfold iD;rw [List.length_map];exact al) ?_))))
   show Wp _ (m'.set m.length (.dict (put (.int z) (.bool true) (iD a)) (e+1))) _ _
   rw [dD2 za]
   exact cU ⟨a++[z],e+1,some (.int z),by rw [el,List.append_assoc];rfl,rfl,aV kd,l.set (Nat.le_refl _) _⟩
 ·rintro r m1 ⟨a,e,x,el,er,kd,l⟩
  subst er
  rw [List.append_nil] at el
  subst el
  have hp1:=l.has hp
  refine aA6 (aC rfl (aC rfl ⟨p,N.C+2,[],rfl,hp1,?_⟩))
  show Wp _ (m1.set p (.inst (N.C+2) [(8,.int c)])) _ _
  have hp2:=aV (o':=.inst (N.C+2) [(8,.int c)]) hp1
  have M2:Mod [p] m1 (m1.set p (.inst (N.C+2) [(8,.int c)])):=Mod.set (.head _)
  generalize m1.set p (.inst (N.C+2) [(8,.int c)])=m2 at hp2 M2 ⊢
  refine cY rfl rfl hp2 rfl fun m3 i3 n3 f3 L3 M3=>?_
  have i3:m3[p]?=some (.inst (N.C+2) [(8,.int c),(26,.ref m2.length)]):=i3
  have ph:p < m2.length:=Nat.lt_of_lt_of_le (aS hp1) M2.1
  have dlt:m.length < m1.length:=aS kd
  have dm:m.length≠p:=(Nat.ne_of_lt plt).symm
  have kd3:m3[m.length]?=some (.dict (iD L) e):=f3 _ _ dm (M2.has kd fun c=>dm (List.mem_singleton.mp c))
  have B3:∀ x∈B,m3[x.1]?=some x.2:=fun x hx=>f3 _ _ (hB x hx).1 (M2.has (l.has (hB x hx).2) fun c=>(hB x hx).1 (List.mem_singleton.mp c))
  have Blt:∀ x∈B,x.1 < m2.length:=fun x hx=>Nat.lt_of_lt_of_le (aS (l.has (hB x hx).2)) M2.1
  refine aL2 (List.range c.toNat) (fun (j:Nat)=>V.int (0+(j:Int))) (TL2 N q p m.length m2.length c L m3) (aF (aC rfl (aG (aE (aN6 (Nat.lt_of_lt_of_le (fK (c:=13) (Int.le_trans (by decide) c1) (Int.lt_of_le_of_lt c2 (by decide:(12:Int) < 13)) (by decide)) (by decide))) ⟨rfl,⟨[],[],0,x,rfl,rfl,n3,Mod.refl _ _,fun y_ y_ h=>absurd h (by simp),rfl,fun y_ h=>absurd h List.not_mem_nil,fun y_ y_ y_ y_ h=>absurd h (by simp)⟩,fun y_ y_ y_ y_=>rfl,?_,?_⟩))))
  ·exact fun j js r m4 I=>bY8 Z n c1 c2 i3 ph (aS n3) kd3 (Nat.ne_of_lt (Nat.lt_of_lt_of_le dlt M2.1)) I
  ·exact fun r m4 I=>cN7 Z n i3 ph (aS n3) (fun x hx=>⟨(hB x hx).1,Blt x hx,B3 x hx⟩) I
end
end Mini
namespace Mini
open PySem
theorem unlike_iff {a b:Wo}:aT a b=true↔a.h=b.h /\ a.k=b.k /\ a.n=b.n /\ a.r≠b.r:=by
 unfold aT
 rw [Bool.and_eq_true,Bool.and_eq_true,Bool.and_eq_true,beq_iff_eq,beq_iff_eq,beq_iff_eq,bne_iff_ne]
 exact ⟨fun h=>⟨h.1.1.1,h.1.1.2,h.1.2,h.2⟩,fun h=>⟨⟨⟨h.1,h.2.1⟩,h.2.2.1⟩,h.2.2.2⟩⟩
theorem dI:cK≠dX:=by decide
theorem cK1 {c:Int} (h:1 <= c):0 < bC c:=by
 unfold bC
 exact Int.lt_add_one_iff.mpr (Int.ediv_nonneg (Int.add_nonneg (Int.le_trans (by decide) h) (Int.ediv_nonneg (Int.sub_nonneg_of_le h) (by decide))) (by decide))
theorem bD5 {α β:Type} {l:List α} {f:α->β} (nd:(l.map f).Nodup) {i j:Nat} {a b:α} (hi:l[i]?=some a) (hj:l[j]?=some b) (e:f b=f a):i=j:=by
 have h1:(l.map f)[i]?=some (f a):=by rw [List.getElem?_map,hi];rfl
 have h2:(l.map f)[j]?=some (f a):=by rw [List.getElem?_map,hj,<- e];rfl
 exact (List.getElem?_inj (List.getElem?_eq_some_iff.mp h1).1 nd).mp (h1.trans h2.symm)
theorem bD6 {α β:Type} {l:List α} {f:α->β} (nd:(l.map f).Nodup) {a b:α} (ha:a∈l) (hb:b∈l) (e:f b=f a):b=a:=by
 rcases List.getElem?_of_mem ha with ⟨i,hi⟩
 rcases List.getElem?_of_mem hb with ⟨j,hj⟩
 have:=bD5 nd hi hj e
 subst this
 rw [hi] at hj
 exact (Option.some.inj hj).symm
theorem bP3 {α β:Type} {l:List α} {f:α->β} (nd:(l.map f).Nodup) {i:Nat} {s x y:α} (hs:l[i]?=some s) (h:y∈l.set i x):y=x \/ (y∈l /\ f y≠f s):=by
 rcases List.getElem?_of_mem h with ⟨j,e⟩
 by_cases q:i=j
 ·subst q
  rw [List.getElem?_set_self (List.getElem?_eq_some_iff.mp hs).1] at e
  exact .inl (Option.some.inj e).symm
 ·rw [List.getElem?_set_ne q] at e
  exact .inr ⟨List.mem_of_getElem? e,fun c=>q (bD5 nd hs e c)⟩
structure Hs.Fine (s:Hs) (P:Wo->Prop):Prop where
 kn:∀ w∈s.known,P w
 ow:∀ w,P w->w.h=s.own->w∈s.known
 my:∀ w∈s.known,w.h=s.own->(w.k=dX /\ w.n∈s.marked) \/ (w.k=cK /\ w.n < s.onw)
 un:∀ a∈s.known,∀ b∈s.known,a.h=s.own->¬ aT a b=true
 ro:(s.rows.map (·.1)).Nodup
 rk:∀ x∈s.rows,∀ w∈x.2.2,w∈s.known /\ w=mrk x.1 x.2.1 w.h
 rd:∀ x∈s.rows,(x.2.2.map (·.h)).Nodup
 re:∀ x∈s.rows,bC s.cnt <= (x.2.2.length:Int)
 na:(s.named.map (·.1)).Nodup
 nk:∀ x∈s.named,x.2.1∈s.known /\ x.2.2∈s.known /\ aT x.2.1 x.2.2=true /\ x.1=x.2.2.h
theorem Hs.Fine.imp {s:Hs} {P P':Wo->Prop} (h:s.Fine P) (k:∀ w,P w->P' w) (l:∀ w,P' w->w.h=s.own->w∈s.known):s.Fine P':=
 ⟨fun w q=>k w (h.kn w q),l,h.my,h.un,h.ro,h.rk,h.rd,h.re,h.na,h.nk⟩
set_option tactic.hygienic true in
theorem mem_addW {w x:Wo} {l:List Wo}:x∈aK4 w l↔x=w \/ x∈l:=by
 unfold aK4
 split
 ·rename_i h
  exact ⟨.inr,fun q=>q.elim (fun e=>e▸h) id⟩
 ·rw [List.mem_append,List.mem_singleton];exact Or.comm
section
variable {s:Hs} {P:Wo->Prop} {w:Wo}
theorem Hs.Fine.marking (h:s.Fine P):(s.marking w).1.Fine (fun x=>P x \/ x∈(s.marking w).2):=by
 unfold Hs.marking
 by_cases z:w.k≠cK \/ w.n∈s.marked
 ·rw [if_pos z]
  exact h.imp (fun x q=>.inl q) fun x q e=>by
   rcases q with q | q
   ·exact h.ow x q e
   ·cases q
 ·rw [if_neg z]
  have zn:w.n∉s.marked:=fun c=>z (.inr c)
  have nu:∀ b∈s.known,¬ (b.h=s.own /\ b.k=dX /\ b.n=w.n):=fun b hb c=>by
   rcases h.my b hb c.1 with q | q
   ·exact zn (c.2.2▸q.2)
   ·exact dI (q.1.symm.trans c.2.1)
  refine ⟨fun x q=>?_,fun x q e=>?_,fun x q e=>?_,fun a qa b qb e=>?_,h.ro,fun x q v hv=>⟨mem_addW.mpr (.inr (h.rk x q v hv).1),(h.rk x q v hv).2⟩,h.rd,h.re,h.na,fun x q=>?_⟩
  ·rcases mem_addW.mp q with rfl | q
   ·exact .inr (.head _)
   ·exact .inl (h.kn x q)
  ·rcases q with q | q
   ·exact mem_addW.mpr (.inr (h.ow x q e))
   ·exact mem_addW.mpr (.inl (List.mem_singleton.mp q))
  ·rcases mem_addW.mp q with rfl | q
   ·exact .inl ⟨rfl,List.mem_append_right _ (.head _)⟩
   ·exact (h.my x q e).imp (fun y=>⟨y.1,List.mem_append_left _ y.2⟩) id
  ·intro u
   have u':=unlike_iff.mp u
   rcases mem_addW.mp qa with rfl | qa
   ·rcases mem_addW.mp qb with rfl | qb
    ·exact u'.2.2.2 rfl
    ·exact nu b qb ⟨u'.1.symm,u'.2.1.symm,u'.2.2.1.symm⟩
   ·rcases mem_addW.mp qb with rfl | qb
    ·exact nu a qa ⟨u'.1,u'.2.1,u'.2.2.1⟩
    ·exact h.un a qa b qb e u
  ·have:=h.nk x q
   exact ⟨mem_addW.mpr (.inr this.1),mem_addW.mpr (.inr this.2.1),this.2.2⟩
theorem aH0 {n:Int} {r:Str} {v:Wo} (h:v∈s.marks n r):v∈s.known /\ v=mrk n r v.h:=by
 unfold Hs.marks at h
 have h:=List.mem_filter.mp h
 rcases List.mem_map.mp h.1 with ⟨j,y_,e⟩
 refine ⟨of_decide_eq_true h.2,?_⟩
 rw [<- e];rfl
theorem cC1 {n:Int} {r:Str}:((s.marks n r).map (·.h)).Nodup:=by
 unfold Hs.marks
 refine List.Pairwise.sublist (List.Sublist.map _ List.filter_sublist) ?_
 rw [List.map_map]
 refine List.pairwise_map.mpr ?_
 refine List.Pairwise.imp (R:=fun a b=>a≠b) ?_ List.nodup_range
 intro a b q e
 exact q (Int.ofNat_inj.mp e)
theorem Hs.Fine.writing (h:s.Fine P) {n:Int} {r:Str}:(s.writing n r).1.Fine P /\ ∀ v∈(s.writing n r).2,v∈s.known:=by
 unfold Hs.writing
 by_cases z:((s.marks n r).length:Int) < bC s.cnt \/ s.wrote n=true
 ·rw [if_pos z];exact ⟨h,fun v q=>nomatch q⟩
 ·rw [if_neg z]
  have zw:n∉s.rows.map (·.1):=fun c=>z (.inr (by
   rcases List.mem_map.mp c with ⟨x,hx,e⟩
   exact List.any_eq_true.mpr ⟨x,hx,beq_iff_eq.mpr e⟩))
  have ze:bC s.cnt <= ((s.marks n r).length:Int):=Int.not_lt.mp fun c=>z (.inl c)
  refine ⟨⟨h.kn,h.ow,h.my,h.un,?_,fun x q=>?_,fun x q=>?_,fun x q=>?_,h.na,h.nk⟩,fun v q=>(aH0 q).1⟩
  ·rw [List.map_append]
   exact List.nodup_append.mpr ⟨h.ro,List.pairwise_singleton _ _,fun a qa b qb e=>zw (by rw [List.mem_singleton.mp qb] at e;rw [e] at qa;exact qa)⟩
  all_goals rcases List.mem_append.mp q with q | q
  ·exact h.rk x q
  ·rw [List.mem_singleton.mp q];exact fun v hv=>aH0 hv
  ·exact h.rd x q
  ·rw [List.mem_singleton.mp q];exact cC1
  ·exact h.re x q
  ·rw [List.mem_singleton.mp q];exact ze
theorem Hs.Fine.naming (h:s.Fine P) {l:List Wo} (hw:w∈s.known) (hl:∀ a∈l,a∈s.known /\ aT a w=true):(s.naming w l).1.Fine P /\ ∀ v∈(s.naming w l).2,v∈s.known:=by
 cases l with
 | nil=>exact ⟨h,fun v q=>nomatch q⟩
 | cons a l=>
  unfold Hs.naming
  dsimp only
  by_cases z:(s.named.any fun x=>x.1 == w.h)=true
  ·rw [if_pos z];exact ⟨h,fun v q=>nomatch q⟩
  ·rw [if_neg z]
   have zw:w.h∉s.named.map (·.1):=fun c=>z (by
    rcases List.mem_map.mp c with ⟨x,hx,e⟩
    exact List.any_eq_true.mpr ⟨x,hx,beq_iff_eq.mpr e⟩)
   have ha:=hl a (.head _)
   refine ⟨⟨h.kn,h.ow,h.my,h.un,h.ro,h.rk,h.rd,h.re,?_,fun x q=>?_⟩,dQ ha.1 (dQ hw bT9)⟩
   ·rw [List.map_append]
    exact List.nodup_append.mpr ⟨h.na,List.pairwise_singleton _ _,fun a qa b qb e=>zw (by rw [List.mem_singleton.mp qb] at e;rw [e] at qa;exact qa)⟩
   ·rcases List.mem_append.mp q with q | q
    ·exact h.nk x q
    ·rw [List.mem_singleton.mp q];exact ⟨ha.1,hw,ha.2,rfl⟩
theorem d0 (s:Hs) (w:Wo):(∀ x∈s.known,x∈(s.marking w).1.known) /\ (∀ x∈(s.marking w).2,x∈(s.marking w).1.known /\ x=mrk w.n w.r s.own):=by
 unfold Hs.marking
 split
 ·exact ⟨fun x q=>q,fun x q=>nomatch q⟩
 ·exact ⟨fun x q=>mem_addW.mpr (.inr q),fun x q=>by rw [List.mem_singleton.mp q];exact ⟨mem_addW.mpr (.inl rfl),rfl⟩⟩
theorem aM8 (s:Hs) (n:Int) (r:Str):(s.writing n r).1.known=s.known:=by
 unfold Hs.writing
 split <;> rfl
theorem aT0 (s:Hs) (w:Wo) (l:List Wo):(s.naming w l).1.known=s.known:=by
 cases l with
 | nil=>rfl
 | cons a l=>unfold Hs.naming;dsimp only;split <;> rfl
theorem Hs.Fine.heard (hw:P w) (nk:w∉s.known) (h:({ s with known:=s.known++[w] }:Hs).Fine P):(s.hear w).1.Fine (fun x=>P x \/ x∈(s.hear w).2) /\ ∀ x∈(s.hear w).2,P x \/ x=mrk w.n w.r s.own:=by
 unfold Hs.hear
 rw [if_neg nk]
 dsimp only
 have h1:=h.marking (w:=w)
 have k1:=d0 { s with known:=s.known++[w] } w
 have h2:=h1.writing (n:=w.n) (r:=w.r)
 have w1:w∈(({ s with known:=s.known++[w] }:Hs).marking w).1.known:=k1.1 w (List.mem_append_right _ (.head _))
 have wk:=aM8 (({ s with known:=s.known++[w] }:Hs).marking w).1 w.n w.r
 have h3:=h2.1.naming (w:=w) (l:=s.known.filter fun a=>aT a w) (by rw [wk];exact w1) fun a q=>by
  have q:=List.mem_filter.mp q
  exact ⟨by rw [wk];exact k1.1 a (List.mem_append_left _ q.1),q.2⟩
 have nk':=aT0 ((({ s with known:=s.known++[w] }:Hs).marking w).1.writing w.n w.r).1 w (s.known.filter fun a=>aT a w)
 have o1:=(bK { s with known:=s.known++[w] } w).2.2.2.1
 have told:∀ x∈(({ s with known:=s.known++[w] }:Hs).marking w).2++((({ s with known:=s.known++[w] }:Hs).marking w).1.writing w.n w.r).2++(((({ s with known:=s.known++[w] }:Hs).marking w).1.writing w.n w.r).1.naming w (s.known.filter fun a=>aT a w)).2,x∈(({ s with known:=s.known++[w] }:Hs).marking w).1.known:=fun x q=>by
  rcases List.mem_append.mp q with q | q
  ·rcases List.mem_append.mp q with q | q
   ·exact (k1.2 x q).1
   ·exact h2.2 x q
  ·rw [<- wk];exact h3.2 x q
 refine ⟨h3.1.imp (fun x q=>?_) fun x q e=>?_,fun x q=>?_⟩
 ·rcases q with q | q
  ·exact .inl q
  ·exact .inr (List.mem_append_left _ (List.mem_append_left _ q))
 ·rw [nk',wk]
  rcases q with q | q
  ·refine h1.ow x (.inl q) ?_
   rw [e,(e9 _ w _).2.1,(cO _ w.n w.r).2.2.1]
  ·exact told x q
 ·have:=h1.kn x (told x q)
  rcases this with q | q
  ·exact .inl q
  ·exact .inr (k1.2 x q).2
theorem Hs.Fine.know (h:s.Fine P) (hw:P w) (z:w∉s.known):({ s with known:=s.known++[w] }:Hs).Fine P:=by
 have ho:w.h≠s.own:=fun c=>z (h.ow w hw c)
 refine ⟨fun x q=>?_,fun x q e=>List.mem_append_left _ (h.ow x q e),fun x q e=>?_,fun a qa b qb e u=>?_,h.ro,fun x q v hv=>⟨List.mem_append_left _ (h.rk x q v hv).1,(h.rk x q v hv).2⟩,h.rd,h.re,h.na,fun x q=>?_⟩
 ·rcases List.mem_append.mp q with q | q
  ·exact h.kn x q
  ·rw [List.mem_singleton.mp q];exact hw
 ·rcases List.mem_append.mp q with q | q
  ·exact h.my x q e
  ·rw [List.mem_singleton.mp q] at e;exact absurd e ho
 ·have u':=unlike_iff.mp u
  rcases List.mem_append.mp qa with qa | qa
  ·rcases List.mem_append.mp qb with qb | qb
   ·exact h.un a qa b qb e u
   ·rw [List.mem_singleton.mp qb] at u';exact ho (u'.1.symm.trans e)
  ·rw [List.mem_singleton.mp qa] at e;exact ho e
 ·have:=h.nk x q
  exact ⟨List.mem_append_left _ this.1,List.mem_append_left _ this.2.1,this.2.2⟩
theorem Hs.Fine.hear (h:s.Fine P) (hw:P w):(s.hear w).1.Fine (fun x=>P x \/ x∈(s.hear w).2) /\ ∀ x∈(s.hear w).2,P x \/ x=mrk w.n w.r s.own:=by
 by_cases z:w∈s.known
 ·unfold Hs.hear
  rw [if_pos z]
  exact ⟨h.imp (fun x q=>.inl q) fun x q e=>q.elim (fun q=>h.ow x q e) fun q=>absurd q List.not_mem_nil,fun x q=>nomatch q⟩
 ·exact Hs.Fine.heard hw z (h.know hw z)
theorem Hs.Fine.says (h:s.Fine P) (r:Str):(⟨cK,s.onw,r,s.own⟩:Wo)∉s.known /\ (0 < s.cnt->({ ({ s with onw:=s.onw+s.cnt }:Hs) with known:=s.known++[⟨cK,s.onw,r,s.own⟩] }:Hs).Fine (fun x=>P x \/ x=⟨cK,s.onw,r,s.own⟩)):=by
 have nk:(⟨cK,s.onw,r,s.own⟩:Wo)∉s.known:=fun c=>by
  rcases h.my _ c rfl with q | q
  ·exact dI q.1
  ·exact Int.lt_irrefl _ q.2
 have nu:∀ b∈s.known,¬ (b.h=s.own /\ b.k=cK /\ b.n=s.onw):=fun b hb c=>by
  rcases h.my b hb c.1 with q | q
  ·exact dI (c.2.1.symm.trans q.1)
  ·exact Int.ne_of_lt q.2 c.2.2
 refine ⟨nk,fun hc=>?_⟩
 refine ⟨fun x q=>?_,fun x q e=>?_,fun x q e=>?_,fun a qa b qb e u=>?_,h.ro,fun x q v hv=>⟨List.mem_append_left _ (h.rk x q v hv).1,(h.rk x q v hv).2⟩,h.rd,h.re,h.na,fun x q=>?_⟩
 ·rcases List.mem_append.mp q with q | q
  ·exact .inl (h.kn x q)
  ·exact .inr (List.mem_singleton.mp q)
 ·rcases q with q | q
  ·exact List.mem_append_left _ (h.ow x q e)
  ·rw [q];exact List.mem_append_right _ (.head _)
 ·rcases List.mem_append.mp q with q | q
  ·exact (h.my x q e).imp id fun y=>⟨y.1,Int.lt_trans y.2 (Int.lt_add_of_pos_right _ hc)⟩
  ·rw [List.mem_singleton.mp q];exact .inr ⟨rfl,Int.lt_add_of_pos_right _ hc⟩
 ·have u':=unlike_iff.mp u
  rcases List.mem_append.mp qa with qa | qa
  ·rcases List.mem_append.mp qb with qb | qb
   ·exact h.un a qa b qb e u
   ·rw [List.mem_singleton.mp qb] at u';exact nu a qa ⟨u'.1,u'.2.1,u'.2.2.1⟩
  ·rw [List.mem_singleton.mp qa] at u'
   rcases List.mem_append.mp qb with qb | qb
   ·exact nu b qb ⟨u'.1.symm,u'.2.1.symm,u'.2.2.1.symm⟩
   ·rw [List.mem_singleton.mp qb] at u';exact u'.2.2.2 rfl
 ·have:=h.nk x q
  exact ⟨List.mem_append_left _ this.1,List.mem_append_left _ this.2.1,this.2.2⟩
theorem Hs.Fine.call (h:s.Fine P) (hc:0 < s.cnt) (r:Str):(s.call r).1.Fine (fun x=>P x \/ x∈(s.call r).2) /\ ∀ x∈(s.call r).2,P x \/ x=⟨cK,s.onw,r,s.own⟩ \/ x=mrk s.onw r s.own:=by
 have h2:=Hs.Fine.heard (s:={ s with onw:=s.onw+s.cnt }) (w:=⟨cK,s.onw,r,s.own⟩) (.inr rfl) (h.says r).1 ((h.says r).2 hc)
 refine ⟨h2.1.imp (fun x q=>?_) fun x q e=>?_,fun x q=>?_⟩
 ·rcases q with (q | q) | q
  ·exact .inl q
  ·rw [q];exact .inr (.head _)
  ·exact .inr (.tail _ q)
 ·refine h2.1.ow x ?_ e
  rcases q with q | q
  ·exact .inl (.inl q)
  ·rcases List.mem_cons.mp q with q | q
   ·exact .inl (.inr q)
   ·exact .inr q
 ·rcases List.mem_cons.mp q with q | q
  ·exact .inr (.inl q)
  ·rcases h2.2 x q with (q | q) | q
   ·exact .inl q
   ·exact .inr (.inl q)
   ·exact .inr (.inr q)
end
end Mini
namespace Mini
open PySem
theorem bD7 {x:Wo}:∀ {ws l:List Wo},x∈ws.foldl (fun l w=>aK4 w l) l↔x∈l \/ x∈ws
 | [],l=>⟨.inl,fun q=>q.elim id fun q=>nomatch q⟩
 | w::ws,l=>by
  rw [List.foldl_cons,bD7,mem_addW,List.mem_cons]
  exact ⟨fun q=>by rcases q with (q | q) | q;exact .inr (.inl q);exact .inl q;exact .inr (.inr q),fun q=>by rcases q with q | q | q;exact .inl (.inr q);exact .inl (.inl q);exact .inr q⟩
structure Tn.Fine (t:Tn) (Ns:List Int):Prop where
 hs:∀ s∈t.hs,s.Fine (·∈t.said)
 le:∀ x∈t.lets,x.2.w∈t.said
 wo:∀ w∈t.said,w.Ok t.cnt
 ns:∀ w∈t.said,w.n∈Ns
 rg:∀ s∈t.hs,0 <= s.own /\ s.own < t.cnt /\ s.cnt=t.cnt
 on:∀ s∈t.hs,(s.onw - s.own) % t.cnt=0 /\ 0 <= s.onw /\ s.onw <= 12 * ((Ns.length:Int)+1)
theorem cN6 {h:Int} {w:Wo} {t:Tn} {j:Nat} {x:Int×Lr} (q:x∈(t.to h w j).lets):x∈t.lets \/ x.2.w=w:=by
 unfold Tn.to at q
 split at q
 ·exact .inl q
 ·rcases List.mem_append.mp q with q | q
  ·exact .inl q
  ·rw [List.mem_singleton.mp q];exact .inr rfl
theorem bC0 {h:Int} {w:Wo}:∀ {l:List Nat} {t:Tn} {x:Int×Lr},x∈(l.foldl (Tn.to h w) t).lets->x∈t.lets \/ x.2.w=w
 | [],_,_,q=>.inl q
 | j::l,t,x,q=>(bC0 (l:=l) q).elim cN6 .inr
theorem aF4 {h:Int}:∀ {ws:List Wo} {t:Tn} {x:Int×Lr},x∈(t.tell h ws).lets->x∈t.lets \/ x.2.w∈ws
 | [],_,_,q=>.inl q
 | w::ws,t,x,q=>by
  rcases aF4 (ws:=ws) q with q | q
  ·rcases bC0 q with q | q
   ·exact .inl q
   ·exact .inr (q▸.head _)
  ·exact .inr (.tail _ q)
section
variable {t:Tn} {Ns:List Int} {b i:Nat} {s:Hs}
theorem bN6 (h:Int) (ws:List Wo) (t:Tn) {x:Wo}:x∈(t.tell h ws).said↔x∈t.said \/ x∈ws:=by rw [(bE h ws t).2.2];exact bD7
theorem Tn.Fine.turn {Ns':List Int} (F:t.Fine Ns) (od:(t.hs.map (·.own)).Nodup) (hs:t.hs[i]?=some s) {x:Hs×List Wo} (ho:x.1.own=s.own) (hc:x.1.cnt=s.cnt) (h1:x.1.Fine (fun w=>w∈t.said \/ w∈x.2)) (h2:∀ w∈x.2,w∈t.said \/ (w.h=s.own /\ w.Ok t.cnt /\ w.n∈Ns')) (hn:∀ y∈Ns,y∈Ns') (hl:Ns.length <= Ns'.length) (hw:(x.1.onw - x.1.own) % t.cnt=0 /\ 0 <= x.1.onw /\ x.1.onw <= 12 * ((Ns'.length:Int)+1)):(t.turn i x).Fine Ns':=by
 have cn:(t.turn i x).cnt=t.cnt:=(bE _ _ _).1
 have eh:(t.turn i x).hs=t.hs.set i x.1:=(bE _ _ _).2.1
 have sd:∀ w,w∈(t.turn i x).said↔w∈t.said \/ w∈x.2:=fun w=>bN6 _ _ _
 have hsm:=List.mem_of_getElem? hs
 have get:∀ y∈t.hs.set i x.1,y=x.1 \/ (y∈t.hs /\ y.own≠s.own):=fun y hy=>bP3 od hs hy
 refine ⟨fun y hy=>?_,fun z hz=>?_,fun w q=>?_,fun w q=>?_,fun y hy=>?_,fun y hy=>?_⟩
 ·rw [eh] at hy
  rcases get y hy with rfl | ⟨hy,ne⟩
  ·exact h1.imp (fun w q=>(sd w).mpr q) fun w q e=>h1.ow w ((sd w).mp q) e
  ·have hy1:=F.hs y hy
   refine hy1.imp (fun w q=>(sd w).mpr (.inl q)) fun w q e=>?_
   rcases (sd w).mp q with q | q
   ·exact hy1.ow w q e
   ·rcases h2 w q with q | q
    ·exact hy1.ow w q e
    ·exact absurd (e.symm.trans q.1) ne
 ·rw [sd]
  rcases aF4 hz with q | q
  ·exact .inl (F.le z q)
  ·exact .inr q
 ·rw [cn]
  rcases (sd w).mp q with q | q
  ·exact F.wo w q
  ·rcases h2 w q with q | q
   ·exact F.wo w q
   ·exact q.2.1
 ·rcases (sd w).mp q with q | q
  ·exact hn _ (F.ns w q)
  ·rcases h2 w q with q | q
   ·exact hn _ (F.ns w q)
   ·exact q.2.2
 ·rw [cn]
  rw [eh] at hy
  rcases get y hy with rfl | ⟨hy,ne⟩
  ·rw [ho,hc];exact F.rg s hsm
  ·exact F.rg y hy
 ·rw [cn]
  rw [eh] at hy
  rcases get y hy with rfl | ⟨hy,ne⟩
  ·exact hw
  ·have:=F.on y hy
   exact ⟨this.1,this.2.1,Int.le_trans this.2.2 (Int.mul_le_mul_of_nonneg_left (Int.add_le_add_right (Int.ofNat_le.mpr hl) 1) (by decide))⟩
theorem cI7 {c:Int} {w:Wo} {o:Int} (h:w.Ok c) (o0:0 <= o) (o1:o < c):(mrk w.n w.r o).Ok c:=⟨.inr rfl,h.n0,h.n1,h.r,o0,o1,fun e=>absurd e.symm dI⟩
theorem Tn.Fine.hear (F:t.Fine Ns) (od:(t.hs.map (·.own)).Nodup) (hs:t.hs[i]?=some s) {w:Wo} (hw:w∈t.said):(t.turn i (s.hear w)).Fine Ns:=by
 have hsm:=List.mem_of_getElem? hs
 have h:=(F.hs s hsm).hear hw
 have rg:=F.rg s hsm
 have hc:=bX s w
 refine F.turn od hs hc.2.1 hc.1 h.1 (fun x q=>?_) (fun y q=>q) (Nat.le_refl _) ?_
 ·rcases h.2 x q with q | q
  ·exact .inl q
  ·rw [q];exact .inr ⟨rfl,cI7 (F.wo w hw) rg.1 rg.2.1,F.ns w hw⟩
 ·rw [hc.2.1,hc.2.2.1];exact F.on s hsm
theorem Tn.Fine.call (F:t.Fine Ns) (od:(t.hs.map (·.own)).Nodup) (hs:t.hs[i]?=some s) {r:Str} (hr:bP7 (.str r)=true) (hn:Ns.length <= 100) (c12:t.cnt <= 12):(t.turn i (s.call r)).Fine (s.onw::Ns):=by
 have hsm:=List.mem_of_getElem? hs
 have rg:=F.rg s hsm
 have on:=F.on s hsm
 have h:=(F.hs s hsm).call (by rw [rg.2.2];exact Int.lt_of_le_of_lt rg.1 rg.2.1) r
 have hc:=bX { s with onw:=s.onw+s.cnt } ⟨cK,s.onw,r,s.own⟩
 have c1:(s.call r).1.own=s.own:=hc.2.1
 have c2:(s.call r).1.onw=s.onw+s.cnt:=hc.2.2.1
 have sk:(⟨cK,s.onw,r,s.own⟩:Wo).Ok t.cnt:=⟨.inl rfl,on.2.1,Int.le_trans on.2.2 (Int.le_trans (Int.mul_le_mul_of_nonneg_left (Int.add_le_add_right (Int.ofNat_le.mpr hn) 1) (by decide)) (by decide)),hr,rg.1,rg.2.1,fun y_=>on.1⟩
 refine F.turn od hs c1 hc.1 h.1 (fun x q=>?_) (fun y q=>.tail _ q) (Nat.le_succ _) ?_
 ·rcases h.2 x q with q | q | q
  ·exact .inl q
  ·rw [q];exact .inr ⟨rfl,sk,.head _⟩
  ·rw [q];exact .inr ⟨rfl,cI7 sk rg.1 rg.2.1,.head _⟩
 ·rw [c1,c2,rg.2.2,List.length_cons]
  refine ⟨?_,?_,?_⟩
  ·rw [show s.onw+t.cnt - s.own=s.onw - s.own+t.cnt by rw [Int.add_comm s.onw,Int.add_sub_assoc,Int.add_comm],Int.add_emod_right];exact on.1
  ·exact Int.add_nonneg on.2.1 (Int.le_trans rg.1 (Int.le_of_lt rg.2.1))
  ·exact Int.le_trans (Int.add_le_add on.2.2 c12) (Int.le_of_eq (by rw [Int.natCast_add,Int.mul_add 12 (_+_) 1,Int.mul_one];rfl))
theorem Tn.Fine.take (F:t.Fine Ns) (k:Int):(t.take k).Fine Ns:=⟨F.hs,fun x q=>F.le x (List.mem_filter.mp q).1,F.wo,F.ns,F.rg,F.on⟩
theorem Tn.Fine.more (F:t.Fine Ns) (n:Int):t.Fine (n::Ns):=by
 refine ⟨F.hs,F.le,F.wo,fun w q=>.tail _ (F.ns w q),F.rg,fun s hs=>?_⟩
 have:=F.on s hs
 refine ⟨this.1,this.2.1,Int.le_trans this.2.2 (Int.mul_le_mul_of_nonneg_left (Int.add_le_add_right (Int.ofNat_le.mpr ?_) 1) (by decide))⟩
 rw [List.length_cons];exact Nat.le_succ _
theorem Tn.Fine.lie (F:t.Fine Ns) {h r:Int} {w:Wo} (hl:∀ s∈t.hs,s.own≠h) (hw:w.Ok t.cnt) (hf:w.h=h \/ w∈t.said) (hn:w.n∈Ns):((t.say w).send ⟨h,r,w⟩).Fine Ns:=by
 refine ⟨fun s hs=>(F.hs s hs).imp (fun x q=>mem_addW.mpr (.inr q)) fun x q e=>?_,fun x q=>?_,fun x q=>?_,fun x q=>?_,F.rg,F.on⟩
 ·rcases mem_addW.mp q with rfl | q
  ·rcases hf with hf | hf
   ·exact absurd (e.symm.trans hf) (hl s hs)
   ·exact (F.hs s hs).ow x hf e
  ·exact (F.hs s hs).ow x q e
 ·rcases List.mem_append.mp q with q | q
  ·exact mem_addW.mpr (.inr (F.le x q))
  ·rw [List.mem_singleton.mp q];exact mem_addW.mpr (.inl rfl)
 ·rcases mem_addW.mp q with rfl | q
  ·exact hw
  ·exact F.wo x q
 ·rcases mem_addW.mp q with rfl | q
  ·exact hn
  ·exact F.ns x q
theorem Tn.Fine.rows (F:t.Fine Ns) (hs:s∈t.hs) (c1:1 <= t.cnt):s.rows.length <= Ns.length:=by
 have f:=F.hs s hs
 have h:s.rows.map (·.1) ⊆ Ns:=fun y hy=>by
  rcases List.mem_map.mp hy with ⟨x,hx,rfl⟩
  have e:=f.re x hx
  have ne:x.2.2≠[]:=fun c=>by
   rw [c] at e
   have e:bC s.cnt <= 0:=e
   rw [(F.rg s hs).2.2] at e
   exact Int.not_le.mpr (cK1 c1) e
  rcases List.exists_mem_of_ne_nil _ ne with ⟨w,hw⟩
  have:=f.rk x hx w hw
  have hn:=F.ns w (f.kn w this.1)
  rw [this.2] at hn
  exact hn
 have:=f.ro.length_le_of_subset h
 rw [List.length_map] at this
 exact this
end
end Mini
namespace Mini
open PySem
noncomputable def Hs.Tl (s:Hs) (v:Wo):Prop:=(v∈s.known /\ v.h=s.own) \/ (∃ x∈s.rows,v∈x.2.2) \/ ∃ x∈s.named,v=x.2.1 \/ v=x.2.2
noncomputable def Hs.us (s:Hs):Nat:=s.marked.length+12 * s.rows.length+2 * s.named.length
noncomputable def Hs.blames (s:Hs) (l:Int):Prop:=∃ x∈s.named,x.1=l
structure Hs.Mo (s s':Hs) (ts:List Wo):Prop where
 kn:∀ x∈s.known,x∈s'.known
 ma:∀ x∈s.marked,x∈s'.marked
 ro:∀ x∈s.rows,x∈s'.rows
 na:∀ x∈s.named,x∈s'.named
 tl:∀ v,s'.Tl v->s.Tl v \/ v∈ts
theorem Hs.Mo.refl (s:Hs):s.Mo s []:=⟨fun y_ h=>h,fun y_ h=>h,fun y_ h=>h,fun y_ h=>h,fun y_ h=>.inl h⟩
theorem Hs.Mo.trans {a b c:Hs} {t u:List Wo} (h:a.Mo b t) (k:b.Mo c u):a.Mo c (t++u):=by
 refine ⟨fun x q=>k.kn x (h.kn x q),fun x q=>k.ma x (h.ma x q),fun x q=>k.ro x (h.ro x q),fun x q=>k.na x (h.na x q),fun v q=>?_⟩
 rcases k.tl v q with q | q
 ·exact (h.tl v q).imp id (List.mem_append_left _)
 ·exact .inr (List.mem_append_right _ q)
section
variable {s:Hs} {P:Wo->Prop} {w:Wo}
theorem Hs.Mo.know (o:w.h≠s.own):s.Mo { s with known:=s.known++[w] } []:=by
 refine ⟨fun x q=>List.mem_append_left _ q,fun y_ h=>h,fun y_ h=>h,fun y_ h=>h,fun v q=>.inl ?_⟩
 rcases q with q | q
 ·rcases List.mem_append.mp q.1 with z | z
  ·exact .inl ⟨z,q.2⟩
  ·rw [List.mem_singleton.mp z] at q;exact absurd q.2 o
 ·exact .inr q
theorem Hs.Mo.say (k:Int):s.Mo { s with onw:=k,known:=s.known++[w] } [w]:=by
 refine ⟨fun x q=>List.mem_append_left _ q,fun y_ h=>h,fun y_ h=>h,fun y_ h=>h,fun v q=>?_⟩
 rcases q with q | q
 ·exact (List.mem_append.mp q.1).imp (fun z=>.inl ⟨z,q.2⟩) id
 ·exact .inl (.inr q)
theorem Hs.Mo.marking (s:Hs) (w:Wo):s.Mo (s.marking w).1 (s.marking w).2:=by
 unfold Hs.marking
 split
 ·exact .refl s
 ·refine ⟨fun x q=>mem_addW.mpr (.inr q),fun x q=>List.mem_append_left _ q,fun y_ h=>h,fun y_ h=>h,fun v q=>?_⟩
  rcases q with q | q
  ·rcases mem_addW.mp q.1 with z | z
   ·exact .inr (List.mem_singleton.mpr z)
   ·exact .inl (.inl ⟨z,q.2⟩)
  ·exact .inl (.inr q)
theorem Hs.Mo.writing (s:Hs) (n:Int) (r:Str):s.Mo (s.writing n r).1 (s.writing n r).2:=by
 unfold Hs.writing
 split
 ·exact .refl s
 ·refine ⟨fun y_ h=>h,fun y_ h=>h,fun x q=>List.mem_append_left _ q,fun y_ h=>h,fun v q=>?_⟩
  rcases q with q | q | q
  ·exact .inl (.inl q)
  ·rcases q with ⟨x,hx,hv⟩
   rcases List.mem_append.mp hx with z | z
   ·exact .inl (.inr (.inl ⟨x,z,hv⟩))
   ·rw [List.mem_singleton.mp z] at hv;exact .inr hv
  ·exact .inl (.inr (.inr q))
theorem Hs.Mo.naming (s:Hs) (w:Wo) (l:List Wo):s.Mo (s.naming w l).1 (s.naming w l).2:=by
 cases l with
 | nil=>exact .refl s
 | cons a l=>
  unfold Hs.naming
  dsimp only
  split
  ·exact .refl s
  ·refine ⟨fun y_ h=>h,fun y_ h=>h,fun y_ h=>h,fun x q=>List.mem_append_left _ q,fun v q=>?_⟩
   rcases q with q | q | q
   ·exact .inl (.inl q)
   ·exact .inl (.inr (.inl q))
   ·rcases q with ⟨x,hx,hv⟩
    rcases List.mem_append.mp hx with z | z
    ·exact .inl (.inr (.inr ⟨x,z,hv⟩))
    ·rw [List.mem_singleton.mp z] at hv
     exact .inr (List.mem_cons.mpr (hv.imp id List.mem_singleton.mpr))
theorem Hs.Mo.after (s:Hs) (w:Wo) (l:List Wo):s.Mo (((s.marking w).1.writing w.n w.r).1.naming w l).1 ((s.marking w).2++((s.marking w).1.writing w.n w.r).2++(((s.marking w).1.writing w.n w.r).1.naming w l).2):=
 ((Hs.Mo.marking s w).trans (.writing _ w.n w.r)).trans (.naming _ w l)
theorem Hs.Mo.hear (o:w.h=s.own->w∈s.known):s.Mo (s.hear w).1 (s.hear w).2:=by
 unfold Hs.hear
 by_cases z:w∈s.known
 ·rw [if_pos z];exact .refl s
 ·rw [if_neg z]
  exact Hs.Mo.trans (t:=[]) (.know fun e=>z (o e)) (.after { s with known:=s.known++[w] } w (s.known.filter fun a=>aT a w))
theorem Hs.Mo.call (r:Str) (nk:(⟨cK,s.onw,r,s.own⟩:Wo)∉s.known):s.Mo (s.call r).1 (s.call r).2:=by
 unfold Hs.call Hs.hear
 dsimp only
 rw [if_neg nk]
 exact Hs.Mo.trans (t:=[_]) (.say _) (.after { s with onw:=s.onw+s.cnt,known:=s.known++[⟨cK,s.onw,r,s.own⟩] } _ (s.known.filter fun a=>aT a _))
theorem cY4 {a b c u0 u1 u2 u3 z0 z1 z2 z3:Nat} (h1:a+u0 <= u1 /\ z1+2 * u0 <= z0+1+2 * u1) (h2:b+u1 <= u2 /\ z2+2 * u1 <= z1+2 * u2) (h3:c+u2 <= u3 /\ z3+2 * u2 <= z2+2 * u3):a+b+c+u0 <= u3 /\ z3+2 * u0 <= z0+1+2 * u3:=by lia
theorem aX6 {a u u' z z' k:Nat} (e:u'=u+k) (h:a <= k) (h2:z' <= z+2 * k):a+u <= u' /\ z'+2 * u <= z+2 * u':=by
 subst e
 refine ⟨by rw [Nat.add_comm u];exact Nat.add_le_add_right h u,?_⟩
 rw [Nat.mul_add,Nat.add_comm (2 * u),<- Nat.add_assoc];exact Nat.add_le_add_right h2 _
set_option tactic.hygienic true in
theorem cT1 (s:Hs) (w:Wo) (c:s.cnt <= 12):(s.hear w).2.length+s.us <= (s.hear w).1.us /\ (s.hear w).1.sz+2 * s.us <= s.sz+1+2 * (s.hear w).1.us:=by
 unfold Hs.hear
 by_cases z:w∈s.known
 ·rw [if_pos z];exact ⟨Nat.le_of_eq (Nat.zero_add _),Nat.add_le_add_right (Nat.le_succ _) _⟩
 ·rw [if_neg z]
  dsimp only
  have h0:∀ s:Hs,([]:List Wo).length+s.us <= s.us /\ s.sz+2 * s.us <= s.sz+2 * s.us:=fun s=>⟨Nat.le_of_eq (Nat.zero_add _),Nat.le_refl _⟩
  have h1:∀ s:Hs,(s.marking w).2.length+s.us <= (s.marking w).1.us /\ (s.marking w).1.sz+2 * s.us <= s.sz+2 * (s.marking w).1.us:=fun s=>by
   have e:=(bK s w).2.2.2.2.2.1
   unfold Hs.marking at e ⊢
   split
   ·exact h0 s
   ·rename_i q
    rw [if_neg q] at e
    refine aX6 (k:=1) ?_ (Nat.le_refl _) e
    unfold Hs.us;rw [List.length_append]
    show s.marked.length+1+12 * s.rows.length+2 * s.named.length=s.marked.length+12 * s.rows.length+2 * s.named.length+1
    rw [Nat.add_right_comm _ 1,Nat.add_right_comm _ 1]
  have h2:∀ s:Hs,s.cnt <= 12->(s.writing w.n w.r).2.length+s.us <= (s.writing w.n w.r).1.us /\ (s.writing w.n w.r).1.sz+2 * s.us <= s.sz+2 * (s.writing w.n w.r).1.us:=fun s c=>by
   have e:=(cO s w.n w.r).2.2.2.2
   unfold Hs.writing at e ⊢
   split
   ·exact h0 s
   ·rename_i q
    rw [if_neg q] at e
    refine aX6 (k:=12) ?_ (Nat.le_trans e.2 (bS c)) (Nat.le_trans e.1 (Nat.add_le_add_left (by decide) _))
    unfold Hs.us;rw [List.length_append]
    exact Nat.add_right_comm (_+12 * _) 12 _
  have h3:∀ (s:Hs) (l:List Wo),(s.naming w l).2.length+s.us <= (s.naming w l).1.us /\ (s.naming w l).1.sz+2 * s.us <= s.sz+2 * (s.naming w l).1.us:=fun s l=>by
   cases l with
   | nil=>exact h0 s
   | cons a l=>
    have e:=(e9 s w (a::l)).2.2.2.1
    unfold Hs.naming at e ⊢
    dsimp only at e ⊢
    split
    ·exact h0 s
    ·rename_i q
     rw [if_neg q] at e
     refine aX6 (k:=2) ?_ (Nat.le_refl _) (Nat.le_trans e (Nat.add_le_add_left (by decide) _))
     unfold Hs.us;rw [List.length_append];rfl
  have k1:=h1 { s with known:=s.known++[w] }
  have k2:=h2 _ (by rw [(bK { s with known:=s.known++[w] } w).1];exact c)
  have k3:=h3 ((({ s with known:=s.known++[w] }:Hs).marking w).1.writing w.n w.r).1 (s.known.filter fun a=>aT a w)
  rw [List.length_append,List.length_append]
  have e:({ s with known:=s.known++[w] }:Hs).sz=s.sz+1:=by unfold Hs.sz;rw [List.length_append];exact cO0
  rw [e] at k1
  exact cY4 k1 k2 k3
inductive Hs.Why (s:Hs) (w:Wo) (s':Hs) (v:Wo):Prop
 | mark:w.k=cK->w.n∉s.marked->v.k=dX->s.Why w s' v
 | row:s.wrote w.n=false->s'.wrote w.n=true->v.k=dX->s.Why w s' v
 | name (x:Int×Wo×Wo):x∈s'.named->(¬ s.blames x.1)->(v=x.2.1 \/ v=x.2.2)->s.Why w s' v
theorem wrote_iff {s:Hs} {n:Int}:s.wrote n=true↔∃ x∈s.rows,x.1=n:=by
 unfold Hs.wrote
 rw [List.any_eq_true]
 exact ⟨fun ⟨x,h,e⟩=>⟨x,h,eq_of_beq e⟩,fun ⟨x,h,e⟩=>⟨x,h,beq_iff_eq.mpr e⟩⟩
set_option tactic.hygienic true in
theorem Hs.why (hw:∀ a∈s.known,aT a w=true->a.n=w.n):∀ v∈(s.hear w).2,v.n=w.n /\ s.Why w (s.hear w).1 v:=by
 unfold Hs.hear
 by_cases z:w∈s.known
 ·rw [if_pos z];exact fun v q=>nomatch q
 ·rw [if_neg z]
  dsimp only
  have e1:=bK { s with known:=s.known++[w] } w
  have e2:=cO (({ s with known:=s.known++[w] }:Hs).marking w).1 w.n w.r
  have k3:=Hs.Mo.naming ((({ s with known:=s.known++[w] }:Hs).marking w).1.writing w.n w.r).1 w (s.known.filter fun a=>aT a w)
  intro v q
  rcases List.mem_append.mp q with q | q
  ·rcases List.mem_append.mp q with q | q
   ·clear e1 e2 k3
    have e:=(d0 { s with known:=s.known++[w] } w).2 v q
    refine ⟨by rw [e.2];rfl,.mark ?_ ?_ (by rw [e.2];rfl)⟩
    all_goals
     unfold Hs.marking at q
     split at q
     ·cases q
     ·rename_i y
      first
       | exact Classical.byContradiction fun c=>y (.inl c)
       | exact fun c=>y (.inr c)
   ·generalize ({ s with known:=s.known++[w] }:Hs).marking w=a at e1 e2 k3 q ⊢
    have ew:a.1.wrote w.n=s.wrote w.n:=by unfold Hs.wrote;rw [e1.2.1]
    unfold Hs.writing at q e2 k3 ⊢
    split at q
    ·cases q
    ·rename_i y
     rw [if_neg y] at e2 k3 ⊢
     have e:=(aH0 q).2
     refine ⟨by rw [e];rfl,.row ?_ ?_ (by rw [e];rfl)⟩
     ·rw [<- ew];exact Bool.eq_false_iff.mpr fun c=>y (.inr c)
     ·exact wrote_iff.mpr ⟨_,k3.ro _ (List.mem_append_right _ (.head _)),rfl⟩
  ·have en:=e2.2.1.trans e1.2.2.1
   clear e1 e2 k3
   generalize ((({ s with known:=s.known++[w] }:Hs).marking w).1.writing w.n w.r).1=b at en q ⊢
   cases ea:s.known.filter fun a=>aT a w with
   | nil=>rw [ea] at q;cases q
   | cons a l=>
    rw [ea] at q
    have ha:=List.mem_filter.mp (show a∈s.known.filter fun a=>aT a w by rw [ea];exact .head _)
    unfold Hs.naming at q ⊢
    dsimp only at q ⊢
    split at q
    ·cases q
    ·rename_i y
     rw [if_neg y]
     have hv:v=a \/ v=w:=(List.mem_cons.mp q).imp id List.mem_singleton.mp
     refine ⟨hv.elim (fun e=>by rw [e];exact hw a ha.1 ha.2) fun e=>by rw [e],.name (w.h,a,w) (List.mem_append_right _ (.head _)) (fun c=>y ?_) hv⟩
     rcases c with ⟨x,hx,e⟩
     exact List.any_eq_true.mpr ⟨x,by rw [en];exact hx,beq_iff_eq.mpr e⟩
end
end Mini
namespace Mini
open PySem
structure Hs.Cl (s:Hs):Prop where
 sm:∀ w∈s.known,w.k=cK->w.n∈s.marked
 mm:∀ n∈s.marked,∃ w∈s.known,w.k=cK /\ w.n=n /\ mrk n w.r s.own∈s.known
 md:s.marked.Nodup
 wr:∀ n r,bC s.cnt <= ((s.marks n r).length:Int)->∃ x∈s.rows,x.1=n
 nm:∀ a∈s.known,∀ w∈s.known,aT a w=true->s.blames w.h
theorem bD9 {s s':Hs} {n:Int} {r:Str} (c:s'.cnt=s.cnt) (h:∀ j,mrk n r j∈s'.known->mrk n r j∈s.known):(s'.marks n r).length <= (s.marks n r).length:=by
 unfold Hs.marks
 rw [c,<- List.countP_eq_length_filter,<- List.countP_eq_length_filter]
 refine List.countP_mono_left fun w hw q=>?_
 rcases List.mem_map.mp hw with ⟨j,y_,rfl⟩
 exact decide_eq_true (h _ (of_decide_eq_true q))
section
variable {s:Hs} {P:Wo->Prop} {w:Wo}
structure Hs.Cw (s:Hs) (w:Wo):Prop where
 sm:∀ w∈s.known,w.k=cK->w.n∈s.marked
 mm:∀ n∈s.marked,∃ w∈s.known,w.k=cK /\ w.n=n /\ mrk n w.r s.own∈s.known
 md:s.marked.Nodup
 wr:∀ n r,¬ (n=w.n /\ r=w.r)->bC s.cnt <= ((s.marks n r).length:Int)->∃ x∈s.rows,x.1=n
theorem Hs.Cl.marking (C:s.Cl) (nk:w∉s.known):(({ s with known:=s.known++[w] }:Hs).marking w).1.Cw w /\ ∀ v∈(({ s with known:=s.known++[w] }:Hs).marking w).1.known,v∈s.known \/ v=w \/ v.h=s.own:=by
 unfold Hs.marking
 have ws:w∈s.known++[w]:=List.mem_append_right _ (.head _)
 have mm:∀ (K:List Wo),(∀ x∈s.known,x∈K)->∀ n∈s.marked,∃ w∈K,w.k=cK /\ w.n=n /\ mrk n w.r s.own∈K:=fun K h n hn=>by
  rcases C.mm n hn with ⟨v,h1,h2,h3,h4⟩
  exact ⟨v,h v h1,h2,h3,h _ h4⟩
 have ne:∀ {n:Int} {r:Str} {j:Int},¬ (n=w.n /\ r=w.r)->mrk n r j∈s.known++[w]->mrk n r j∈s.known:=fun z h=>by
  rcases List.mem_append.mp h with h | h
  ·exact h
  ·rw [<- List.mem_singleton.mp h] at z;exact absurd ⟨rfl,rfl⟩ z
 by_cases z:w.k≠cK \/ w.n∈s.marked
 ·rw [if_pos z]
  refine ⟨⟨fun v hv e=>?_,mm _ fun x q=>List.mem_append_left _ q,C.md,fun n r q h=>C.wr n r (Int.le_trans h (Int.ofNat_le.mpr (bD9 rfl fun j=>ne q)))⟩,fun v hv=>?_⟩
  ·rcases List.mem_append.mp hv with hv | hv
   ·exact C.sm v hv e
   ·rw [List.mem_singleton.mp hv] at e ⊢;exact z.resolve_left fun c=>c e
  ·exact (List.mem_append.mp hv).imp id fun h=>.inl (List.mem_singleton.mp h)
 ·rw [if_neg z]
  have zk:w.k=cK:=Classical.byContradiction fun c=>z (.inl c)
  refine ⟨⟨fun v hv e=>?_,fun n hn=>?_,?_,fun n r q h=>C.wr n r (Int.le_trans h (Int.ofNat_le.mpr (bD9 rfl fun j hj=>?_)))⟩,fun v hv=>?_⟩
  ·rcases mem_addW.mp hv with rfl | hv
   ·exact absurd e.symm dI
   ·rcases List.mem_append.mp hv with hv | hv
    ·exact List.mem_append_left _ (C.sm v hv e)
    ·rw [List.mem_singleton.mp hv];exact List.mem_append_right _ (.head _)
  ·rcases List.mem_append.mp hn with hn | hn
   ·exact mm _ (fun x q=>mem_addW.mpr (.inr (List.mem_append_left _ q))) n hn
   ·rw [List.mem_singleton.mp hn];exact ⟨w,mem_addW.mpr (.inr ws),zk,rfl,mem_addW.mpr (.inl rfl)⟩
  ·exact List.nodup_append.mpr ⟨C.md,List.pairwise_singleton _ _,fun a ha b hb e=>z (.inr (by rw [List.mem_singleton.mp hb] at e;exact e▸ha))⟩
  ·rcases mem_addW.mp hj with e | hj
   ·rw [mrk,mrk] at e;cases e;exact absurd ⟨rfl,rfl⟩ q
   ·exact ne q hj
  ·rcases mem_addW.mp hv with rfl | hv
   ·exact .inr (.inr rfl)
   ·exact (List.mem_append.mp hv).imp id fun h=>.inl (List.mem_singleton.mp h)
theorem Hs.Cw.writing (C:s.Cw w):let b:=(s.writing w.n w.r).1;b.known=s.known /\ b.marked=s.marked /\ b.cnt=s.cnt /\ b.own=s.own /\ b.named=s.named /\ ∀ n r,bC b.cnt <= ((b.marks n r).length:Int)->∃ x∈b.rows,x.1=n:=by
 unfold Hs.writing
 by_cases z:((s.marks w.n w.r).length:Int) < bC s.cnt \/ s.wrote w.n=true
 ·rw [if_pos z]
  refine ⟨rfl,rfl,rfl,rfl,rfl,fun n r h=>?_⟩
  by_cases q:n=w.n /\ r=w.r
  ·rw [q.1,q.2] at h
   rw [q.1]
   exact wrote_iff.mp (z.resolve_left (Int.not_lt.mpr h))
  ·exact C.wr n r q h
 ·rw [if_neg z]
  refine ⟨rfl,rfl,rfl,rfl,rfl,fun n r h=>?_⟩
  by_cases q:n=w.n /\ r=w.r
  ·exact ⟨_,List.mem_append_right _ (.head _),q.1.symm⟩
  ·rcases C.wr n r q h with ⟨x,hx,e⟩
   exact ⟨x,List.mem_append_left _ hx,e⟩
theorem aY9 (s:Hs) (w:Wo) (l:List Wo):(s.naming w l).1.known=s.known /\ (s.naming w l).1.marked=s.marked /\ (s.naming w l).1.cnt=s.cnt /\ (s.naming w l).1.own=s.own /\ (s.naming w l).1.rows=s.rows /\ (l≠[]->(s.naming w l).1.blames w.h):=by
 cases l with
 | nil=>exact ⟨rfl,rfl,rfl,rfl,rfl,fun h=>absurd rfl h⟩
 | cons a l=>
  unfold Hs.naming
  dsimp only
  by_cases z:(s.named.any fun x=>x.1 == w.h)=true
  ·rw [if_pos z]
   refine ⟨rfl,rfl,rfl,rfl,rfl,fun y_=>?_⟩
   rcases List.any_eq_true.mp z with ⟨x,hx,e⟩
   exact ⟨x,hx,eq_of_beq e⟩
  ·rw [if_neg z]
   exact ⟨rfl,rfl,rfl,rfl,rfl,fun y_=>⟨_,List.mem_append_right _ (.head _),rfl⟩⟩
theorem aF1 {a b:Wo} (h:aT a b=true):aT b a=true:=by
 have h:=unlike_iff.mp h
 exact unlike_iff.mpr ⟨h.1.symm,h.2.1.symm,h.2.2.1.symm,fun e=>h.2.2.2 e.symm⟩
theorem Hs.Cl.heard (C:s.Cl) (nk:w∉s.known) (F:({ s with known:=s.known++[w] }:Hs).Fine P):(s.hear w).1.Cl:=by
 have h1:=C.marking nk
 have F1:=(F.marking (w:=w)).un
 have e1:=bK { s with known:=s.known++[w] } w
 have wk:=(d0 { s with known:=s.known++[w] } w).1 w (List.mem_append_right _ (.head _))
 unfold Hs.hear
 rw [if_neg nk]
 dsimp only
 generalize (({ s with known:=s.known++[w] }:Hs).marking w).1=a at h1 F1 e1 wk ⊢
 have h2:=h1.1.writing
 have m2:=Hs.Mo.writing a w.n w.r
 generalize (a.writing w.n w.r).1=b at h2 m2 ⊢
 have h3:=aY9 b w (s.known.filter fun a=>aT a w)
 have m3:=Hs.Mo.naming b w (s.known.filter fun a=>aT a w)
 generalize (b.naming w (s.known.filter fun a=>aT a w)).1=c at h3 m3 ⊢
 rcases h2 with ⟨k2,q2,c2,o2,n2,r2⟩
 rcases h3 with ⟨k3,q3,c3,o3,r3,n3⟩
 have bl:∀ {l:Int},s.blames l->c.blames l:=fun h=>by
  rcases h with ⟨x,hx,e⟩
  exact ⟨x,m3.na x (by rw [n2,e1.2.2.1];exact hx),e⟩
 have no:∀ v∈a.known,∀ x∈a.known,v.h=s.own->¬ aT v x=true:=fun v hv x hx e=>F1 v hv x hx (e.trans e1.2.2.2.1.symm)
 have an:∀ v∈a.known,aT v w=true->c.blames w.h:=fun v hv u=>by
  rcases h1.2 v hv with h | h | h
  ·exact n3 fun e=>by
    have:v∈s.known.filter fun a=>aT a w:=List.mem_filter.mpr ⟨h,u⟩
    rw [e] at this
    cases this
  ·rw [h] at u;exact absurd rfl (unlike_iff.mp u).2.2.2
  ·exact absurd u (no v hv w wk h)
 refine ⟨fun v hv e=>?_,fun n hn=>?_,?_,fun n r h=>?_,fun v hv x hx u=>?_⟩
 ·rw [q3,q2];exact h1.1.sm v (by rw [<- k2,<- k3];exact hv) e
 ·rw [q3,q2] at hn
  rw [o3,o2,k3,k2]
  exact h1.1.mm n hn
 ·rw [q3,q2];exact h1.1.md
 ·have e:c.marks n r=b.marks n r:=by unfold Hs.marks;rw [c3,k3]
  rw [c3,e] at h
  rw [r3];exact r2 n r h
 ·have hv:v∈a.known:=by rw [<- k2,<- k3];exact hv
  have hx:x∈a.known:=by rw [<- k2,<- k3];exact hx
  rcases h1.2 v hv with h | h | h
  ·rcases h1.2 x hx with g | g | g
   ·exact bl (C.nm v h x g u)
   ·rw [g] at u ⊢;exact an v hv u
   ·exact absurd (aF1 u) (no x hx v hv g)
  ·rw [h] at u
   rw [<- (unlike_iff.mp u).1];exact an x hx (aF1 u)
  ·exact absurd u (no v hv x hx h)
theorem Hs.Cl.hear (C:s.Cl) (F:s.Fine P) (hw:P w):(s.hear w).1.Cl:=by
 by_cases z:w∈s.known
 ·unfold Hs.hear;rw [if_pos z];exact C
 ·exact C.heard z (F.know hw z)
theorem Hs.Cl.call (C:s.Cl) (F:s.Fine P) (hc:0 < s.cnt) (r:Str):(s.call r).1.Cl:=
 Hs.Cl.heard (s:={ s with onw:=s.onw+s.cnt }) ⟨C.sm,C.mm,C.md,C.wr,C.nm⟩ (F.says r).1 ((F.says r).2 hc)
theorem aC5 (s:Hs) (w:Wo):w∈(s.hear w).1.known:=by
 unfold Hs.hear
 by_cases z:w∈s.known
 ·rw [if_pos z];exact z
 ·rw [if_neg z]
  exact (Hs.Mo.after { s with known:=s.known++[w] } w (s.known.filter fun a=>aT a w)).kn w (List.mem_append_right _ (.head _))
end
end Mini
namespace Mini
open PySem
noncomputable def Tn.As (t:Tn):Prop:=(t.lets.map (·.1)).Pairwise (· < ·) /\ ∀ x∈t.lets,x.1 < t.given
theorem Tn.As.send {t:Tn} (h:t.As) (l:Lr):(t.send l).As:=by
 refine ⟨?_,fun x hx=>?_⟩
 ·show ((t.lets++[(t.given,l)]).map (·.1)).Pairwise _
  rw [List.map_append]
  refine List.pairwise_append.mpr ⟨h.1,List.pairwise_singleton _ _,fun a ha b hb=>?_⟩
  rcases List.mem_map.mp ha with ⟨x,hx,rfl⟩
  rw [List.mem_singleton.mp hb]
  exact h.2 x hx
 ·rcases List.mem_append.mp hx with hx | hx
  ·exact Int.lt_trans (h.2 x hx) (Int.lt_succ _)
  ·rw [List.mem_singleton.mp hx];exact Int.lt_succ _
theorem Tn.As.tos {h:Int} {w:Wo}:∀ {l:List Nat} {t:Tn},t.As->(l.foldl (Tn.to h w) t).As
 | [],_,a=>a
 | j::l,t,a=>Tn.As.tos (l:=l) (by
  unfold Tn.to
  split
  ·exact a
  ·exact a.send _)
theorem Tn.As.tell {h:Int}:∀ {ws:List Wo} {t:Tn},t.As->(t.tell h ws).As
 | [],_,a=>a
 | w::ws,t,a=>Tn.As.tell (ws:=ws) (Tn.As.tos (t:=t.say w) a)
theorem aX7 {h:Int} {w:Wo} {x:Int×Lr}:∀ {l:List Nat} {t:Tn},x∈t.lets->x∈(l.foldl (Tn.to h w) t).lets
 | [],_,a=>a
 | j::l,t,a=>aX7 (l:=l) (by
  unfold Tn.to
  split
  ·exact a
  ·exact List.mem_append_left _ a)
theorem aD9 {h:Int} {x:Int×Lr}:∀ {ws:List Wo} {t:Tn},x∈t.lets->x∈(t.tell h ws).lets
 | [],_,a=>a
 | w::ws,t,a=>aD9 (ws:=ws) (aX7 (t:=t.say w) a)
structure Tn.Ext (t t':Tn):Prop where
 cnt:t'.cnt=t.cnt
 own:t'.hs.map (·.own)=t.hs.map (·.own)
 mo:∀ (i:Nat) (s:Hs),t.hs[i]?=some s->∃ s',t'.hs[i]?=some s' /\ (∀ x∈s.known,x∈s'.known) /\ s'.onw=s.onw
theorem Tn.Ext.refl (t:Tn):t.Ext t:=⟨rfl,rfl,fun i s h=>⟨s,h,fun y_ q=>q,rfl⟩⟩
theorem Tn.Ext.trans {a b c:Tn} (h:a.Ext b) (k:b.Ext c):a.Ext c:=by
 refine ⟨k.cnt.trans h.cnt,k.own.trans h.own,fun i s e=>?_⟩
 rcases h.mo i s e with ⟨s1,e1,l1,r1⟩
 rcases k.mo i s1 e1 with ⟨s2,e2,l2,r2⟩
 exact ⟨s2,e2,fun x q=>l2 x (l1 x q),r2.trans r1⟩
noncomputable def Ti (hs:List Hs) (ls:List (Int×Lr)):Prop:=∀ s∈hs,∀ v,s.Tl v->∀ s2∈hs,s2.own≠s.own->v∈s2.known \/ ∃ x∈ls,x.2.r=s2.own /\ x.2.w=v
theorem bN1 {h:Int} {w:Wo}:∀ {l:List Nat} {t:Tn} {j:Nat},j∈l->(j:Int)≠h->∃ x∈(l.foldl (Tn.to h w) t).lets,x.2.r=j /\ x.2.w=w
 | i::l,t,j,hj,ne=>by
  rcases List.mem_cons.mp hj with rfl | hj
  ·refine ⟨(t.given,⟨h,j,w⟩),aX7 (l:=l) ?_,rfl,rfl⟩
   unfold Tn.to
   rw [if_neg ne]
   exact List.mem_append_right _ (.head _)
  ·exact bN1 (l:=l) hj ne
theorem bC1 {h:Int} {w:Wo} {j:Int}:∀ {ws:List Wo} {t:Tn},w∈ws->0 <= j->j < t.cnt->j≠h->∃ x∈(t.tell h ws).lets,x.2.r=j /\ x.2.w=w
 | v::ws,t,hw,j0,j1,ne=>by
  rcases List.mem_cons.mp hw with rfl | hw
  ·have e:((j.toNat:Nat):Int)=j:=Int.toNat_of_nonneg j0
   rcases bN1 (w:=w) (t:=t.say w) (h:=h) (l:=List.range t.cnt.toNat) (j:=j.toNat) (List.mem_range.mpr ((Int.toNat_lt_toNat (Int.lt_of_le_of_lt j0 j1)).mpr j1)) (by rw [e];exact ne) with ⟨x,hx,h1,h2⟩
   exact ⟨x,aD9 (ws:=ws) (t:=t.tell1 h w) hx,h1.trans e,h2⟩
  ·exact bC1 (ws:=ws) hw j0 (by rw [(fT h v t).1];exact j1) ne
theorem bN2 {h:Int} {w:Wo}:∀ {l:List Nat} {t:Tn},(l.foldl (Tn.to h w) t).lets.length <= t.lets.length+l.length
 | [],t=>Nat.le_refl _
 | j::l,t=>by
  have:=bN2 (h:=h) (w:=w) (l:=l) (t:=t.to h w j)
  have e:(t.to h w j).lets.length <= t.lets.length+1:=by
   unfold Tn.to
   split
   ·exact Nat.le_succ _
   ·exact Nat.le_of_eq List.length_append
  rw [List.length_cons]
  exact Nat.le_trans this (Nat.le_trans (Nat.add_le_add_right e _) (Nat.le_of_eq (Nat.succ_add_eq_add_succ _ _)))
theorem bC2 {h:Int}:∀ {ws:List Wo} {t:Tn},t.cnt <= 12->(t.tell h ws).lets.length <= t.lets.length+12 * ws.length
 | [],t,_=>Nat.le_refl _
 | w::ws,t,c=>by
  have h1:=bC2 (h:=h) (ws:=ws) (t:=t.tell1 h w) (by rw [(fT h w t).1];exact c)
  have h2:=bN2 (h:=h) (w:=w) (l:=List.range t.cnt.toNat) (t:=t.say w)
  rw [List.length_range] at h2
  have h3:t.cnt.toNat <= 12:=bS c
  have h2:(t.tell1 h w).lets.length <= t.lets.length+t.cnt.toNat:=h2
  rw [List.length_cons]
  exact Nat.le_trans h1 (Nat.le_trans (Nat.add_le_add_right (Nat.le_trans h2 (Nat.add_le_add_left h3 _)) _) (Nat.le_of_eq (by rw [Nat.mul_succ,Nat.add_right_comm,Nat.add_assoc])))
structure Tn.In0 (t:Tn) (L:List Int) (Ns:List Int) (b:Nat):Prop where
 fine:t.Fine Ns
 ok:t.Ok b
 hon:t.hs.map (·.own)=eG t.cnt L
structure Tn.In (t:Tn) (L:List Int) (Ns:List Int) (b:Nat):Prop extends t.In0 L Ns b where
 cl:∀ s∈t.hs,s.Cl
 ti:Ti t.hs t.lets
theorem Tn.In.more {t:Tn} {L Ns:List Int} {b:Nat} (h:t.In L Ns b) (n:Int):t.In L (n::Ns) b:=⟨⟨h.fine.more n,h.ok,h.hon⟩,h.cl,h.ti⟩
theorem Tn.Ok.mono {t:Tn} {b c:Nat} (h:t.Ok b) (k:b <= c):t.Ok c:=⟨h.lk.mono k,h.c1,h.c2,h.on,fun s q=>⟨(h.hc s q).1,Nat.le_trans (h.hc s q).2 k⟩,h.as⟩
theorem Tn.In.mono {t:Tn} {L Ns:List Int} {b c:Nat} (h:t.In L Ns b) (k:b <= c):t.In L Ns c:=⟨⟨h.fine,h.ok.mono k,h.hon⟩,h.cl,h.ti⟩
section
variable {t:Tn} {L Ns:List Int} {b i:Nat} {s:Hs}
theorem Tn.In0.turned (I:t.In0 L Ns b) (hs:t.hs[i]?=some s) {x:Hs×List Wo} {y:Hs} (h:y∈(t.turn i x).hs):y=x.1 \/ (y∈t.hs /\ y.own≠s.own):=by
 rw [show (t.turn i x).hs=t.hs.set i x.1 from (bE _ _ _).2.1] at h
 exact bP3 I.ok.on hs h
theorem Tn.Ok.turn (O:t.Ok b) (hs:t.hs[i]?=some s) {x:Hs×List Wo} {d:Nat} (ho:x.1.own=s.own) (hc:x.1.cnt=s.cnt) (hz:x.1.sz <= s.sz+d) (hl:13 * x.2.length <= d):(t.turn i x).Ok (b+d):=by
 have hsm:=List.mem_of_getElem? hs
 have sc:=O.hc s hsm
 have O1:Tn.Lk { t with hs:=t.hs.set i x.1 } b:=⟨O.lk.lt,O.lk.ll,O.lk.sl⟩
 have cn:(t.turn i x).cnt=t.cnt:=(bE _ _ _).1
 have eh:(t.turn i x).hs=t.hs.set i x.1:=(bE _ _ _).2.1
 refine ⟨(Tn.Lk.tell x.1.own x.2 O1 O.c2).mono (Nat.add_le_add_left hl b),by rw [cn];exact O.c1,by rw [cn];exact O.c2,?_,fun y hy=>?_,(Tn.As.tell (t:={ t with hs:=t.hs.set i x.1 }) ⟨O.as,O.lk.lt⟩).1⟩
 ·rw [eh,List.map_set,ho,aA1 (by rw [List.getElem?_map,hs];rfl)];exact O.on
 ·rw [cn]
  rw [eh] at hy
  rcases List.mem_or_eq_of_mem_set hy with hy | rfl
  ·exact ⟨(O.hc y hy).1,Nat.le_trans (O.hc y hy).2 (Nat.le_add_right _ _)⟩
  ·exact ⟨hc.trans sc.1,Nat.le_trans hz (Nat.add_le_add sc.2 (Nat.le_refl _))⟩
theorem Tn.Ext.turn (hs:t.hs[i]?=some s) {x:Hs×List Wo} (ho:x.1.own=s.own) (hr:(∀ v∈s.known,v∈x.1.known) /\ x.1.onw=s.onw):t.Ext (t.turn i x):=by
 have eh:(t.turn i x).hs=t.hs.set i x.1:=(bE _ _ _).2.1
 refine ⟨(bE _ _ _).1,by rw [eh,List.map_set,ho,aA1 (by rw [List.getElem?_map,hs];rfl)],fun j y e=>?_⟩
 rw [eh]
 by_cases q:i=j
 ·subst q
  rw [hs] at e
  cases e
  exact ⟨x.1,List.getElem?_set_self (List.getElem?_eq_some_iff.mp hs).1,hr⟩
 ·exact ⟨y,by rw [List.getElem?_set_ne q];exact e,fun y_ q=>q,rfl⟩
theorem Tn.In0.turn {Ns':List Int} {ls:List (Int×Lr)} {d:Nat} (I:t.In0 L Ns b) (hs:t.hs[i]?=some s) {x:Hs×List Wo} (ho:x.1.own=s.own) (hc:x.1.cnt=s.cnt) (hz:x.1.sz <= s.sz+d) (hl:13 * x.2.length <= d) (F:(t.turn i x).Fine Ns') (cl:∀ s∈t.hs,s.Cl) (xc:x.1.Cl) (mo:s.Mo x.1 x.2) (ti:Ti t.hs ls) (hk:∀ y∈ls,y∈t.lets \/ (y.2.r=s.own /\ y.2.w∈x.1.known)):(t.turn i x).In L Ns' (b+d):=by
 have eh:(t.turn i x).hs=t.hs.set i x.1:=(bE _ _ _).2.1
 have cn:(t.turn i x).cnt=t.cnt:=(bE _ _ _).1
 have hm:=List.mem_of_getElem? hs
 refine ⟨⟨F,I.ok.turn hs ho hc hz hl,?_⟩,fun y hy=>?_,fun y hy v hv y2 hy2 ne=>?_⟩
 ·rw [eh,List.map_set,ho,aA1 (by rw [List.getElem?_map,hs];rfl),cn]
  exact I.hon
 ·rcases I.turned hs hy with rfl | h
  ·exact xc
  ·exact cl y h.1
 ·have old:∀ z∈t.lets,z∈(t.turn i x).lets:=fun z hz=>aD9 (t:={ t with hs:=t.hs.set i x.1 }) hz
  rcases I.turned hs hy with rfl | h
  ·rcases I.turned hs hy2 with rfl | h2
   ·exact absurd rfl ne
   ·rcases mo.tl v hv with hv | hv
    ·rcases ti s hm v hv y2 h2.1 h2.2 with q | q
     ·exact .inl q
     ·rcases q with ⟨z,hz,e1,e2⟩
      rcases hk z hz with q | q
      ·exact .inr ⟨z,old z q,e1,e2⟩
      ·exact absurd (e1.symm.trans q.1) h2.2
    ·have rg:=I.fine.rg y2 h2.1
     exact .inr (bC1 (t:={ t with hs:=t.hs.set i x.1 }) hv rg.1 rg.2.1 ne)
  ·rcases I.turned hs hy2 with rfl | h2
   ·rcases ti y h.1 v hv s hm (fun c=>h.2 c.symm) with q | q
    ·exact .inl (mo.kn v q)
    ·rcases q with ⟨z,hz,e1,e2⟩
     rcases hk z hz with q | q
     ·exact .inr ⟨z,old z q,e1.trans ho.symm,e2⟩
     ·exact .inl (e2▸q.2)
   ·rcases ti y h.1 v hv y2 h2.1 ne with q | q
    ·exact .inl q
    ·rcases q with ⟨z,hz,e1,e2⟩
     rcases hk z hz with q | q
     ·exact .inr ⟨z,old z q,e1,e2⟩
     ·exact absurd (e1.symm.trans q.1) h2.2
theorem Tn.In.call (I:t.In L Ns b) (hs:t.hs[i]?=some s) {r:Str} (hr:bP7 (.str r)=true) (hn:Ns.length <= 100):(t.turn i (s.call r)).In L (s.onw::Ns) (b+300):=by
 have hc:=bX { s with onw:=s.onw+s.cnt } ⟨cK,s.onw,r,s.own⟩
 have hm:=List.mem_of_getElem? hs
 have sc:=I.ok.hc s hm
 have F:=I.fine.hs s hm
 refine I.toIn0.turn (ls:=t.lets) (x:=s.call r) hs hc.2.1 hc.1 (Nat.le_trans hc.2.2.2.1 (Nat.add_le_add_left (by decide) _)) ?_ (I.fine.call I.ok.on hs hr hn I.ok.c2) I.cl ((I.cl s hm).call F (by rw [sc.1];exact Int.lt_of_lt_of_le (by decide) I.ok.c1) r) (.call r (F.says r).1) I.ti fun y hy=>.inl hy
 show 13 * (_::(Hs.hear _ _).2).length <= 300
 rw [List.length_cons]
 exact Nat.le_trans (Nat.mul_le_mul_left 13 (Nat.succ_le_succ (Nat.le_trans hc.2.2.2.2 (Nat.add_le_add_right (bS (show s.cnt <= 12 by rw [sc.1];exact I.ok.c2)) 3)))) (by decide)
theorem Tn.In0.take (I:t.In0 L Ns b) (k:Int):(t.take k).In0 L Ns b:=⟨I.fine.take k,⟨⟨fun x hx=>I.ok.lk.lt x (List.mem_filter.mp hx).1,Nat.le_trans (List.length_filter_le _ _) I.ok.lk.ll,I.ok.lk.sl⟩,I.ok.c1,I.ok.c2,I.ok.on,I.ok.hc,List.Pairwise.sublist (List.Sublist.map _ List.filter_sublist) I.ok.as⟩,I.hon⟩
theorem take_iff {k:Int} {x:Int×Lr}:x∈(t.take k).lets↔x∈t.lets /\ x.1≠k:=by
 show x∈t.lets.filter _↔_
 rw [List.mem_filter,Bool.not_eq_true',beq_eq_false_iff_ne]
inductive Br (t:Tn) (k:Int) (l:Lr):Tn->Prop
 | h (i:Nat) (s:Hs):t.hs[i]?=some s->s.own=l.r->Br t k l ((t.take k).turn i (s.hear l.w))
 | l:(∀ s∈t.hs,s.own≠l.r)->Br t k l (t.take k)
theorem Tn.In0.same_let (I:t.In0 L Ns b) {k:Int} {l l':Lr} (h:(k,l)∈t.lets) (h':(k,l')∈t.lets):l'=l:=by
 exact congrArg Prod.snd (bD6 (f:=fun x:Int×Lr=>x.1) (I.ok.as.imp fun h=>Int.ne_of_lt h) h h' rfl)
theorem Tn.In0.same_own (I:t.In0 L Ns b) {s s':Hs} (h:s∈t.hs) (h':s'∈t.hs) (e:s'.own=s.own):s'=s:=
 bD6 I.ok.on h h' e
theorem Br.step0 {k:Int} {l:Lr} {t':Tn} (B:Br t k l t') (I:t.In L Ns b) (hk:(k,l)∈t.lets) {d:Nat} (hd:∀ s∈t.hs,s.own=l.r->(s.hear l.w).1.sz <= s.sz+d /\ 13 * (s.hear l.w).2.length <= d):t'.In L Ns (b+d) /\ t.Ext t':=by
 have I1:=I.toIn0.take k
 have e1:t.Ext (t.take k):=⟨rfl,rfl,fun i s e=>⟨s,e,fun y_ q=>q,rfl⟩⟩
 cases B with
 | h i s hs e=>
  have hm:=List.mem_of_getElem? hs
  have hw:=I.fine.le _ hk
  have hc:=bX s l.w
  have F:=I.fine.hs s hm
  have mo:s.Mo (s.hear l.w).1 (s.hear l.w).2:=.hear (F.ow _ hw)
  have hd:=hd s hm e
  refine ⟨I1.turn (ls:=t.lets) (x:=s.hear l.w) hs hc.2.1 hc.1 hd.1 hd.2 (I1.fine.hear I.ok.on hs hw) I.cl ((I.cl s hm).hear F hw) mo I.ti fun y hy=>?_,e1.trans (.turn (t:=t.take k) hs hc.2.1 ⟨mo.kn,hc.2.2.1⟩)⟩
  by_cases z:y.1=k
  ·rcases y with ⟨y1,y2⟩
   cases z
   rw [I.toIn0.same_let hk hy]
   exact .inr ⟨e.symm,aC5 s l.w⟩
  ·exact .inl (take_iff.mpr ⟨hy,z⟩)
 | l no=>
  refine ⟨⟨⟨I1.fine,I1.ok.mono (Nat.le_add_right _ _),I1.hon⟩,I.cl,fun s hs v hv s2 h2 ne=>?_⟩,e1⟩
  rcases I.ti s hs v hv s2 h2 ne with q | q
  ·exact .inl q
  ·rcases q with ⟨z,hz,g1,g2⟩
   refine .inr ⟨z,take_iff.mpr ⟨hz,fun c=>?_⟩,g1,g2⟩
   rcases z with ⟨y1,y2⟩
   cases c
   have:=I.toIn0.same_let hk hz
   subst this
   exact no s2 h2 g1.symm
theorem Br.step {k:Int} {l:Lr} {t':Tn} (B:Br t k l t') (I:t.In L Ns b) (hk:(k,l)∈t.lets):t'.In L Ns (b+300) /\ t.Ext t':=
 B.step0 I hk fun s hm y_=>by
  have hc:=bX s l.w
  have sc:=I.ok.hc s hm
  exact ⟨Nat.le_trans hc.2.2.2.1 (Nat.add_le_add_left (by decide) _),Nat.le_trans (Nat.mul_le_mul_left 13 (Nat.le_trans hc.2.2.2.2 (Nat.add_le_add_right (bS (show s.cnt <= 12 by rw [sc.1];exact I.ok.c2)) 3))) (by decide)⟩
theorem Br.keep {k:Int} {l:Lr} {t':Tn} (B:Br t k l t'):∀ x∈t.lets,x.1≠k->x∈t'.lets:=fun x hx hne=>by
 have q:=take_iff.mpr ⟨hx,hne⟩
 cases B with
 | h i s hs e=>exact aD9 (t:={ t.take k with hs:=_ }) q
 | l no=>exact q
theorem Tn.In.lie (I:t.In L Ns b) {h r:Int} {w:Wo} (hl:∀ s∈t.hs,s.own≠h) (hw:w.Ok t.cnt) (hf:w.h=h \/ w∈t.said) (hn:w.n∈Ns):((t.say w).send ⟨h,r,w⟩).In L Ns (b+300) /\ t.Ext ((t.say w).send ⟨h,r,w⟩):=by
 refine ⟨⟨⟨I.fine.lie hl hw hf hn,⟨((I.ok.lk.say w).send _).mono (Nat.add_le_add_left (by decide:2 <= 300) b),I.ok.c1,I.ok.c2,I.ok.on,fun s q=>⟨(I.ok.hc s q).1,Nat.le_trans (I.ok.hc s q).2 (Nat.le_add_right _ _)⟩,(Tn.As.send (t:=t.say w) ⟨I.ok.as,I.ok.lk.lt⟩ _).1⟩,I.hon⟩,I.cl,fun s hs v hv s2 h2 ne=>(I.ti s hs v hv s2 h2 ne).imp id fun q=>?_⟩,⟨rfl,rfl,fun i s e=>⟨s,e,fun y_ q=>q,rfl⟩⟩⟩
 rcases q with ⟨x,hx,q⟩
 exact ⟨x,List.mem_append_left _ hx,q⟩
theorem cV8 {x:Int} {L:List Int}:(L.any fun y=>y == x)=decide (x∈L):=by
 rw [Bool.eq_iff_iff,decide_eq_true_iff,List.any_eq_true]
 exact ⟨fun ⟨y,h,e⟩=>eq_of_beq e▸h,fun h=>⟨x,h,beq_self_eq_true x⟩⟩
theorem hon_iff {c:Int} {x:Int}:x∈eG c L↔0 <= x /\ x < c /\ x∉L:=by
 unfold eG aP4
 rw [List.mem_filter,List.mem_map,cV8,Bool.not_eq_true',decide_eq_false_iff_not]
 constructor
 ·rintro ⟨⟨j,hj,rfl⟩,h⟩
  have:=List.mem_range.mp hj
  exact ⟨Int.natCast_nonneg _,Int.lt_toNat.mp this,h⟩
 ·rintro ⟨h0,h1,h2⟩
  exact ⟨⟨x.toNat,List.mem_range.mpr ((Int.toNat_lt_toNat (Int.lt_of_le_of_lt h0 h1)).mpr h1),Int.toNat_of_nonneg h0⟩,h2⟩
theorem Tn.In0.liar (I:t.In0 L Ns b) {h:Int} (hl:h∈L):∀ s∈t.hs,s.own≠h:=fun s q e=>by
 have:s.own∈t.hs.map (·.own):=List.mem_map.mpr ⟨s,q,rfl⟩
 rw [I.hon,e] at this
 exact (hon_iff.mp this).2.2 hl
theorem Tn.In0.honest (I:t.In0 L Ns b) {h:Int} (hh:h∈eG t.cnt L):∃ (i:Nat) (s:Hs),t.hs[i]?=some s /\ s.own=h:=by
 rw [<- I.hon] at hh
 rcases List.mem_map.mp hh with ⟨s,q,e⟩
 rcases List.getElem?_of_mem q with ⟨i,hi⟩
 exact ⟨i,s,hi,e⟩
end
section
variable {S:Sig} {N:HN} {m:MH} {t:Tn} {L Ns:List Int} {p b:Nat} {B:List (Nat×MObj)}
theorem bF8 (Z:TF S N) (n:Nat) {k:Int} {l:Lr} (H:Tw m N p t B) (I:t.In L Ns b) (hk:(k,l)∈t.lets) (hb:b+300 < lid):Wp (run S (n+7) (N.ki+17) [.ref p,.int k]) m (fun y_ m'=>∃ t',Tw m' N p t' B /\ Br t k l t') nox:=by
 by_cases z:∃ s∈t.hs,s.own=l.r
 ·rcases z with ⟨s,hs,e⟩
  rcases List.getElem?_of_mem hs with ⟨i,hi⟩
  refine aU (bZ3 Z n H I.ok hk hi e hb) fun u m' z_=>?_
  rcases z_ with ⟨q,y_,h⟩
  exact ⟨_,h.tail,.h i s hi e⟩
 ·refine aU (bZ2 Z (n+4) H I.ok hk fun s hs e=>z ⟨s,hs,e⟩) fun u m' z_=>?_
  rcases z_ with ⟨q,y_,h⟩
  exact ⟨_,h.tail,.l fun s hs e=>z ⟨s,hs,e⟩⟩
theorem aM5 (Z:TF S N) (n:Nat) {k:Int} {l:Lr} (H:Tw m N p t B) (I:t.In L Ns b) (hk:(k,l)∈t.lets) (hb:b+300 < lid):Wp (run S (n+7) (N.ki+17) [.ref p,.int k]) m (fun y_ m'=>∃ t',Tw m' N p t' B /\ t'.In L Ns (b+300) /\ t.Ext t' /\ ∀ x∈t.lets,x.1≠k->x∈t'.lets) nox:=by
 refine wp_mono (bF8 Z n H I hk hb) (fun u m' z_=>?_) fun y_ y_ q=>q
 rcases z_ with ⟨t',h,br⟩
 have:=br.step I hk
 exact ⟨t',h,this.1,this.2,br.keep⟩
end
end Mini
namespace Mini
open PySem
section
variable {t:Tn} {L Ns:List Int} {b:Nat} {s s1 s2:Hs} {x1 x2:Int×Str×List Wo}
theorem Tn.In0.true_ (I:t.In0 L Ns b) {a w:Wo} (ha:a∈t.said) (hw:w∈t.said) (h:a.h∉L):¬ aT a w=true:=fun u=>by
 have hk:=I.fine.wo a ha
 rcases I.honest (hon_iff.mpr ⟨hk.h0,hk.h1,h⟩) with ⟨i,s,hs,e⟩
 have F:=I.fine.hs s (List.mem_of_getElem? hs)
 exact F.un a (F.ow a ha e.symm) w (F.ow w hw ((unlike_iff.mp u).1.symm.trans e.symm)) e.symm u
theorem Tn.In0.marks (I:t.In0 L Ns b) (hs:s∈t.hs) (hx:x1∈s.rows):∀ w∈x1.2.2,w∈t.said /\ w=mrk x1.1 x1.2.1 w.h /\ 0 <= w.h /\ w.h < t.cnt:=fun w hw=>by
 have F:=I.fine.hs s hs
 have k:=F.rk x1 hx w hw
 have sd:=F.kn w k.1
 have o:=I.fine.wo w sd
 exact ⟨sd,k.2,o.h0,o.h1⟩
theorem share {c:Int} (c0:0 <= c) {A C:List Int} (a:A.Nodup) (hc:C.Nodup) (ra:∀ x∈A,0 <= x /\ x < c) (rc:∀ x∈C,0 <= x /\ x < c):(A.length:Int)+C.length - c <= (A.filter fun x=>decide (x∈C)).length:=by
 have nd:(C++A.filter fun x=>!decide (x∈C)).Nodup:=List.nodup_append.mpr ⟨hc,a.filter _,fun x hx y hy e=>by
  have:=(List.mem_filter.mp hy).2
  rw [<- e,decide_eq_true hx] at this
  cases this⟩
 have le:=aP1 (c:=c) nd fun x hx=>by
  rcases List.mem_append.mp hx with hx | hx
  ·exact rc x hx
  ·exact ra x (List.mem_filter.mp hx).1
 have sp:(A.filter fun x=>decide (x∈C)).length+(A.filter fun x=>!decide (x∈C)).length=A.length:=by
  clear nd le a ra
  induction A with
  | nil=>rfl
  | cons x A ih=>
   rw [List.filter_cons,List.filter_cons,List.length_cons]
   cases decide (x∈C)
   ·show (A.filter _).length+((A.filter _).length+1)=_;rw [<- Nat.add_assoc,ih]
   ·show (A.filter _).length+1+(A.filter _).length=_;rw [Nat.add_right_comm,ih]
 rw [List.length_append] at le
 lia
theorem Tn.In0.quorum (I:t.In0 L Ns b) (h1:s1∈t.hs) (h2:s2∈t.hs) (q1:x1∈s1.rows) (q2:x2∈s2.rows):∃ C:List Int,C.Nodup /\ 2 * bC t.cnt - t.cnt <= (C.length:Int) /\ ∀ j∈C,(∃ w∈x1.2.2,w.h=j) /\ ∃ w∈x2.2.2,w.h=j:=by
 have F1:=I.fine.hs s1 h1
 have F2:=I.fine.hs s2 h2
 have e1:=F1.re x1 q1
 have e2:=F2.re x2 q2
 rw [(I.fine.rg s1 h1).2.2] at e1
 rw [(I.fine.rg s2 h2).2.2] at e2
 have sh:=share (Int.le_trans (by decide) I.ok.c1) (F1.rd x1 q1) (F2.rd x2 q2) (fun x hx=>by
  rcases List.mem_map.mp hx with ⟨w,hw,rfl⟩
  exact (I.marks h1 q1 w hw).2.2) fun x hx=>by
  rcases List.mem_map.mp hx with ⟨w,hw,rfl⟩
  exact (I.marks h2 q2 w hw).2.2
 rw [List.length_map,List.length_map] at sh
 refine ⟨_,(F1.rd x1 q1).filter _,Int.le_trans ?_ sh,fun j hj=>?_⟩
 ·lia
 ·have hj:=List.mem_filter.mp hj
  exact ⟨List.mem_map.mp hj.1,List.mem_map.mp (of_decide_eq_true hj.2)⟩
theorem aW0 (c:Int):(c - 1) / 3 < 2 * bC c - c:=by
 unfold bC
 lia
theorem Tn.In0.same (I:t.In0 L Ns b) (h1:s1∈t.hs) (h2:s2∈t.hs) (q1:x1∈s1.rows) (q2:x2∈s2.rows) (en:x1.1=x2.1) (few:(L.length:Int) <= (t.cnt - 1) / 3):x1.2.1=x2.2.1:=by
 rcases I.quorum h1 h2 q1 q2 with ⟨C,nd,le,hC⟩
 by_cases z:∀ j∈C,j∈L
 ·have:=nd.length_le_of_subset z
  have:=aW0 t.cnt
  lia
 ·rcases Classical.not_forall.mp z with ⟨j,hj⟩
  rcases Classical.not_imp.mp hj with ⟨hjC,hjL⟩
  rcases hC j hjC with ⟨⟨w1,g1,e1⟩,w2,g2,e2⟩
  have m1:=I.marks h1 q1 w1 g1
  have m2:=I.marks h2 q2 w2 g2
  have nu:=I.true_ m1.1 m2.1 (by rw [e1];exact hjL)
  refine Classical.byContradiction fun c=>nu (unlike_iff.mpr ⟨e1.trans e2.symm,?_,?_,?_⟩)
  ·rw [m1.2.1,m2.2.1];rfl
  ·rw [m1.2.1,m2.2.1];exact en
  ·rw [m1.2.1,m2.2.1];exact c
theorem Tn.In0.named (I:t.In0 L Ns b) (hs:s∈t.hs):∀ x∈s.named,x.1∈L /\ x.2.1∈t.said /\ x.2.2∈t.said /\ aT x.2.1 x.2.2=true /\ x.1=x.2.2.h:=fun x hx=>by
 have F:=I.fine.hs s hs
 have k:=F.nk x hx
 have a:=F.kn _ k.1
 have c:=F.kn _ k.2.1
 refine ⟨Classical.byContradiction fun z=>I.true_ a c ?_ k.2.2.1,a,c,k.2.2⟩
 rw [(unlike_iff.mp k.2.2.1).1,<- k.2.2.2];exact z
end
end Mini
namespace Mini
open PySem
noncomputable def Tn.us (t:Tn):Nat:=(t.hs.map Hs.us).sum
theorem bN7:∀ {l:List Nat} {i a x:Nat},l[i]?=some a->(l.set i x).sum+a=l.sum+x
 | b::l,0,a,x,h=>by
  cases h
  show x+l.sum+b=b+l.sum+x
  exact (Nat.add_right_comm _ _ _).trans ((congrArg (·+l.sum) (Nat.add_comm x b)).trans (Nat.add_right_comm _ _ _))
 | b::l,i+1,a,x,h=>by
  have:=bN7 (l:=l) (i:=i) (x:=x) h
  show b+(l.set i x).sum+a=b+l.sum+x
  rw [Nat.add_assoc,this,Nat.add_assoc]
noncomputable def Upw (t t':Tn):Prop:=(∀ s∈t.hs,∃ s'∈t'.hs,s'.own=s.own /\ ∃ ts,s.Mo s' ts) /\ ∀ s'∈t'.hs,∃ s∈t.hs,s'.own=s.own /\ ∃ ts,s.Mo s' ts
theorem Upw.refl (t:Tn):Upw t t:=⟨fun s h=>⟨s,h,rfl,[],.refl s⟩,fun s h=>⟨s,h,rfl,[],.refl s⟩⟩
theorem Upw.trans {a b c:Tn} (h:Upw a b) (k:Upw b c):Upw a c:=by
 refine ⟨fun s q=>?_,fun s q=>?_⟩
 ·rcases h.1 s q with ⟨s1,q1,e1,y_,m1⟩
  rcases k.1 s1 q1 with ⟨s2,q2,e2,y_,m2⟩
  exact ⟨s2,q2,e2.trans e1,_,m1.trans m2⟩
 ·rcases k.2 s q with ⟨s1,q1,e1,y_,m1⟩
  rcases h.2 s1 q1 with ⟨s2,q2,e2,y_,m2⟩
  exact ⟨s2,q2,e1.trans e2,_,m2.trans m1⟩
section
variable {t t' t0:Tn} {L Ns:List Int} {b:Nat} {k:Int} {l:Lr}
theorem dD7 {z z' τ u u':Nat} (h:τ+u <= u' /\ z'+2 * u <= z+1+2 * u'):z' <= z+(1+13 * (u' - u)) /\ 13 * τ <= 1+13 * (u' - u):=by
 rcases Nat.exists_eq_add_of_le (Nat.le_trans (Nat.le_add_left u τ) h.1) with ⟨d,rfl⟩
 rw [Nat.add_sub_cancel_left]
 have h1:τ <= d:=Nat.le_of_add_le_add_right (b:=u) (by rw [Nat.add_comm d];exact h.1)
 have h2:z' <= z+1+2 * d:=Nat.le_of_add_le_add_right (b:=2 * u) (by have:=h.2;rwa [Nat.mul_add,Nat.add_comm (2 * u),<- Nat.add_assoc] at this)
 exact ⟨Nat.le_trans h2 (by rw [Nat.add_assoc];exact Nat.add_le_add_left (Nat.add_le_add_left (Nat.mul_le_mul_right d (by decide)) 1) z),Nat.le_trans (Nat.mul_le_mul_left 13 h1) (Nat.le_add_left _ _)⟩
theorem cE4 {l l0 l' τ u u' U U':Nat} (q1:l' <= l0+12 * τ) (lt:l0+1 <= l) (h:τ+u <= u') (q2:U'+u=U+u'):1+13 * (u' - u)+l'+26 * U <= l+26 * U':=by lia
theorem dD8 {l l0 U:Nat} (lt:l0+1 <= l):0+l0+26 * U <= l+26 * U:=by
 rw [Nat.zero_add];exact Nat.add_le_add_right (Nat.le_of_succ_le lt) _
theorem Br.fine (B:Br t k l t') (I:t.In L Ns b) (hk:(k,l)∈t.lets):∃ d,t'.In L Ns (b+d) /\ t.Ext t' /\ d+t'.lets.length+26 * t.us <= t.lets.length+26 * t'.us:=by
 have lt:(t.take k).lets.length+1 <= t.lets.length:=by
  refine Nat.lt_of_le_of_ne (List.length_filter_le _ _) fun c=>?_
  have:=(List.length_filter_eq_length_iff.mp c) _ hk
  rw [Bool.not_eq_true',beq_self_eq_true] at this
  cases this
 have st:=fun d=>B.step0 (d:=d) I hk
 cases B with
 | h i s hs e=>
  have hm:=List.mem_of_getElem? hs
  have sc:=I.ok.hc s hm
  have u:=cT1 s l.w (by rw [sc.1];exact I.ok.c2)
  have z:=st (1+13 * ((s.hear l.w).1.us - s.us)) fun y hy g=>by
   rw [I.toIn0.same_own hm hy (g.trans e.symm)]
   exact dD7 u
  refine ⟨_,z.1,z.2,?_⟩
  ·have eh:((t.take k).turn i (s.hear l.w)).hs=t.hs.set i (s.hear l.w).1:=(bE _ _ _).2.1
   have q1:((t.take k).turn i (s.hear l.w)).lets.length <= (t.take k).lets.length+12 * (s.hear l.w).2.length:=bC2 (t:={ t.take k with hs:=t.hs.set i (s.hear l.w).1 }) I.ok.c2
   have q2:((t.take k).turn i (s.hear l.w)).us+s.us=t.us+(s.hear l.w).1.us:=by
    unfold Tn.us
    rw [eh,List.map_set]
    exact bN7 (by rw [List.getElem?_map,hs];rfl)
   exact cE4 q1 lt u.1 q2
 | l no=>
  have z:=st 0 fun y hy g=>absurd g (no y hy)
  exact ⟨0,z.1,z.2,dD8 lt⟩
theorem Br.mem (B:Br t k l t') (I:t.In L Ns b):∀ s'∈t'.hs,(s'∈t.hs /\ s'.own≠l.r) \/ ∃ s∈t.hs,s.own=l.r /\ s'=(s.hear l.w).1:=by
 cases B with
 | h i s hs e=>
  intro s' h'
  rcases (I.toIn0.take k).turned (s:=s) hs h' with h | h
  ·exact .inr ⟨s,List.mem_of_getElem? hs,e,h⟩
  ·exact .inl ⟨h.1,fun c=>h.2 (c.trans e.symm)⟩
 | l no=>exact fun s' h'=>.inl ⟨h',no s' h'⟩
theorem Br.up (B:Br t k l t') (I:t.In L Ns b) (hk:(k,l)∈t.lets):Upw t t':=by
 have mo:∀ s∈t.hs,s.Mo (s.hear l.w).1 (s.hear l.w).2:=fun s hs=>.hear ((I.fine.hs s hs).ow _ (I.fine.le _ hk))
 refine ⟨?_,fun s' h'=>?_⟩
 ·cases B with
  | h i s hs e=>
   intro y hy
   have eh:((t.take k).turn i (s.hear l.w)).hs=t.hs.set i (s.hear l.w).1:=(bE _ _ _).2.1
   rw [eh]
   rcases List.getElem?_of_mem hy with ⟨j,hj⟩
   by_cases q:i=j
   ·subst q
    rw [hs] at hj
    cases hj
    exact ⟨_,List.mem_of_getElem? (List.getElem?_set_self (List.getElem?_eq_some_iff.mp hs).1),(bX s l.w).2.1,_,mo s hy⟩
   ·exact ⟨y,List.mem_of_getElem? (by rw [List.getElem?_set_ne q];exact hj),rfl,[],.refl y⟩
  | l no=>exact fun s h=>⟨s,h,rfl,[],.refl s⟩
 ·rcases B.mem I s' h' with h | h
  ·exact ⟨s',h.1,rfl,[],.refl s'⟩
  ·rcases h with ⟨s,hs,e,es⟩
   subst es
   exact ⟨s,hs,(bX s l.w).2.1,_,mo s hs⟩
noncomputable def Hs.wr (s:Hs) (n:Int):Prop:=∃ x∈s.rows,x.1=n
noncomputable def Sy (t:Tn) (v:Wo):Prop:=∃ s∈t.hs,∃ x∈s.named,v=x.2.1 \/ v=x.2.2
inductive Cs (t0 t:Tn) (n:Int):Prop
 | mark (s:Hs) (x:Int×Lr):s∈t0.hs->n∉s.marked->x∈t0.lets->x.2.w.k=cK->x.2.w.n=n->Cs t0 t n
 | row (s s':Hs):s∈t0.hs->¬ s.wr n->s'∈t.hs->s'.wr n->Cs t0 t n
 | name (h:Int) (s s':Hs):s∈t0.hs->¬ s.blames h->s'∈t.hs->s'.blames h->Cs t0 t n
structure Ca (t0 t:Tn) (v:Wo):Prop where
 n:∃ x∈t0.lets,x.2.w.n=v.n
 c:Cs t0 t v.n
 s:v.k=cK->Sy t v
structure Rd (t0:Tn) (W:List Int) (t:Tn):Prop where
 up:Upw t0 t
 kn:∀ x∈t0.lets,x.1∈W \/ ∀ s∈t.hs,s.own=x.2.r->x.2.w∈s.known
 le:∀ x∈t0.lets,x.1∈W->x∈t.lets
 nw:∀ y∈t.lets,(y.1∈W /\ y∈t0.lets) \/ Ca t0 t y.2.w
theorem Rd.new (t:Tn):Rd t (t.lets.map (·.1)) t:=⟨.refl t,fun x h=>.inl (List.mem_map.mpr ⟨x,h,rfl⟩),fun x h y_=>h,fun y h=>.inl ⟨List.mem_map.mpr ⟨y,h,rfl⟩,h⟩⟩
theorem Ca.up (h:Ca t0 t l.w) (u:Upw t t'):Ca t0 t' l.w:=by
 refine ⟨h.n,?_,fun e=>?_⟩
 ·cases h.c with
  | mark s x a b c d e=>exact .mark s x a b c d e
  | row s s' a b c d=>
   rcases u.1 s' c with ⟨s2,q2,y_,y_,m2⟩
   rcases d with ⟨x,hx,e⟩
   exact .row s s2 a b q2 ⟨x,m2.ro x hx,e⟩
  | name h s s' a b c d=>
   rcases u.1 s' c with ⟨s2,q2,y_,y_,m2⟩
   rcases d with ⟨x,hx,e⟩
   exact .name h s s2 a b q2 ⟨x,m2.na x hx,e⟩
 ·rcases h.s e with ⟨s,hs,x,hx,e⟩
  rcases u.1 s hs with ⟨s2,q2,y_,y_,m2⟩
  exact ⟨s2,q2,x,m2.na x hx,e⟩
theorem Rd.step {W W':List Int} (R:Rd t0 W t) (B:Br t k l t') (I:t.In L Ns b) {L0 N0:List Int} {b0:Nat} (I0:t0.In L0 N0 b0) (h0:(k,l)∈t0.lets) (hw:∀ j,j∈W↔j=k \/ j∈W') (hn:k∉W'):Rd t0 W' t':=by
 have hk:(k,l)∈t.lets:=R.le _ h0 ((hw k).mpr (.inl rfl))
 have u:=B.up I hk
 have sm:∀ {x:Int×Lr},x∈t0.lets->x.1=k->x.2=l:=fun {x} h e=>by
  rcases x with ⟨x1,x2⟩
  cases e
  exact I0.toIn0.same_let h0 h
 refine ⟨R.up.trans u,fun x hx=>?_,fun x hx h=>?_,fun y hy=>?_⟩
 ·rcases R.kn x hx with h | h
  ·rcases (hw _).mp h with h | h
   ·refine .inr fun s hs e=>?_
    rw [sm hx h] at e ⊢
    rcases B.mem I s hs with q | q
    ·exact absurd e q.2
    ·rcases q with ⟨s1,y_,y_,e1⟩
     rw [e1];exact aC5 s1 l.w
   ·exact .inl h
  ·refine .inr fun s hs e=>?_
   rcases u.2 s hs with ⟨s1,q1,e1,y_,m1⟩
   exact m1.kn _ (h s1 q1 (e1.symm.trans e))
 ·exact B.keep x (R.le x hx ((hw _).mpr (.inr h))) fun c=>hn (c▸h)
 ·have old:y∈(t.take k).lets->(y.1∈W' /\ y∈t0.lets) \/ Ca t0 t' y.2.w:=fun h=>by
   have h:=take_iff.mp h
   rcases R.nw y h.1 with q | q
   ·exact .inl ⟨((hw _).mp q.1).resolve_left h.2,q.2⟩
   ·exact .inr (q.up u)
  cases B with
  | l no=>exact old hy
  | h i s hs e=>
   rcases aF4 hy with q | q
   ·exact old q
   ·have hm:=List.mem_of_getElem? hs
    have wy:=Hs.why (s:=s) (w:=l.w) (fun a y_ u=>(unlike_iff.mp u).2.2.1) _ q
    rcases R.up.2 s hm with ⟨s0,q0,y_,y_,m0⟩
    have hm':(s.hear l.w).1∈((t.take k).turn i (s.hear l.w)).hs:=by
     rw [show ((t.take k).turn i (s.hear l.w)).hs=t.hs.set i (s.hear l.w).1 from (bE _ _ _).2.1]
     exact List.mem_of_getElem? (List.getElem?_set_self (List.getElem?_eq_some_iff.mp hs).1)
    refine .inr ⟨⟨(k,l),h0,wy.1.symm⟩,?_,fun ek=>?_⟩
    ·rw [wy.1]
     cases wy.2 with
     | mark a b c=>exact .mark s0 (k,l) q0 (fun z=>b (m0.ma _ z)) h0 a rfl
     | row a b c=>
      refine .row s0 _ q0 (fun z=>?_) hm' (wrote_iff.mp b)
      rcases z with ⟨x,hx,e⟩
      rw [wrote_iff.mpr ⟨x,m0.ro x hx,e⟩] at a
      cases a
     | name x a b c=>
      refine .name x.1 s0 _ q0 (fun z=>b ?_) hm' ⟨x,a,rfl⟩
      rcases z with ⟨x,hx,e⟩
      exact ⟨x,m0.na x hx,e⟩
    ·cases wy.2 with
     | mark a b c=>exact absurd (ek.symm.trans c) dI
     | row a b c=>exact absurd (ek.symm.trans c) dI
     | name x a b c=>exact ⟨_,hm',x,a,c⟩
end
end Mini
namespace Mini
open PySem
section
variable {t t' t0:Tn} {L Ns:List Int} {b:Nat} {k:Int} {l:Lr}
noncomputable def aU5 (n:Int) (L:List Int):List (Tn->Prop):=[fun t=>∃ s∈t.hs,s.wr n,fun t=>∀ s∈t.hs,s.wr n,fun t=>∀ s∈t.hs,n∈s.marked]++L.flatMap fun h=>[fun t=>∃ s∈t.hs,s.blames h,fun t=>∀ s∈t.hs,s.blames h]
open Classical in
noncomputable def cJ5 (fl:List (Tn->Prop)) (t:Tn):Nat:=fl.countP fun p=>decide (p t)
theorem aU4 (n:Int):∀ L:List Int,(aU5 n L).length=3+2 * L.length
 | []=>rfl
 | h::L=>by
  have:=aU4 n L
  unfold aU5 at this ⊢
  rw [List.length_append] at this ⊢
  rw [List.flatMap_cons,List.length_append,List.length_cons (a:=h)]
  show 3+(2+_)=_
  rw [Nat.add_left_cancel this,Nat.mul_succ,Nat.add_comm 2]
theorem cT0 (fl:List (Tn->Prop)) (t:Tn):cJ5 fl t <= fl.length:=List.countP_le_length
open Classical in
theorem bT4:∀ {fl:List (Tn->Prop)},(∀ p∈fl,p t->p t')->(∃ p∈fl,¬ p t /\ p t')->cJ5 fl t < cJ5 fl t'
 | p::fl,h,e=>by
  unfold cJ5
  rw [List.countP_cons,List.countP_cons]
  by_cases z:¬ p t /\ p t'
  ·have:=List.countP_mono_left (l:=fl) (p:=fun p=>decide (p t)) (q:=fun p=>decide (p t')) fun q hq e=>decide_eq_true (h q (.tail _ hq) (of_decide_eq_true e))
   rw [if_neg (by rw [decide_eq_true_iff];exact z.1),if_pos (decide_eq_true z.2)]
   exact Nat.lt_succ_of_le this
  ·have:=bT4 (fl:=fl) (fun q hq=>h q (.tail _ hq)) (by
    rcases e with ⟨q,hq,e⟩
    rcases List.mem_cons.mp hq with rfl | hq
    ·exact absurd e z
    ·exact ⟨q,hq,e⟩)
   unfold cJ5 at this
   have h1:=h p (.head _)
   by_cases y:p t
   ·rw [if_pos (decide_eq_true y),if_pos (decide_eq_true (h1 y))];exact Nat.add_lt_add_right this 1
   ·rw [if_neg (by rw [decide_eq_true_iff];exact y)];exact Nat.lt_of_lt_of_le this (Nat.le_add_right _ _)
theorem cE3 {n:Int} (u:Upw t t'):∀ p∈aU5 n L,p t->p t':=fun p hp=>by
 rcases List.mem_append.mp hp with hp | hp
 ·rcases List.mem_cons.mp hp with rfl | hp
  ·intro ⟨s,hs,x,hx,e⟩
   rcases u.1 s hs with ⟨s1,q1,y_,y_,m1⟩
   exact ⟨s1,q1,x,m1.ro x hx,e⟩
  ·rcases List.mem_cons.mp hp with rfl | hp
   ·intro h s hs
    rcases u.2 s hs with ⟨s1,q1,y_,y_,m1⟩
    rcases h s1 q1 with ⟨x,hx,e⟩
    exact ⟨x,m1.ro x hx,e⟩
   ·rw [List.mem_singleton.mp hp]
    intro h s hs
    rcases u.2 s hs with ⟨s1,q1,y_,y_,m1⟩
    exact m1.ma _ (h s1 q1)
 ·rcases List.mem_flatMap.mp hp with ⟨g,y_,hp⟩
  rcases List.mem_cons.mp hp with rfl | hp
  ·intro ⟨s,hs,x,hx,e⟩
   rcases u.1 s hs with ⟨s1,q1,y_,y_,m1⟩
   exact ⟨s1,q1,x,m1.na x hx,e⟩
  ·rw [List.mem_singleton.mp hp]
   intro h s hs
   rcases u.2 s hs with ⟨s1,q1,y_,y_,m1⟩
   rcases h s1 q1 with ⟨x,hx,e⟩
   exact ⟨x,m1.na x hx,e⟩
theorem Tn.In.known (I:t.In L Ns b) {s:Hs} (hs:s∈t.hs) {v:Wo} (h:s.Tl v):v∈s.known:=by
 have F:=I.fine.hs s hs
 rcases h with h | ⟨x,hx,h⟩ | ⟨x,hx,h⟩
 ·exact h.1
 ·exact (F.rk x hx v h).1
 ·have k:=F.nk x hx
  rcases h with h | h
  ·rw [h];exact k.1
  ·rw [h];exact k.2.1
theorem Rd.told (R:Rd t0 [] t) (I:t0.In L Ns b) {s:Hs} (hs:s∈t0.hs) {v:Wo} (h:s.Tl v):∀ s'∈t.hs,v∈s'.known:=fun s' h'=>by
 rcases R.up.2 s' h' with ⟨s1,q1,e1,y_,m1⟩
 by_cases z:s1.own=s.own
 ·rw [<- I.toIn0.same_own q1 hs z.symm] at m1
  exact m1.kn v (I.known hs h)
 ·rcases I.ti s hs v h s1 q1 z with q | q
  ·exact m1.kn v q
  ·rcases q with ⟨x,hx,g1,g2⟩
   rw [<- g2]
   exact ((R.kn x hx).resolve_left fun c=>nomatch c) s' h' (e1.trans g1.symm)
theorem Tn.In.wrote (I:t.In L Ns b) {s:Hs} (hs:s∈t.hs) {n:Int} {r:Str} {J:List Int} (nd:J.Nodup) (hJ:∀ j∈J,0 <= j /\ j < t.cnt /\ mrk n r j∈s.known) (le:bC t.cnt <= (J.length:Int)):s.wr n:=by
 have sc:=(I.fine.rg s hs).2.2
 refine (I.cl s hs).wr n r (Int.le_trans (by rw [sc];exact le) (Int.ofNat_le.mpr ?_))
 have:(J.map (mrk n r)).length <= (s.marks n r).length:=by
  refine List.Nodup.length_le_of_subset (List.pairwise_map.mpr (List.Pairwise.imp (fun z e=>z (congrArg Wo.h e)) nd)) fun v hv=>?_
  rcases List.mem_map.mp hv with ⟨j,hj,rfl⟩
  have h:=hJ j hj
  refine List.mem_filter.mpr ⟨List.mem_map.mpr ⟨j.toNat,List.mem_range.mpr (by rw [sc];exact (Int.toNat_lt_toNat (Int.lt_of_le_of_lt h.1 h.2.1)).mpr h.2.1),?_⟩,decide_eq_true h.2.2⟩
  rw [Int.toNat_of_nonneg h.1]
 rw [List.length_map] at this
 exact this
theorem Tn.In.wrote2 (I0:t0.In L Ns b) {N':List Int} {b':Nat} (I:t.In L N' b') (c:t.cnt=t0.cnt) {s s':Hs} (hs:s∈t0.hs) (h':s'∈t.hs) {x:Int×Str×List Wo} (hx:x∈s.rows) (hk:∀ w∈x.2.2,w∈s'.known):s'.wr x.1:=by
 have F:=I0.fine.hs s hs
 refine I.wrote h' (J:=x.2.2.map (·.h)) (r:=x.2.1) (F.rd x hx) (fun j hj=>?_) ?_
 ·rcases List.mem_map.mp hj with ⟨w,hw,rfl⟩
  have k:=F.rk x hx w hw
  have o:=I0.fine.wo w (F.kn w k.1)
  exact ⟨o.h0,by rw [c];exact o.h1,by rw [<- k.2];exact hk w hw⟩
 ·have:=F.re x hx
  rw [(I0.fine.rg s hs).2.2] at this
  rw [List.length_map,c];exact this
theorem Rd.gain {N':List Int} {b':Nat} (R:Rd t0 [] t) (I0:t0.In L Ns b) (I:t.In L N' b') (c:t.cnt=t0.cnt) (sj:∀ x∈t0.lets,x.2.w.k=cK->Sy t0 x.2.w) {n:Int} (h:Cs t0 t n):cJ5 (aU5 n L) t0 < cJ5 (aU5 n L) t:=by
 refine bT4 (cE3 R.up) ?_
 cases h with
 | mark s x hs hm hx hk hn=>
  refine ⟨_,.tail _ (.tail _ (.head _)),fun c=>hm (c s hs),fun s' h'=>?_⟩
  rcases sj x hx hk with ⟨s1,q1,y,hy,e⟩
  rw [<- hn]
  exact (I.cl s' h').sm _ (R.told I0 q1 (.inr (.inr ⟨y,hy,e⟩)) s' h') hk
 | row s s' hs hw h' hw'=>
  by_cases z:∃ s∈t0.hs,s.wr n
  ·refine ⟨_,.tail _ (.head _),fun c=>hw (c s hs),fun s2 h2=>?_⟩
   rcases z with ⟨s1,q1,x,hx,e⟩
   rw [<- e]
   exact I0.wrote2 I c q1 h2 hx fun w hw=>R.told I0 q1 (.inr (.inl ⟨x,hx,hw⟩)) s2 h2
  ·exact ⟨_,.head _,z,s',h',hw'⟩
 | name g s s' hs hw h' hw'=>
  have gl:g∈L:=by
   rcases hw' with ⟨x,hx,e⟩
   rw [<- e];exact (I.named h' x hx).1
  have mem:∀ {p:Tn->Prop},p∈[fun t:Tn=>∃ s∈t.hs,s.blames g,fun t=>∀ s∈t.hs,s.blames g]->p∈aU5 n L:=fun h=>List.mem_append_right _ (List.mem_flatMap.mpr ⟨g,gl,h⟩)
  by_cases z:∃ s∈t0.hs,s.blames g
  ·refine ⟨_,mem (.tail _ (.head _)),fun c=>hw (c s hs),fun s2 h2=>?_⟩
   rcases z with ⟨s1,q1,x,hx,e⟩
   have k:=(I0.fine.hs s1 q1).nk x hx
   rw [<- e,k.2.2.2]
   exact (I.cl s2 h2).nm _ (R.told I0 q1 (.inr (.inr ⟨x,hx,.inl rfl⟩)) s2 h2) _ (R.told I0 q1 (.inr (.inr ⟨x,hx,.inr rfl⟩)) s2 h2) k.2.2.1
  ·exact ⟨_,mem (.head _),z,s',h',hw'⟩
noncomputable def Cv (i:Nat) (L:List Int) (t:Tn):Prop:=i=0 \/ (∀ x∈t.lets,x.2.w.k=cK->Sy t x.2.w) /\ ∀ x∈t.lets,i <= cJ5 (aU5 x.2.w.n L) t+1
theorem Cv.next {N':List Int} {b' i:Nat} (C:Cv i L t0) (R:Rd t0 [] t) (I0:t0.In L Ns b) (I:t.In L N' b') (c:t.cnt=t0.cnt):Cv (i+1) L t:=by
 have ca:∀ y∈t.lets,Ca t0 t y.2.w:=fun y hy=>(R.nw y hy).resolve_left fun h=>nomatch h.1
 refine .inr ⟨fun x hx=>(ca x hx).s,fun y hy=>?_⟩
 rcases C with rfl | C
 ·exact Nat.le_add_left _ _
 ·have h:=ca y hy
  have g:=R.gain I0 I c C.1 h.c
  rcases h.n with ⟨x,hx,e⟩
  have:=C.2 x hx
  rw [e] at this
  exact Nat.succ_le_succ (Nat.le_trans this g)
theorem Cv.end_ {i:Nat} (C:Cv i L t) (hl:L.length <= 3) (ne:t.lets≠[]):i <= 10:=by
 rcases C with rfl | C
 ·exact Nat.zero_le _
 ·rcases List.exists_mem_of_ne_nil _ ne with ⟨x,hx⟩
  have h:=C.2 x hx
  have h2:=cT0 (aU5 x.2.w.n L) t
  rw [aU4] at h2
  exact Nat.le_trans h (Nat.succ_le_succ (Nat.le_trans h2 (Nat.add_le_add_left (Nat.mul_le_mul_left 2 hl) 3)))
end
end Mini
namespace Mini
open PySem
section
variable {t:Tn} {L Ns:List Int} {b:Nat} {s s':Hs}
theorem Tn.In.all (I:t.In L Ns b) (e:t.lets=[]) (hs:s∈t.hs) (h':s'∈t.hs) {v:Wo} (h:s.Tl v):v∈s'.known:=by
 by_cases z:s'.own=s.own
 ·rw [I.toIn0.same_own hs h' z];exact I.known hs h
 ·refine (I.ti s hs v h s' h' z).resolve_right fun q=>?_
  rcases q with ⟨x,hx,y_⟩
  rw [e] at hx
  cases hx
theorem Tn.In.rows_same (I:t.In L Ns b) (e:t.lets=[]) (few:(L.length:Int) <= (t.cnt - 1) / 3) (hs:s∈t.hs) (h':s'∈t.hs) {x:Int×Str×List Wo} (hx:x∈s.rows):∃ y∈s'.rows,y.1=x.1 /\ y.2.1=x.2.1:=by
 rcases I.wrote2 I rfl hs h' hx fun w hw=>I.all e hs h' (.inr (.inl ⟨x,hx,hw⟩)) with ⟨y,hy,e1⟩
 exact ⟨y,hy,e1,I.same h' hs hy hx e1 few⟩
theorem Tn.In.names_same (I:t.In L Ns b) (e:t.lets=[]) (hs:s∈t.hs) (h':s'∈t.hs) {x:Int×Wo×Wo} (hx:x∈s.named):s'.blames x.1:=by
 have k:=(I.fine.hs s hs).nk x hx
 rw [k.2.2.2]
 exact (I.cl s' h').nm _ (I.all e hs h' (.inr (.inr ⟨x,hx,.inl rfl⟩))) _ (I.all e hs h' (.inr (.inr ⟨x,hx,.inr rfl⟩))) k.2.2.1
theorem bE8 (c:Int) (L:List Int):c <= (eG c L).length+L.length:=by
 have h:((List.range c.toNat).map fun (j:Nat)=>(j:Int)).length <= (eG c L++L).length:=by
  refine List.Nodup.length_le_of_subset (List.pairwise_map.mpr (List.Pairwise.imp (R:=fun a b=>a≠b) (fun q e=>q (Int.ofNat_inj.mp e)) List.nodup_range)) fun x hx=>?_
  rcases List.mem_map.mp hx with ⟨j,hj,rfl⟩
  have:=List.mem_range.mp hj
  by_cases z:(j:Int)∈L
  ·exact List.mem_append_right _ z
  ·exact List.mem_append_left _ (hon_iff.mpr ⟨Int.natCast_nonneg _,Int.lt_toNat.mp this,z⟩)
 rw [List.length_map,List.length_range,List.length_append] at h
 exact Int.le_trans (Int.self_le_toNat c) (by rw [<- Int.natCast_add];exact Int.ofNat_le.mpr h)
theorem bJ3 {c f h:Int} (few:f <= (c - 1) / 3) (h1:c <= h+f):bC c <= h:=by
 unfold bC;lia
theorem cE6 {c f:Int} (c1:1 <= c) (few:f <= (c - 1) / 3):f < bC c:=by
 unfold bC;lia
theorem cG1 {n a b c:Int} (ha:(n - a) % c=0) (hb:(n - b) % c=0) (a0:0 <= a) (a1:a < c) (b0:0 <= b) (b1:b < c):a=b:=by
 have h1:=Int.emod_eq_emod_iff_emod_sub_eq_zero.mpr ha
 have h2:=Int.emod_eq_emod_iff_emod_sub_eq_zero.mpr hb
 rw [Int.emod_eq_of_lt a0 a1] at h1
 rw [Int.emod_eq_of_lt b0 b1] at h2
 exact h1.symm.trans h2
theorem Tn.In.call_same (I:t.In L Ns b) (e:t.lets=[]) (few:(L.length:Int) <= (t.cnt - 1) / 3) (hs:s∈t.hs) (h':s'∈t.hs) {n:Int} {r:Str} (hw:(⟨cK,n,r,s.own⟩:Wo)∈s.known):∃ y∈s'.rows,y.1=n /\ y.2.1=r:=by
 have sd:∀ {s:Hs},s∈t.hs->∀ {v:Wo},v∈s.known->v∈t.said:=fun hs v hv=>(I.fine.hs _ hs).kn v hv
 have lie:∀ {s:Hs},s∈t.hs->s.own∉L:=fun {s} hs c=>I.liar c s hs rfl
 have mk:∀ y∈t.hs,mrk n r y.own∈y.known:=fun y hy=>by
  have k:=I.all e hs hy (.inl ⟨hw,rfl⟩)
  rcases (I.cl y hy).mm n ((I.cl y hy).sm _ k rfl) with ⟨w,h1,h2,h3,h4⟩
  have o1:=I.fine.wo _ (sd hs hw)
  have o2:=I.fine.wo _ (sd hy h1)
  have eh:w.h=s.own:=cG1 (n:=n) (by rw [<- h3];exact o2.c h2) (o1.c rfl) o2.h0 o2.h1 o1.h0 o1.h1
  have er:w.r=r:=Classical.byContradiction fun c=>I.true_ (sd hs hw) (sd hy h1) (lie hs) (unlike_iff.mpr ⟨eh.symm,h2.symm,h3.symm,fun z=>c z.symm⟩)
  rw [<- er];exact h4
 have kn:∀ y∈t.hs,mrk n r y.own∈s'.known:=fun y hy=>I.all e hy h' (.inl ⟨mk y hy,rfl⟩)
 rcases I.wrote h' (n:=n) (r:=r) (J:=eG t.cnt L) (by rw [<- I.hon];exact I.ok.on) (fun j hj=>by
  have q:=hon_iff.mp hj
  obtain ⟨i,z,hz,ez⟩:=I.honest hj
  exact ⟨q.1,q.2.1,by rw [<- ez];exact kn z (List.mem_of_getElem? hz)⟩) (bJ3 few (bE8 _ _)) with ⟨y,hy,ey⟩
 refine ⟨y,hy,ey,?_⟩
 have F:=I.fine.hs s' h'
 have re:=F.re y hy
 rw [(I.fine.rg s' h').2.2] at re
 by_cases z:∀ w∈y.2.2,w.h∈L
 ·have:=(F.rd y hy).length_le_of_subset (l₂:=L) fun j hj=>by
   rcases List.mem_map.mp hj with ⟨w,hw,rfl⟩
   exact z w hw
  rw [List.length_map] at this
  exact absurd (Int.lt_of_lt_of_le (cE6 I.ok.c1 few) (Int.le_trans re (Int.ofNat_le.mpr this))) (Int.lt_irrefl _)
 ·rcases Classical.not_forall.mp z with ⟨w,z⟩
  rcases Classical.not_imp.mp z with ⟨z1,z2⟩
  have m:=I.marks h' hy w z1
  rcases I.honest (hon_iff.mpr ⟨m.2.2.1,m.2.2.2,z2⟩) with ⟨i,q,hq,eq⟩
  have hq:=List.mem_of_getElem? hq
  have u:=I.true_ m.1 (sd hq (mk q hq)) z2
  refine Classical.byContradiction fun c=>u (unlike_iff.mpr ?_)
  rw [m.2.1]
  exact ⟨eq.symm,rfl,ey,c⟩
end
end Mini
namespace Mini
open PySem
theorem aI4 {c:Int} (c1:1 <= c) (c2:c <= 12):c.natAbs < 1073741824:=Nat.lt_of_lt_of_le (fK (c:=13) (Int.le_trans (by decide) c1) (Int.lt_of_le_of_lt c2 (by decide:(12:Int) < 13)) (by decide)) (by decide)
theorem aK7 {k:Nat}:∀ {l:List Nat},(∀ x∈l,x <= k)->l.sum <= l.length * k
 | [],_=>Nat.zero_le _
 | a::l,h=>by
  have h1:=aK7 fun x hx=>h x (.tail _ hx)
  have h2:=h a (.head _)
  rw [List.length_cons,Nat.succ_mul,List.sum_cons,Nat.add_comm a]
  exact Nat.add_le_add h1 h2
section
variable {t t':Tn} {L Ns:List Int} {b:Nat} {s:Hs}
theorem Tn.In.us_le (I:t.In L Ns b):t.us <= 12 * (13 * Ns.length+2 * L.length):=by
 have hl:t.hs.length <= 12:=by
  rw [<- List.length_map (f:=fun s:Hs=>s.own)]
  refine Nat.le_trans (aP1 I.ok.on fun x hx=>?_) (bS I.ok.c2)
  rcases List.mem_map.mp hx with ⟨s,hs,rfl⟩
  have:=I.fine.rg s hs
  exact ⟨this.1,this.2.1⟩
 have h:=aK7 (l:=t.hs.map Hs.us) (k:=13 * Ns.length+2 * L.length) fun x hx=>by
  rcases List.mem_map.mp hx with ⟨s,hs,rfl⟩
  have h1:s.marked.length <= Ns.length:=(I.cl s hs).md.length_le_of_subset fun n hn=>by
   rcases (I.cl s hs).mm n hn with ⟨w,hw,y_,e,y_⟩
   rw [<- e];exact I.fine.ns w ((I.fine.hs s hs).kn w hw)
  have h2:=I.fine.rows hs I.ok.c1
  have h3:s.named.length <= L.length:=by
   rw [<- List.length_map (f:=fun x:Int×Wo×Wo=>x.1)]
   refine (I.fine.hs s hs).na.length_le_of_subset fun n hn=>?_
   rcases List.mem_map.mp hn with ⟨x,hx,rfl⟩
   exact (I.named hs x hx).1
  unfold Hs.us
  exact Nat.add_le_add (Nat.le_trans (Nat.add_le_add h1 (Nat.mul_le_mul_left 12 h2)) (Nat.le_of_eq (by rw [Nat.succ_mul 12,Nat.add_comm]))) (Nat.mul_le_mul_left 2 h3)
 rw [List.length_map] at h
 exact Nat.le_trans h (Nat.mul_le_mul_right _ hl)
inductive Did (t:Tn):Tn->List (Int×Str)->Prop
 | no (t':Tn):t.Ext t'->Did t t' []
 | call (i:Nat) (s:Hs) (r:Str):t.hs[i]?=some s->Did t (t.turn i (s.call r)) [(s.own,r)]
theorem Did.cnt {cs:List (Int×Str)} (D:Did t t' cs):t'.cnt=t.cnt:=by
 cases D with
 | no y_ X=>exact X.cnt
 | call i s r hs=>exact (bE _ _ _).1
noncomputable abbrev bU (cs:List (Int×Str)) (o:Int):List (Int×Str):=cs.filter fun x=>x.1 == o
structure Cd (t:Tn) (cs:List (Int×Str)):Prop where
 on:∀ s∈t.hs,s.onw=s.own+t.cnt * ((bU cs s.own).length:Int)
 kn:∀ s∈t.hs,∀ (k:Nat) (x:Int×Str),(bU cs s.own)[k]?=some x->(⟨cK,s.own+t.cnt * k,x.2,s.own⟩:Wo)∈s.known
theorem Cd.ext {cs:List (Int×Str)} (C:Cd t cs) (X:t.Ext t'):Cd t' cs:=by
 have key:∀ s'∈t'.hs,∃ s∈t.hs,s'.own=s.own /\ (∀ x∈s.known,x∈s'.known) /\ s'.onw=s.onw:=fun s' h'=>by
  rcases List.getElem?_of_mem h' with ⟨j,e⟩
  have lj:(t'.hs.map (·.own))[j]?=some s'.own:=by rw [List.getElem?_map,e];rfl
  rw [X.own,List.getElem?_map] at lj
  cases q:t.hs[j]? with
  | none=>rw [q] at lj;cases lj
  | some s=>
   rw [q] at lj
   rcases X.mo j s q with ⟨s2,e2,k2,o2⟩
   rw [e] at e2
   cases e2
   exact ⟨s,List.mem_of_getElem? q,(Option.some.inj lj).symm,k2,o2⟩
 refine ⟨fun s' h'=>?_,fun s' h' k x hx=>?_⟩
 ·rcases key s' h' with ⟨s,hs,e,y_,o⟩
  rw [o,e,X.cnt];exact C.on s hs
 ·rcases key s' h' with ⟨s,hs,e,q,y_⟩
  rw [e] at hx ⊢
  rw [X.cnt]
  exact q _ (C.kn s hs k x hx)
theorem bK0 (s:Hs) (r:Str):(⟨cK,s.onw,r,s.own⟩:Wo)∈(s.call r).1.known:=aC5 { s with onw:=s.onw+s.cnt } _
theorem Cd.dn {cs cs':List (Int×Str)} (C:Cd t cs) (I:t.In L Ns b) (D:Did t t' cs'):Cd t' (cs++cs'):=by
 cases D with
 | no y_ X=>rw [List.append_nil];exact C.ext X
 | call i s r hs=>
  have hm:=List.mem_of_getElem? hs
  have hc:=bX { s with onw:=s.onw+s.cnt } ⟨cK,s.onw,r,s.own⟩
  have c1:(s.call r).1.own=s.own:=hc.2.1
  have c2:(s.call r).1.onw=s.onw+s.cnt:=hc.2.2.1
  have cn:(t.turn i (s.call r)).cnt=t.cnt:=(bE _ _ _).1
  have mo:=Hs.Mo.call r ((I.fine.hs s hm).says r).1
  have eo:bU (cs++[(s.own,r)]) s.own=bU cs s.own++[(s.own,r)]:=by
   unfold bU
   rw [List.filter_append]
   congr 1
   exact List.filter_cons_of_pos (beq_self_eq_true _)
  have en:∀ {y:Hs},y.own≠s.own->bU (cs++[(s.own,r)]) y.own=bU cs y.own:=fun {y} h=>by
   unfold bU
   rw [List.filter_append,List.filter_cons_of_neg (p:=fun x:Int×Str=>x.1 == y.own) (fun c=>h (eq_of_beq c).symm),List.filter_nil,List.append_nil]
  refine ⟨fun y hy=>?_,fun y hy k x hx=>?_⟩
  ·rw [cn]
   rcases I.toIn0.turned hs hy with rfl | h
   ·rw [c1,c2,eo,List.length_append,C.on s hm,(I.ok.hc s hm).1]
    show _=_+t.cnt * ((_+1:Nat):Int)
    rw [Int.natCast_add,Int.mul_add]
    show _=_+(_+t.cnt * 1)
    rw [Int.mul_one,Int.add_assoc]
   ·rw [en h.2];exact C.on y h.1
  ·rw [cn]
   rcases I.toIn0.turned hs hy with rfl | h
   ·rw [c1] at hx ⊢
    rw [eo] at hx
    rcases Nat.lt_or_ge k (bU cs s.own).length with q | q
    ·rw [List.getElem?_append_left q] at hx
     exact mo.kn _ (C.kn s hm k x hx)
    ·rw [List.getElem?_append_right q] at hx
     have k0:k=(bU cs s.own).length:=by
      have:=(List.getElem?_eq_some_iff.mp hx).1
      rw [List.length_singleton] at this
      exact Nat.le_antisymm (Nat.le_of_sub_eq_zero (Nat.lt_one_iff.mp this)) q
     rw [k0,Nat.sub_self] at hx
     cases hx
     have:=bK0 s r
     rw [C.on s hm] at this
     rw [k0];exact this
   ·rw [en h.2] at hx;exact C.kn y h.1 k x hx
end
end Mini
namespace Mini
open PySem
section
variable {S:Sig} {F:Fns} {r:Lo} {m:MH} {E:Nat->MH->Prop}
theorem bX0 {c:Lo->Mn Bool} {body:Lo->Mn (Fl×Lo)} {Q:Fl×Lo->MH->Prop} (I:Nat->Lo->MH->Prop)
  (h:∀ k r m,I k r m->Wp (c r) m (fun b m'=>bif b then (∃ k',k=k'+1 /\ Wp (body r) m' (aX1 Q I k') nox) else Q (.next,r) m') nox) :
  ∀ (k n:Nat) (r:Lo) (m:MH),k < n->I k r m->Wp (aE9 c body n r) m Q E:=by
 intro k
 induction k with
 | zero=>
  intro n r m hn hi
  cases n with
  | zero=>exact absurd hn (Nat.not_lt_zero _)
  | succ n=>
   rcases aD0 (h 0 r m hi) with ⟨b,m1,e,q⟩
   have e1:(fun m=>(c r m).nox) m=.ok b m1:=by show (c r m).nox=_;rw [e];rfl
   refine aI (aE e1 ?_)
   cases b with
   | true=>rcases q with ⟨k',e,y_⟩;cases e
   | false=>exact q
 | succ k ih=>
  intro n r m hn hi
  cases n with
  | zero=>exact absurd hn (Nat.not_lt_zero _)
  | succ n=>
   rcases aD0 (h (k+1) r m hi) with ⟨b,m1,e,q⟩
   have e1:(fun m=>(c r m).nox) m=.ok b m1:=by show (c r m).nox=_;rw [e];rfl
   refine aI (aE e1 ?_)
   cases b with
   | false=>exact q
   | true=>
    rcases q with ⟨k',ek,q⟩
    cases ek
    rcases aD0 q with ⟨p,m2,e2,q2⟩
    have e3:(fun m=>(body r m).nox) m1=.ok p m2:=by show (body r m1).nox=_;rw [e2];rfl
    refine aI (aE e3 ?_)
    rcases p with ⟨f,r1⟩
    cases f with
    | ret v=>exact q2
    | next=>exact ih n r1 m2 (Nat.lt_of_succ_lt_succ hn) q2
    | cont=>exact ih n r1 m2 (Nat.lt_of_succ_lt_succ hn) q2
theorem s_wh {c:CB} {body ss:List CS} {Q:Fl×Lo->MH->Prop} (I:Nat->Lo->MH->Prop) (k:Nat) (hk:k < 1000000) (h0:I k r m)
  (h:∀ k r m,I k r m->Wp (evT S F c r) m (fun b m'=>bif b then (∃ k',k=k'+1 /\ Wp (exs S F body r) m' (aX1 Q I k') nox) else Wp (exs S F ss r) m' Q E) nox):Wp (exs S F (.wh c body::ss) r) m Q E:=by
 refine aA5 ?_
 have key:=bX0 (E:=E) (c:=fun r'=>evT S F c r') (body:=fun r'=>exs S F body r') (Q:=fun p m'=>match p.1 with | .next=>Wp (exs S F ss p.2) m' Q E | f=>Q (f,p.2) m') I (fun k r m hi=>wp_mono (h k r m hi) (fun b m' q=>?_) fun y_ y_ q=>q) k cT2 r m hk h0
 ·exact key
 ·cases b with
  | false=>exact q
  | true=>
   rcases q with ⟨k',ek,q⟩
   refine ⟨k',ek,wp_mono q (fun p m'' q=>?_) fun y_ y_ q=>q⟩
   rcases p with ⟨f,r1⟩
   cases f <;> exact q
theorem cB1 {elt:CE} {k:IK} {t:CT} {nl:Nat} {src:List CE} {Q:V->MH->Prop} {α:Type} (zs:List α) (vv:α->V) (I:List α->List V->MH->Prop) (h:Wp (evs S F src r) m (fun vs m'=>Wp (fC k vs) m' (fun p m'=>p.1=zs.map vv /\ I zs [] m' /\ (∀ zs l m,I zs l m->p.2.stays m=true) /\
      (∀ z zs l m,I (z::zs) l m->Wp (aE1 t (vv z) (r++List.replicate nl Option.none)) m (fun r' m'=>Wp (ev S F elt r') m' (fun y m'=>I zs (l++[y]) m') nox) nox) /\ (∀ l m,I [] l m->l.length <= lid /\ ∀ p m',Le m m'->m'[p]?=some (.list l)->m.length <= p->Q (.ref p) m')) E) E):Wp (ev S F (.comp elt t nl k src []) r) m Q E:=by
  refine aY5 (wp_mono h (fun vs m' h=>wp_mono h (fun p m' h=>?_) fun y_ y_ q=>q) fun y_ y_ q=>q)
  rcases h with ⟨e0,h0,hg,hs,hn⟩
  refine ⟨fun xs l m=>∃ z,xs=z.map vv /\ I z l m,⟨zs,e0,h0⟩,fun y_ y_ y_ ⟨_,_,q⟩=>hg _ _ _ q,?_,?_⟩
  · rintro x xs l m ⟨z,e,q⟩
    cases z with
    | nil=>cases e
    | cons c z=>
      cases e
      exact wp_mono (hs c z l m q) (fun r' m' q=>aC (a:=true) (m':=m') rfl (eA (wp_mono q (fun y m' q=>⟨z,rfl,q⟩) fun y_ y_ q=>q))) fun y_ y_ q=>q
  · rintro l m ⟨z,e,q⟩
    cases z with
    | nil=>exact hn l m q
    | cons c z=>cases e
theorem bU4 {p q:Nat} {xs:List V} (hx:∀ x∈xs,∃ d,rd 11 m x=some d) (hp:m[p]?=some (.list xs)) (hq:m[q]?=some (.list [])):eqV (.ref p) (.ref q) m=.ok xs.isEmpty m:=by
 have key:∀ {xs:List V},(∀ x∈xs,∃ d,rd 11 m x=some d)->∃ ds,fR (rd 11 m) xs=some ds /\ ds.isEmpty=xs.isEmpty:=by
  intro xs
  induction xs with
  | nil=>intro _;exact ⟨[],rfl,rfl⟩
  | cons x xs ih=>
   intro h
   rcases h x (.head _) with ⟨d,h1⟩
   rcases ih fun y hy=>h y (.tail _ hy) with ⟨ds,h2,y_⟩
   exact ⟨d::ds,bH0 h1 h2,rfl⟩
 rcases key hx with ⟨ds,h1,h2⟩
 unfold eqV
 rw [aY2 hp,aY2 hq,h1]
 show Res.ok (PyData.eqv (.list ds) (.list [])) m=_
 rw [cT8,h2]
theorem dB4 {p q:Nat} {xs:List V} (hx:∀ x∈xs,∃ d,rd 11 m x=some d) (hp:m[p]?=some (.list xs)) (hq:m[q]?=some (.list [])):aI9 .NotEq (.ref p) (.ref q) m=.ok (!xs.isEmpty) m:=by
 show (eqV (.ref p) (.ref q) m).bind _=_
 rw [bU4 hx hp hq];rfl
theorem bI2 {a:CE} {p:Nat} {xs:List V} {Q:Bool->MH->Prop} (ha:ev S F a r m=.ok (.ref p) m) (hp:m[p]?=some (.list xs)) (hx:∀ x∈xs,∀ m,∃ d,rd 11 m x=some d) (q:∀ m',Le m m'->Q (!xs.isEmpty) m'):Wp (evT S F (.val (.cmp a [.NotEq] [.list []])) r) m Q E:=by
 refine aG5 (aG6 (aE ha (bF (aG (aM fun q' m' l k g=>?_)))))
 exact aE (dB4 (fun x hx'=>hx x hx' m') (l.has hp) k) (aC rfl (q m' l))
theorem rdI (x:V) {is:List Int} (h:x∈is.map V.int) (m:MH):∃ d,rd 11 m x=some d:=by
 rcases List.mem_map.mp h with ⟨i,y_,rfl⟩
 exact ⟨_,rfl⟩
theorem rdW (x:V) {ws:List Wo} (h:x∈ws.map Wo.v) (m:MH):∃ d,rd 11 m x=some d:=by
 rcases List.mem_map.mp h with ⟨w,y_,rfl⟩
 exact ⟨w.d,rfl⟩
theorem rdT (x:V) {ls:List (Int×Lr)} (h:x∈ls.map aX8) (m:MH):∃ d,rd 11 m x=some d:=by
 rcases List.mem_map.mp h with ⟨w,y_,rfl⟩
 exact ⟨_,rfl⟩
theorem cL3 {is:List Int} {x:Int} (h:0 < is.length):∃ y,at_ (is.map V.int) (x % (is.length:Int))=some (.int y) /\ y∈is:=by
 have h':(0:Int) < (is.length:Int):=Int.natCast_pos.mpr h
 rcases aM7 (xs:=is.map V.int) (x:=x) h' (by rw [List.length_map]) with ⟨v,h1,h2⟩
 rcases List.mem_map.mp h2 with ⟨y,hy,rfl⟩
 exact ⟨y,h1,hy⟩
theorem bT2 {p:Nat} {k:Int} {xs:List V} {v:V} (h:m[p]?=some (.list xs)) (hv:at_ xs k=some v) (hk:k.natAbs < 2 ^ 60):aQ9 (.ref p) (.int k) m=.ok v m:=by
 unfold aQ9;dsimp only;rw [h];dsimp only;rw [if_pos hk,hv];rfl
theorem aG4 {a:CE} {p:Nat} {xs:List V} (ha:ev S F a r m=.ok (.ref p) m) (h:m[p]?=some (.list xs)):ev S F (.bi .len [a]) r m=.ok (.int xs.length) m:=by
 show Res.bind (Res.bind (ev S F a r m) _) _=_
 rw [ha]
 show biV .len [.ref p] m=_
 unfold biV;dsimp only;rw [h]
theorem dF0 {i j:Int} (h:0 < j) (h2:j.natAbs < 1073741824):bK4 .FloorDiv (.int i) (.int j) m=.ok (.int (i / j)) m:=if_pos ⟨h,h2⟩
theorem bQ2 {a e:CE} {p:Nat} {is:List Int} {x:Int} (ha:ev S F a r m=.ok (.ref p) m) (hp:m[p]?=some (.list (is.map V.int))) (he:ev S F e r m=.ok (.int x) m) (h:0 < is.length) (hl:is.length <= 1000000):∃ y,ev S F (.idx a (.bin .Mod e (.bi .len [a]))) r m=.ok (.int y) m /\ y∈is:=by
 rcases cL3 (x:=x) h with ⟨y,h1,h2⟩
 have h':(0:Int) < (is.length:Int):=Int.natCast_pos.mpr h
 refine ⟨y,eF ha (aZ he ((aG4 ha hp).trans (by rw [List.length_map])) (dM h')) (bT2 hp h1 (md60 h' (Int.ofNat_le.mpr hl))),h2⟩
end
noncomputable def aQ6:List CS:=[
 (.asg (.one (.one 3)) (.listrange [(.var 1)])),
 (.asg (.one (.one 4)) (.list [])),
 (.wh (.val (.cmp (.bi .len [(.var 4)]) [.Lt] [(.bi .min2 [(.var 2),(.var 1)])])) [
  (.exp (.smeth (.var 4) .append [(.smeth (.var 3) .pop [(.bin .Mod (.var 0) (.bi .len [(.var 3)]))])])),
  (.asg (.one (.one 0)) (.bin .Add (.bin .FloorDiv (.var 0) (.cnst (Lt.int 3))) (.cnst (Lt.int 1))))]),
 (.ret (.var 4))]
section
variable {S:Sig} {m:MH}
theorem cH0 {E:Nat->MH->Prop} {p:Nat} {xs:List V} {k:Int} {v:V} {Q:V->MH->Prop} (h:m[p]?=some (.list xs)) (h0:0 <= k) (hv:xs[k.toNat]?=some v) (hk:k.natAbs < 2 ^ 60) (q:Q v (m.set p (.list (xs.eraseIdx k.toNat)))):Wp (dH 0 (.ref p) .pop [.int k]) m Q E:=by
 refine aE (m':=m.set p (.list (xs.eraseIdx k.toNat))) ?_ q
 show (match m[p]? with | some (.list xs)=>bS0 p xs .pop [.int k] m | _=>.bad)=_
 rw [h]
 show (if 0 <= k then (match xs[k.toNat]? with | some v=>if k.natAbs < 2 ^ 60 then Res.ok v (m.set p (.list (xs.eraseIdx k.toNat))) else .bad | Option.none=>.bad) else .bad)=_
 rw [if_pos h0,hv]
 show (if k.natAbs < 2 ^ 60 then _ else _)=_
 rw [if_pos hk]
inductive LL (c:Int) (mn:Int) (p q:Nat) (m:MH) (k:Nat) (r:Lo) (m':MH):Prop
 | mk (cell:Int) (A G:List Int) (er:r=[some (.int cell),some (.int c),some (.int mn),some (.ref p),some (.ref q)]) (ka:m'[p]?=some (.list (A.map V.int))) (kg:m'[q]?=some (.list (G.map V.int))) (l:Le m m') (nd:(A++G).Nodup) (rg:∀ x∈A++G,0 <= x /\ x < c) (le:(A.length:Int)+G.length=c) (hk:(G.length:Int)+k=mn)
theorem aI2:∀ {is:List Int} {k:Nat},(is.map V.int).eraseIdx k=(is.eraseIdx k).map V.int
 | [],_=>rfl
 | _::_,0=>rfl
 | i::is,k+1=>congrArg (V.int i::·) (aI2 (is:=is) (k:=k))
theorem aC6:∀ {l:List Int} {k:Nat} (h:k < l.length),(l[k]::l.eraseIdx k).Perm l
 | _::_,0,_=>List.Perm.refl _
 | a::l,k+1,h=>(List.Perm.swap a _ _).trans ((aC6 (l:=l) (k:=k) (Nat.lt_of_succ_lt_succ h)).cons a)
theorem bR9 {kf:Nat} (h:cM S kf 3 5 aQ6) (n:Nat) (cell c mn:Int) (c1:1 <= c) (c2:c <= 12) (m0:0 <= mn) (mc:mn <= c):Wp (run S (n+1) kf [.int cell,.int c,.int mn]) m (fun u m'=>∃ (q:Nat) (L:List Int),u=.ref q /\ m'[q]?=some (.list (L.map V.int)) /\ Le m m' /\ m.length <= q /\ L.Nodup /\ (∀ x∈L,0 <= x /\ x < c) /\ (L.length:Int)=mn) nox:=by
 have c0:0 <= c:=Int.le_trans (by decide) c1
 have cb:c.natAbs < 2 ^ 30:=Nat.lt_of_lt_of_le (fK (c:=13) c0 (Int.lt_of_le_of_lt c2 (by decide:(12:Int) < 13)) (by decide)) (by decide)
 have rl:(cI3 0 c).length=c.toNat:=by rw [cA5,Int.sub_zero]
 refine bN h rfl (aW (aS2 (aF (aC rfl (aG ⟨_,dA1 (n:=c) cb,by rw [List.length_map,rl];exact bM (k:=12) (bS c2) (by decide),fun p m1 l1 k1 g1=>?_⟩)))))
 refine aW (bF (aG (aM fun q m2 l2 k2 g2=>?_)))
 have pq:p≠q:=fun e=>Nat.not_lt.mpr g2 (e▸aS k1)
 refine s_wh (LL c mn p q m) mn.toNat (Nat.lt_of_le_of_lt (bS (Int.le_trans mc c2)) (by decide)) ⟨cell,cI3 0 c,[],rfl,l2.has k1,k2,l1.trans l2,?_,?_,?_,?_⟩ ?_
 ·rw [List.append_nil]
  unfold cI3
  exact List.pairwise_map.mpr (List.Pairwise.imp (R:=fun a b=>a≠b) (fun z e=>z (Int.ofNat_inj.mp (Int.add_left_cancel e))) List.nodup_range)
 ·rw [List.append_nil]
  intro x hx
  rcases List.mem_map.mp hx with ⟨j,hj,rfl⟩
  have:=List.mem_range.mp hj
  rw [Int.sub_zero] at this
  rw [Int.zero_add]
  exact ⟨Int.natCast_nonneg _,Int.lt_toNat.mp this⟩
 ·rw [rl,List.length_nil,Int.toNat_of_nonneg c0];exact Int.add_zero _
 ·rw [List.length_nil,Int.toNat_of_nonneg m0];exact Int.zero_add _
 ·rintro k r m' ⟨cell,A,G,er,ka,kg,l,nd,rg,le,hk⟩
  subst er
  have e1:evT S (run S n) (.val (.cmp (.bi .len [(.var 4)]) [.Lt] [(.bi .min2 [(.var 2),(.var 1)])])) [some (.int cell),some (.int c),some (.int mn),some (.ref p),some (.ref q)] m'=.ok (decide ((G.length:Int) < (if c < mn then c else mn))) m':=by
   refine bD (aX ((aG4 (xs:=G.map V.int) rfl kg).trans (by rw [List.length_map])) (y:=.int (if c < mn then c else mn)) rfl rfl)
  rw [if_neg (Int.not_lt.mpr mc)] at e1
  refine aE e1 ?_
  have gl0:(0:Int) <= (G.length:Int):=Int.natCast_nonneg _
  have al0:(0:Int) <= (A.length:Int):=Int.natCast_nonneg _
  have ac:(A.length:Int) <= 12:=Int.le_trans (by rw [<- le];exact Int.le_add_of_nonneg_right gl0) c2
  have gc:(G.length:Int) <= 12:=Int.le_trans (by rw [<- le];exact Int.le_add_of_nonneg_left al0) c2
  by_cases z:(G.length:Int) < mn
  ·rw [decide_eq_true z]
   cases k with
   | zero=>exact absurd (hk▸z) (by rw [show ((0:Nat):Int)=0 from rfl,Int.add_zero];exact Int.lt_irrefl _)
   | succ k=>
    refine eA ⟨k,rfl,?_⟩
    have al:(0:Int) < (A.length:Int):=(Int.add_lt_add_iff_right (G.length:Int)).mp (by rw [Int.zero_add,le];exact Int.lt_of_lt_of_le z mc)
    have al':(cell % (A.length:Int)).toNat < A.length:=mdN al (Int.le_refl _)
    have em:ev S (run S n) (.bin .Mod (.var 0) (.bi .len [(.var 3)])) [some (.int cell),some (.int c),some (.int mn),some (.ref p),some (.ref q)] m'=.ok (.int (cell % (A.length:Int))) m':=
     aZ rfl ((aG4 (xs:=A.map V.int) rfl ka).trans (by rw [List.length_map])) (dM al)
    have ae:(A.map V.int)[(cell % (A.length:Int)).toNat]?=some (.int A[(cell % (A.length:Int)).toNat]):=by rw [List.getElem?_map,List.getElem?_eq_getElem al'];rfl
    refine fD (dL (aC rfl ⟨0,bO9 kg,rfl,aF (dL (aC rfl ⟨0,bO9 ka,rfl,aF (aE em (aG (cH0 ka (md0 al) ae (md60 al (Int.le_trans ac (by decide))) ?_)))⟩))⟩))
    refine aG (aN0 (aN pq kg) (by rw [List.length_map];exact Nat.lt_of_le_of_lt (Int.ofNat_le.mp gc) (by decide)) ?_)
    rw [aI2]
    have pm:=aC6 al'
    have ln:=List.length_eraseIdx_of_lt al'
    have mem:∀ x∈A.eraseIdx (cell % (A.length:Int)).toNat,x∈A:=fun x hx=>List.mem_of_mem_eraseIdx hx
    have mx:=List.getElem_mem al'
    generalize A.eraseIdx (cell % (A.length:Int)).toNat=A' at pm ln mem ⊢
    generalize A[(cell % (A.length:Int)).toNat]=x0 at pm mx ⊢
    refine aW (aC rfl (cU ?_))
    refine ⟨cell / 3+1,A',G++[x0],rfl,aN (fun e=>pq e.symm) (aV ka),?_,?_,?_,?_,?_,?_⟩
    ·rw [List.map_append];exact aV (aN pq kg)
    ·exact (l.set (Nat.le_trans (Nat.le_refl _) g1) _).set (Nat.le_trans l1.1 g2) _
    ·have pm:(A'++(G++[x0])).Perm (A++G):=by
      refine List.Perm.trans ?_ (pm.append_right G)
      rw [<- List.append_assoc]
      exact List.perm_append_comm
     exact pm.nodup_iff.mpr nd
    ·intro x hx
     rcases List.mem_append.mp hx with hx | hx
     ·exact rg x (List.mem_append_left _ (mem x hx))
     ·rcases List.mem_append.mp hx with hx | hx
      ·exact rg x (List.mem_append_right _ hx)
      ·rw [List.mem_singleton.mp hx];exact rg _ (List.mem_append_left _ mx)
    ·rw [ln,List.length_append,List.length_singleton,<- le,<- Int.natCast_add,<- Int.natCast_add,Nat.add_comm G.length,<- Nat.add_assoc,Nat.sub_add_cancel (Int.natCast_pos.mp al)]
    ·rw [List.length_append,List.length_singleton,<- hk,<- Int.natCast_add,<- Int.natCast_add,Nat.add_assoc,Nat.add_comm 1]
  ·rw [decide_eq_false z]
   refine aD7 (bG (aC rfl ⟨q,G,rfl,kg,l,Nat.le_trans l1.1 g2,(List.nodup_append.mp nd).2.1,fun x hx=>rg x (List.mem_append_right _ hx),?_⟩))
   have k0:k=0:=Nat.eq_zero_of_not_pos fun kp=>z (by rw [<- hk];exact Int.lt_add_of_pos_right _ (Int.natCast_pos.mpr kp))
   rw [k0] at hk
   exact (Int.add_zero _).symm.trans hk
end
end Mini
namespace Mini
open PySem
noncomputable def cG4:List CS:=[
 (.ret (.idx (.list [(.cnst (Lt.int 4)),(.cnst (Lt.int 4)),(.cnst (Lt.int 5)),(.cnst (Lt.int 7)),(.bin .Add (.cnst (Lt.int 1)) (.bin .Mod (.bin .FloorDiv (.var 0) (.cnst (Lt.int 5))) (.cnst (Lt.int 7))))]) (.bin .Mod (.var 0) (.cnst (Lt.int 5)))))]
theorem mdl {x n:Int} (h:0 < n) (h2:n <= (lid:Int)):(x % n).natAbs < 2 ^ 60:=Nat.lt_of_lt_of_le (fK (c:=lid) (md0 h) (md1 h) h2) (by decide)
section
variable {S:Sig} {m:MH}
end
noncomputable def b_llie:List CS:=[
 (.asg (.one (.one 5)) (.idx (.var 2) (.bin .Mod (.var 3) (.bi .len [(.var 2)])))),
 (.asg (.one (.one 6)) (.bin .Mod (.bin .Add (.bin .Add (.var 5) (.cnst (Lt.int 1))) (.bin .Mod (.bin .FloorDiv (.var 3) (.cnst (Lt.int 12))) (.bi .max2 [(.cnst (Lt.int 1)),(.bin .Sub (.var 1) (.cnst (Lt.int 1)))]))) (.var 1))),
 (.asg (.one (.one 7)) (.bin .Mod (.bin .FloorDiv (.var 3) (.cnst (Lt.int 132))) (.cnst (Lt.int 6)))),
 (.asg (.one (.one 8)) (.tup [(.cnst (Lt.str (Str.ofString "mark"))),(.var 7),(.idx (.var 4) (.bin .Mod (.bin .FloorDiv (.var 3) (.cnst (Lt.int 800))) (.cnst (Lt.int 2)))),(.var 5)])),
 (.ite (.val (.cmp (.bin .Mod (.bin .FloorDiv (.var 3) (.cnst (Lt.int 1600))) (.cnst (Lt.int 3))) [.Eq] [(.cnst (Lt.int 1))])) [
  (.asg (.one (.one 8)) (.tup [(.cnst (Lt.str (Str.ofString "say"))),(.bin .Add (.var 5) (.bin .Mult (.var 1) (.bin .Mod (.var 7) (.cnst (Lt.int 2))))),(.idx (.var 4) (.bin .Mod (.bin .FloorDiv (.var 3) (.cnst (Lt.int 800))) (.cnst (Lt.int 2)))),(.var 5)]))] []),
 (.asg (.one (.one 9)) (.meth (.var 0) 25 [])),
 (.ite (.all true [(.val (.cmp (.bin .Mod (.bin .FloorDiv (.var 3) (.cnst (Lt.int 1600))) (.cnst (Lt.int 3))) [.Eq] [(.cnst (Lt.int 2))])),(.val (.cmp (.var 9) [.NotEq] [(.list [])]))]) [
  (.asg (.one (.one 8)) (.idx (.var 9) (.bin .Mod (.bin .FloorDiv (.var 3) (.cnst (Lt.int 4800))) (.bi .len [(.var 9)]))))] []),
 (.ite (.val (.cmp (.var 6) [.NotEq] [(.var 5)])) [
  (.exp (.meth (.var 0) 24 [(.var 5),(.var 6),(.var 8)]))] [])]
structure Bs (B:List (Nat×MObj)) (L:List Int) (R:List Str) (q2 q4:Nat):Prop where
 li:(q2,.list (L.map V.int))∈B
 ro:(q4,.list (R.map V.str))∈B
 len:R.length=2
 row:∀ r∈R,bP7 (.str r)=true
 ll:L.length <= 12
noncomputable def Left (m':MH) (N:HN) (p:Nat) (t:Tn) (L:List Int) (Ns:List Int) (b:Nat) (B:List (Nat×MObj)):Prop:=∃ t' Ns',Tw m' N p t' B /\ t'.In L Ns' b /\ t.Ext t' /\ Ns'.length <= Ns.length+1
section
variable {S:Sig} {N:HN} {m:MH} {t:Tn} {L Ns:List Int} {p b q2 q4:Nat} {B:List (Nat×MObj)} {R:List Str}
theorem cI2 {F:Fns} {r:Lo} {a e:CE} {x:Int} (hp:m[q4]?=some (.list (R.map V.str))) (hl:R.length=2) (ha:ev S F a r m=.ok (.ref q4) m) (he:ev S F e r m=.ok (.int x) m):∃ s∈R,ev S F (.idx a (.bin .Mod e (.cnst (Lt.int 2)))) r m=.ok (.str s) m:=by
 rcases aM7 (xs:=R.map V.str) (x:=x) (n:=2) (by decide) (by rw [List.length_map,hl];rfl) with ⟨v,h1,h2⟩
 rcases List.mem_map.mp h2 with ⟨s,hs,rfl⟩
 exact ⟨s,hs,eF ha (aZ he rfl (dM (by decide))) (bT2 hp h1 (md60 (by decide) (by decide)))⟩
theorem bR5 {c n h:Int} {r:Str} (n0:0 <= n) (n1:n <= 9999) (hr:bP7 (.str r)=true) (h0:0 <= h) (h1:h < c):(⟨dX,n,r,h⟩:Wo).Ok c:=⟨.inr rfl,n0,n1,hr,h0,h1,fun e=>absurd e.symm dI⟩
theorem cH7 {c k h:Int} {r:Str} (k0:0 <= k) (k1:k < 2) (hr:bP7 (.str r)=true) (h0:0 <= h) (h1:h < c) (c2:c <= 12):(⟨cK,h+c * k,r,h⟩:Wo).Ok c:=by
 have hk:k=0 \/ k=1:=by lia
 refine ⟨.inl rfl,?_,?_,hr,h0,h1,fun y_=>?_⟩
 ·show 0 <= h+c * k
  rcases hk with rfl | rfl <;> lia
 ·show h+c * k <= 9999
  rcases hk with rfl | rfl <;> lia
 ·show (h+c * k - h) % c=0
  rw [Int.add_comm h,Int.add_sub_cancel,Int.mul_emod_right]
theorem cR2 (Z:TF S N) {kf:Nat} (h:cM S kf 5 10 b_llie) (n:Nat) {cell:Int} (H:Tw m N p t B) (I:t.In L Ns b) (K:Bs B L R q2 q4) (hL:∀ x∈L,0 <= x /\ x < t.cnt) (ne:0 < L.length) (hc:0 <= cell) (hb:b+300 < lid):Wp (run S (n+5) kf [.ref p,.int t.cnt,.ref q2,.int cell,.ref q4]) m (fun u m'=>Left m' N p t L Ns (b+300) B) nox:=by
 have k2:=H.has K.li
 have k4:=H.has K.ro
 have c1:=I.ok.c1
 have c2:=I.ok.c2
 rcases bQ2 (S:=S) (F:=run S (n+4)) (r:=[some (.ref p),some (.int t.cnt),some (.ref q2),some (.int cell),some (.ref q4),none,none,none,none,none]) (a:=.var 2) (e:=.var 3) (x:=cell) rfl k2 rfl ne (Nat.le_trans K.ll (by decide)) with ⟨y,e5,hy⟩
 have hy':=hL y hy
 refine bN h rfl (aW (aE e5 ?_))
 have mx:0 < (if t.cnt - 1 > 1 then t.cnt - 1 else 1):=by
  by_cases h:t.cnt - 1 > 1
  ·rw [if_pos h];exact Int.lt_trans (by decide) h
  ·rw [if_neg h];decide
 refine aW (aE (a:=.int ((y+1+cell / 12 % (if t.cnt - 1 > 1 then t.cnt - 1 else 1)) % t.cnt)) (m':=m) (aZ (aZ rfl (aZ rfl (y:=.int (if t.cnt - 1 > 1 then t.cnt - 1 else 1)) rfl (dM mx)) rfl) rfl (dM (Int.lt_of_lt_of_le (by decide) c1))) ?_)
 generalize hrec:(y+1+cell / 12 % (if t.cnt - 1 > 1 then t.cnt - 1 else 1)) % t.cnt=rec
 have r0:0 <= rec:=by rw [<- hrec];exact md0 (Int.lt_of_lt_of_le (by decide) c1)
 have r1:rec < t.cnt:=by rw [<- hrec];exact md1 (Int.lt_of_lt_of_le (by decide) c1)
 clear hrec mx
 refine aW (aC (a:=.int (cell / 132 % 6)) rfl ?_)
 have n0:0 <= cell / 132 % 6:=md0 (by decide)
 have n1:cell / 132 % 6 < 6:=md1 (by decide)
 generalize cell / 132 % 6=num at n0 n1 ⊢
 rcases cI2 (S:=S) (F:=run S (n+4)) (r:=[some (.ref p),some (.int t.cnt),some (.ref q2),some (.int cell),some (.ref q4),some (.int y),some (.int rec),some (.int num),none,none]) (a:=.var 4) (e:=.bin .FloorDiv (.var 3) (.cnst (Lt.int 800))) (x:=cell / 800) k4 K.len rfl rfl with ⟨s,hs,es⟩
 have hr:=K.row s hs
 refine aW (aE (aY4 (aP rfl (aP rfl (aP es (aP rfl rfl))))) ?_)
 have rest:∀ w:Wo,w.Ok t.cnt->w.h=y->Wp (exs S (run S (n+4)) (b_llie.drop 5) [some (.ref p),some (.int t.cnt),some (.ref q2),some (.int cell),some (.ref q4),some (.int y),some (.int rec),some (.int num),some w.v,none]) m (bK6 fun v m'=>Left m' N p t L Ns (b+300) B) nox:=by
  intro w hw hwh
  refine aW (bJ Z H rfl rfl rfl (aC rfl (aU (bO3 Z (n+3) H) fun u m1 z_=>?_)))
  rcases z_ with ⟨q,eu,H1,l1,g1⟩
  subst eu
  have kq:=H1.has (.head _)
  have fin:∀ (v:Wo) (m2:MH) (Hm:Le m1 m2),v.Ok t.cnt->(v.h=y \/ v∈t.said)->Wp (exs S (run S (n+4)) (b_llie.drop 7) [some (.ref p),some (.int t.cnt),some (.ref q2),some (.int cell),some (.ref q4),some (.int y),some (.int rec),some (.int num),some v.v,some (.ref q)]) m2 (bK6 fun v m'=>Left m' N p t L Ns (b+300) B) nox:=by
   intro v m2 Hm hv hf
   have H2:=H1.up Hm
   refine bY (t:=!(rec == y)) (bD (aX rfl rfl rfl)) ?_
   cases hz:rec == y with
   | true=>exact cU ⟨t,Ns,H2.tail,I.mono (Nat.le_add_right _ _),.refl _,Nat.le_succ _⟩
   | false=>
    have hz:rec≠y:=beq_eq_false_iff_ne.mp hz
    have I1:=(I.more v.n).lie (r:=rec) (I.liar hy) hv hf (.head _)
    exact fD (bJ Z H2 rfl rfl rfl (aC rfl (aU (bS1 Z n H2 I.ok hy'.1 hy'.2 (I.liar hy) r0 r1 hz hv hf hb) fun u m3 z=>cU ⟨_,v.n::Ns,z.2.tail,I1.1,I1.2,Nat.le_refl _⟩)))
  refine aF9 (aL5 (cE (aC (a:=(cell / 1600 % 3 == 2)) rfl ?_)))
  cases hz:cell / 1600 % 3 == 2 with
  | false=>exact aD7 (fin w m1 (.refl _) hw (.inl hwh))
  | true=>
   refine eA (cE (bI2 rfl kq (fun x hx m=>rdW x hx m) fun m2 l2=>?_))
   cases hw2:t.said with
   | nil=>exact aD7 (fin w m2 l2 hw (.inl hwh))
   | cons a as=>
    refine eA (aC rfl ?_)
    have kq2:=l2.has kq
    have sl:(0:Int) < ((t.said.map Wo.v).length:Int):=by rw [List.length_map,hw2];exact Int.natCast_pos.mpr (Nat.succ_pos _)
    rcases aM7 (xs:=t.said.map Wo.v) (x:=cell / 4800) sl rfl with ⟨x,h1,h2⟩
    rcases List.mem_map.mp h2 with ⟨v,hv,rfl⟩
    refine aW (aE (eF rfl (aZ rfl (aG4 rfl kq2) (dM sl)) (bT2 kq2 h1 (mdl sl ?_))) (fin v m2 l2 (I.fine.wo v hv) (.inr hv)))
    rw [List.length_map]
    exact Int.ofNat_le.mpr (Nat.le_trans I.ok.lk.sl (Nat.le_of_lt (Nat.lt_of_le_of_lt (Nat.le_add_right _ _) hb)))
 refine bY (t:=(cell / 1600 % 3 == 1)) (bD (aX rfl rfl rfl)) ?_
 cases hz:cell / 1600 % 3 == 1 with
 | false=>exact rest ⟨dX,num,s,y⟩ (bR5 n0 (Int.le_trans (Int.le_of_lt n1) (by decide)) hr hy'.1 hy'.2) rfl
 | true=>
  have em:ev S (run S (n+4)) (.bin .Add (.var 5) (.bin .Mult (.var 1) (.bin .Mod (.var 7) (.cnst (Lt.int 2))))) [some (.ref p),some (.int t.cnt),some (.ref q2),some (.int cell),some (.ref q4),some (.int y),some (.int rec),some (.int num),some (.tup [.str dX,.int num,.str s,.int y]),none] m=.ok (.int (y+t.cnt * (num % 2))) m:=aZ rfl (aZ rfl rfl (aD4 (.inl (aI4 c1 c2)))) rfl
  rcases cI2 (S:=S) (F:=run S (n+4)) (r:=[some (.ref p),some (.int t.cnt),some (.ref q2),some (.int cell),some (.ref q4),some (.int y),some (.int rec),some (.int num),some (.tup [.str dX,.int num,.str s,.int y]),none]) (a:=.var 4) (e:=.bin .FloorDiv (.var 3) (.cnst (Lt.int 800))) (x:=cell / 800) k4 K.len rfl rfl with ⟨s',hs',es'⟩
  refine aW (aE (aY4 (aP rfl (aP em (aP es' (aP rfl rfl))))) ?_)
  exact rest ⟨cK,y+t.cnt * (num % 2),s',y⟩ (cH7 (md0 (by decide)) (md1 (by decide)) (K.row s' hs') hy'.1 hy'.2 c2) rfl
end
end Mini
namespace Mini
open PySem
noncomputable def aQ5:List CS:=[
 (.asg (.one (.one 5)) (.idx (.var 2) (.bin .Mod (.var 3) (.bi .len [(.var 2)])))),
 (.asg (.one (.one 6)) (.bin .Add (.var 5) (.bin .Mult (.var 1) (.bin .Mod (.bin .FloorDiv (.var 3) (.cnst (Lt.int 7))) (.cnst (Lt.int 2)))))),
 (.asg (.one (.one 7)) (.list [])),
 (.for_ .enum (.many [8,9]) [(.comp (.var 12) (.one 12) 1 .range [(.var 1)] [(.val (.cmp (.var 12) [.NotIn] [(.var 2)]))])] [
  (.asg (.one (.one 10)) (.idx (.var 4) (.bin .Mod (.bin .FloorDiv (.var 3) (.idx (.list [(.cnst (Lt.int 1)),(.cnst (Lt.int 2)),(.cnst (Lt.int 4)),(.cnst (Lt.int 8)),(.cnst (Lt.int 16)),(.cnst (Lt.int 32)),(.cnst (Lt.int 64)),(.cnst (Lt.int 128)),(.cnst (Lt.int 256)),(.cnst (Lt.int 512)),(.cnst (Lt.int 1024)),(.cnst (Lt.int 2048))]) (.var 8))) (.cnst (Lt.int 2))))),
  (.exp (.smeth (.var 7) .append [(.meth (.var 0) 24 [(.var 5),(.var 9),(.tup [(.cnst (Lt.str (Str.ofString "say"))),(.var 6),(.var 10),(.var 5)])])])),
  (.asg (.one (.one 7)) (.bin .Add (.var 7) (.comp (.meth (.var 0) 24 [(.var 12),(.var 9),(.tup [(.cnst (Lt.str (Str.ofString "mark"))),(.var 6),(.var 10),(.var 12)])]) (.one 12) 1 .expr [(.var 2)] [])))]),
 (.ite (.val (.cmp (.bin .Mod (.bin .FloorDiv (.var 3) (.cnst (Lt.int 14))) (.cnst (Lt.int 3))) [.Gt] [(.cnst (Lt.int 0))])) [
  (.for_ .expr (.one 11) [(.slice (.var 7) (.cnst Lt.none) (.cnst Lt.none) (.bin .Sub (.cnst (Lt.int 1)) (.bin .Mult (.cnst (Lt.int 2)) (.bin .Mod (.bin .FloorDiv (.var 3) (.cnst (Lt.int 42))) (.cnst (Lt.int 2))))))] [
   (.exp (.meth (.var 0) 18 [(.var 11)]))])] [])]
noncomputable def pows:List Int:=[1,2,4,8,16,32,64,128,256,512,1024,2048]
noncomputable def bA9:Nat->List Int->List (Nat×Int)
 | _,[]=>[]
 | k,x::xs=>(k,x)::bA9 (k+1) xs
noncomputable def enV (x:Nat×Int):V:=.tup [.int x.1,.int x.2]
theorem bU5:∀ (k:Nat) (l:List Int),aV9 k (l.map V.int)=(bA9 k l).map enV
 | _,[]=>rfl
 | k,x::l=>congrArg (V.tup [.int k,.int x]::·) (bU5 (k+1) l)
theorem bF1:∀ {k:Nat} {l:List Int} {x:Nat×Int},x∈bA9 k l->x.2∈l /\ x.1 < k+l.length
 | _,[],_,h=>nomatch h
 | k,y::l,x,h=>by
  rcases List.mem_cons.mp h with rfl | h
  ·exact ⟨.head _,Nat.lt_add_of_pos_right (Nat.succ_pos _)⟩
  ·have:=bF1 (l:=l) h
   exact ⟨.tail _ this.1,by rw [List.length_cons,Nat.add_comm l.length,<- Nat.add_assoc];exact this.2⟩
theorem aQ3:∀ (k:Nat) (l:List Int),(bA9 k l).length=l.length
 | _,[]=>rfl
 | k,_::l=>congrArg Nat.succ (aQ3 (k+1) l)
theorem bS3 {α:Type} {l a zs:List α} {z:α} (e:l=a++z::zs):a.length < l.length:=by
 rw [e,List.length_append,List.length_cons];exact Nat.lt_add_of_pos_right (Nat.succ_pos _)
theorem b300 {b a k:Nat} (h:a < k) (hk:300 * k <= 100000):b+300 * a+300 <= b+100000:=by
 rw [Nat.add_assoc];exact Nat.add_le_add_left (Nat.le_trans (Nat.mul_le_mul_left 300 h) hk) b
theorem b4000 {b a k:Nat} (ha:a < 12) (hk:k <= 16):b+4000 * a+300 * k+300 <= b+100000:=by
 rw [Nat.add_assoc,Nat.add_assoc]
 exact Nat.add_le_add_left (Nat.le_trans (Nat.add_le_add (Nat.mul_le_mul_left 4000 (Nat.le_of_lt_succ ha)) (Nat.add_le_add_right (Nat.mul_le_mul_left 300 hk) 300)) (by decide)) b
theorem aP3 (c:Int) (L:List Int):(eG c L).length <= c.toNat:=by
 unfold eG aP4
 exact Nat.le_trans (List.length_filter_le _ _) (by rw [List.length_map,List.length_range];exact Nat.le_refl _)
section
variable {S:Sig} {N:HN} {m:MH} {t:Tn} {L Ns:List Int} {p b q2 q4:Nat} {B:List (Nat×MObj)} {R:List Str}
theorem bQ6 {F:Fns} {r:Lo} {E:Nat->MH->Prop} {Q:V->MH->Prop} {x:Nat} {c:Int} {ca cb:CE} (hx:x=r.length) (h1:ev S F ca r m=.ok (.int c) m) (h2:∀ v,ev S F cb (r++[v]) m=.ok (.ref q2) m) (k2:m[q2]?=some (.list (L.map V.int))) (c1:1 <= c) (c2:c <= 12)
  (q:∀ q' m',Le m m'->m'[q']?=some (.list ((eG c L).map V.int))->m.length <= q'->Q (.ref q') m'):Wp (ev S F (.comp (.var x) (.one x) 1 .range [ca] [(.val (.cmp (.var x) [.NotIn] [cb]))]) r) m Q E:=by
 subst hx
 refine aO5 (List.range c.toNat) (fun (j:Nat)=>V.int (0+(j:Int))) (fun (j:Nat)=>V.int (0+(j:Int))) (fun j=>!(L.any fun y=>y == (j:Int))) (fun m'=>m'=m) (aF (aE h1 (aG (aE (aN6 (Nat.lt_of_lt_of_le (fK (c:=13) (Int.le_trans (by decide) c1) (Int.lt_of_le_of_lt c2 (by decide:(12:Int) < 13)) (by decide)) (by decide))) ⟨rfl,rfl,fun y_ y_=>rfl,?_,?_,?_⟩))))
 ·intro j hj m' em
  rw [em]
  have es:(r++List.replicate 1 none).set r.length (some (V.int (0+(j:Int))))=r++[some (V.int (0+(j:Int)))]:=by
   show (r++[none]).set r.length _=_
   rw [List.set_append_right _ _ (Nat.le_refl _),Nat.sub_self];rfl
  have ev0:ev S F (.var r.length) (r++[some (V.int (0+(j:Int)))]) m=.ok (.int (0+(j:Int))) m:=by
   show (match (r++[some (V.int (0+(j:Int)))])[r.length]? with | some (some v)=>ret v | _=>bad) m=_
   rw [List.getElem?_append_right (Nat.le_refl _),Nat.sub_self];rfl
  refine aE (a:=r++[some (V.int (0+(j:Int)))]) (m':=m) (by show Res.ok _ m=_;rw [es]) (aP2 (aE (a:=!(L.any fun y=>y == (j:Int))) (m':=m) (bD (aX ev0 (h2 _) ?_)) ⟨rfl,?_⟩))
  ·show Res.bind (inV (.int (0+(j:Int))) (.ref q2) m) _=_
   rw [cS6 k2,Int.zero_add];rfl
  ·cases L.any fun y=>y == (j:Int) with
   | true=>rfl
   | false=>exact eA (aE ev0 ⟨rfl,rfl⟩)
 ·rw [List.length_range];exact bM (bS c2) (by decide)
 ·intro q' m1 m2 em l k g
  rw [em] at l g
  refine q q' m2 l ?_ g
  rw [k]
  congr 2
  unfold eG aP4
  rw [List.filter_map,List.map_map]
  refine List.map_congr_left fun j y_=>?_
  show V.int (0+(j:Int))=V.int j
  rw [Int.zero_add]
noncomputable def Wt (t:Tn) (l:List Int):Prop:=l.Nodup /\ ∀ k∈l,∃ x,(k,x)∈t.lets
theorem Wt.send {l:List Int} (h:Wt t l) (lt:∀ x∈t.lets,x.1 < t.given) (w:Wo) (y:Lr):Wt ((t.say w).send y) (l++[t.given]):=by
 refine ⟨List.nodup_append.mpr ⟨h.1,List.pairwise_singleton _ _,fun a ha b hb e=>?_⟩,fun k hk=>?_⟩
 ·rcases h.2 a ha with ⟨x,hx⟩
  have:=lt _ hx
  rw [e,List.mem_singleton.mp hb] at this
  exact Int.lt_irrefl _ this
 ·rcases List.mem_append.mp hk with hk | hk
  ·rcases h.2 k hk with ⟨x,hx⟩
   exact ⟨x,List.mem_append_left _ hx⟩
  ·rw [List.mem_singleton.mp hk];exact ⟨y,List.mem_append_right _ (.head _)⟩
inductive SM (N:HN) (p:Nat) (B:List (Nat×MObj)) (L Ns:List Int) (t0:Tn) (b:Nat) (T:List Int) (zs:List Int) (l:List V) (m':MH):Prop
 | mk (a G:List Int) (t:Tn) (e:L=a++zs) (el:l=G.map V.int) (H:Tw m' N p t B) (I:t.In L Ns (b+300 * a.length)) (X:t0.Ext t) (w:Wt t (T++G)) (gl:G.length=a.length)
inductive SH (N:HN) (p q2 q4 qh:Nat) (B:List (Nat×MObj)) (L Ns:List Int) (t0:Tn) (b:Nat) (cell y num:Int) (zs:List (Nat×Int)) (r:Lo) (m':MH):Prop
 | mk (a:List (Nat×Int)) (T:List Int) (t:Tn) (q7:Nat) (x8 x9 x10:Option V) (e:bA9 0 (eG t0.cnt L)=a++zs) (er:r=[some (.ref p),some (.int t0.cnt),some (.ref q2),some (.int cell),some (.ref q4),some (.int y),some (.int num),some (.ref q7),x8,x9,x10,none])
   (H:Tw m' N p t ((q7,.list (T.map V.int))::(qh,.list ((eG t0.cnt L).map V.int))::B)) (ne:∀ x∈(qh,MObj.list ((eG t0.cnt L).map V.int))::B,x.1≠q7) (I:t.In L Ns (b+4000 * a.length)) (X:t0.Ext t) (w:Wt t T) (tl:T.length <= 13 * a.length)
theorem dA5 {i:Nat} (h:i < 12):∃ v∈pows,at_ (pows.map V.int) (i:Int)=some (.int v):=by
 refine ⟨pows[i],List.getElem_mem h,?_⟩
 unfold at_
 rw [if_pos (Int.natCast_nonneg i),Int.toNat_natCast,List.getElem?_map,List.getElem?_eq_getElem (show i < pows.length from h)];rfl
theorem cP4:∀ v∈pows,0 < v /\ v.natAbs < 1073741824:=by decide
theorem bH9 (Z:TF S N) (n:Nat) {cell y num:Int} {qh:Nat} {zs:List (Nat×Int)} {z:Nat×Int} {r:Lo} {m':MH} (K:Bs B L R q2 q4) (hL:∀ x∈L,0 <= x /\ x < t.cnt) (hy:y∈L) (c1:1 <= t.cnt) (c2:t.cnt <= 12) (hn:num∈Ns) (h0:0 <= num) (h1:num <= 9999) (hsay:(num - y) % t.cnt=0) (hb:b+100000 < lid) (J:SH N p q2 q4 qh B L Ns t b cell y num (z::zs) r m') :
  Wp (aE1 (.many [8,9]) (enV z) r) m' (fun r' m'=>Wp (exs S (run S (n+4)) [
  (.asg (.one (.one 10)) (.idx (.var 4) (.bin .Mod (.bin .FloorDiv (.var 3) (.idx (.list [(.cnst (Lt.int 1)),(.cnst (Lt.int 2)),(.cnst (Lt.int 4)),(.cnst (Lt.int 8)),(.cnst (Lt.int 16)),(.cnst (Lt.int 32)),(.cnst (Lt.int 64)),(.cnst (Lt.int 128)),(.cnst (Lt.int 256)),(.cnst (Lt.int 512)),(.cnst (Lt.int 1024)),(.cnst (Lt.int 2048))]) (.var 8))) (.cnst (Lt.int 2))))),
  (.exp (.smeth (.var 7) .append [(.meth (.var 0) 24 [(.var 5),(.var 9),(.tup [(.cnst (Lt.str (Str.ofString "say"))),(.var 6),(.var 10),(.var 5)])])])),
  (.asg (.one (.one 7)) (.bin .Add (.var 7) (.comp (.meth (.var 0) 24 [(.var 12),(.var 9),(.tup [(.cnst (Lt.str (Str.ofString "mark"))),(.var 6),(.var 10),(.var 12)])]) (.one 12) 1 .expr [(.var 2)] [])))] r') m' (fun p_1 m'=>match p_1.1 with | .ret v=>False | _=>SH N p q2 q4 qh B L Ns t b cell y num zs p_1.2 m') nox) nox:=by
 rcases J with ⟨a,T,t1,q7,x8,x9,x10,e,er,H,ne,I,X,w,tl⟩
 subst er
 have hz:=bF1 (k:=0) (l:=eG t.cnt L) (x:=z) (by rw [e];exact List.mem_append_right _ (.head _))
 have hz2:=hon_iff.mp hz.1
 have zl:z.1 < 12:=Nat.lt_of_lt_of_le hz.2 (by rw [Nat.zero_add];exact Nat.le_trans (aP3 _ _) (bS c2))
 have al:a.length < 12:=by
  refine Nat.lt_of_lt_of_le (bS3 e) ?_
  rw [aQ3];exact Nat.le_trans (aP3 _ _) (bS c2)
 have ec:t1.cnt=t.cnt:=X.cnt
 have hy':=hL y hy
 refine aC rfl ?_
 rcases dA5 zl with ⟨v,hv,ev⟩
 have vp:=cP4 v hv
 have k4:=H.has (.tail _ (.tail _ K.ro))
 refine aW (aS3 (aC rfl (aG7 (aG7 (aC rfl (aS3 (bF (aC (a:=pows.map V.int) rfl (aM fun qp m1 l1 kp gp=>?_)))))))))
 refine aC rfl (aE (bT2 kp ev (Nat.lt_of_lt_of_le (show (z.1:Int).natAbs < 12 from by rw [Int.natAbs_natCast];exact zl) (by decide))) (aE (dF0 vp.1 vp.2) (aC rfl (aE (dM (by decide)) ?_))))
 rcases aM7 (xs:=R.map V.str) (x:=cell / v) (n:=2) (by decide) (by rw [List.length_map,K.len];rfl) with ⟨u,h1',h2'⟩
 rcases List.mem_map.mp h2' with ⟨s,hs,rfl⟩
 have hr:=K.row s hs
 refine aE (bT2 (l1.has k4) h1' (md60 (by decide) (by decide))) ?_
 have H1:=H.up l1
 have hbb:∀ k,k <= 16->b+4000 * a.length+300 * k+300 < lid:=fun k hk=>Nat.lt_of_le_of_lt (b4000 al hk) hb
 have sk:(⟨cK,num,s,y⟩:Wo).Ok t1.cnt:=by rw [ec];exact ⟨.inl rfl,h0,h1,hr,hy'.1,hy'.2,fun y_=>hsay⟩
 have zy:z.2≠y:=fun c=>hz2.2.2 (c▸hy)
 have k7:=H1.has (.head _)
 refine fD (dL (aC rfl ⟨0,bO9 k7,rfl,aF (bJ Z H1 rfl rfl rfl ?_)⟩))
 refine aC rfl ?_
 refine aU (bS1 Z n (h:=y) (r:=z.2) (w:=⟨cK,num,s,y⟩) H1 I.ok hy'.1 (by rw [ec];exact hy'.2) (I.liar hy) hz2.1 (by rw [ec];exact hz2.2.1) zy sk (.inl rfl) (Nat.lt_of_le_of_lt (Nat.le_add_right _ (300 * 0)) (hbb 0 (by decide)))) fun u m2 z2=>?_
 rcases z2 with ⟨rfl,H2⟩
 have I2:=I.lie (h:=y) (r:=z.2) (w:=⟨cK,num,s,y⟩) (I.liar hy) sk (.inl rfl) hn
 have w2:=w.send I.ok.lk.lt ⟨cK,num,s,y⟩ ⟨y,z.2,⟨cK,num,s,y⟩⟩
 have X2:=X.trans I2.2
 refine aG (aN0 (H2.has (.head _)) (by rw [List.length_map];exact Nat.lt_of_le_of_lt (Nat.le_trans tl (Nat.mul_le_mul_left 13 (Nat.le_of_lt al))) (by decide)) ?_)
 have H3:=H2.set (.list (T.map V.int++[.int t1.given])) ne
 rw [show T.map V.int++[V.int t1.given]=(T++[t1.given]).map V.int by rw [List.map_append];rfl] at H3 ⊢
 generalize (m2.set q7 (.list ((T++[t1.given]).map V.int)))=m3 at H3 ⊢
 generalize (t1.say ⟨cK,num,s,y⟩).send ⟨y,z.2,⟨cK,num,s,y⟩⟩=t2 at H2 H3 I2 w2 X2
 generalize hT:T++[t1.given]=T2 at H3 w2 ⊢
 have T2l:T2.length=T.length+1:=by rw [<- hT,List.length_append];rfl
 have I2:=I2.1
 have k2:=H3.has (.tail _ (.tail _ K.li))
 refine aW (aG7 (aC rfl (cB1 L V.int (SM N p ((q7,.list (T2.map V.int))::(qh,.list ((eG t.cnt L).map V.int))::B) L Ns t (b+4000 * a.length+300) T2) (aF (aC rfl (aG (eI k2 ⟨rfl,⟨[],[],t2,rfl,rfl,H3,I2,X2,by rw [List.append_nil];exact w2,rfl⟩,?_,?_,?_⟩)))))))
 ·rintro zs l m' ⟨a,G,t3,e,el,H,I,X,w,gl⟩
  exact cV (H.has (.tail _ (.tail _ K.li)))
 ·rintro o os l m4 ⟨a',G,t3,e',el,H,I,X,w,gl⟩
  have ho:o∈L:=by rw [e'];exact List.mem_append_right _ (.head _)
  have ho':=hL o ho
  have ec3:t3.cnt=t.cnt:=X.cnt
  have al':a'.length < 12:=Nat.lt_of_lt_of_le (bS3 e') K.ll
  have mk:(⟨dX,num,s,o⟩:Wo).Ok t3.cnt:=by rw [ec3];exact bR5 h0 h1 hr ho'.1 ho'.2
  have zo:z.2≠o:=fun c=>hz2.2.2 (c▸ho)
  refine aC rfl (bJ Z H rfl rfl rfl ?_)
  refine aC rfl ?_
  refine aU (bS1 Z n (h:=o) (r:=z.2) (w:=⟨dX,num,s,o⟩) H I.ok ho'.1 (by rw [ec3];exact ho'.2) (I.liar ho) hz2.1 (by rw [ec3];exact hz2.2.1) zo mk (.inl rfl) (Nat.lt_of_le_of_lt (Nat.add_le_add_right (by rw [Nat.add_assoc _ 300,Nat.add_comm 300];exact Nat.add_le_add_left (Nat.le_trans (Nat.mul_le_mul_left 300 al') (by decide)) _) 300) (hbb 14 (by decide)))) fun u m5 z5=>?_
  rcases z5 with ⟨rfl,H5⟩
  have I5:=I.lie (h:=o) (r:=z.2) (w:=⟨dX,num,s,o⟩) (I.liar ho) mk (.inl rfl) hn
  have w5:=w.send I.ok.lk.lt ⟨dX,num,s,o⟩ ⟨o,z.2,⟨dX,num,s,o⟩⟩
  refine ⟨a'++[o],G++[t3.given],_,by rw [e',List.append_assoc];rfl,by rw [el,List.map_append];rfl,H5,?_,X.trans I5.2,by rw [<- List.append_assoc];exact w5,by rw [List.length_append,List.length_append,gl];rfl⟩
  refine I5.1.mono ?_
  rw [List.length_append,List.length_singleton];exact Nat.le_of_eq (Nat.add_assoc _ _ _)
 ·rintro l m4 ⟨a',G,t3,e',el,H,I,X,w,gl⟩
  rw [List.append_nil] at e'
  subst e'
  have Gl:G.length <= 12:=by rw [gl];exact K.ll
  refine ⟨by rw [el,List.length_map];exact bM Gl (by decide),fun q8 m5 l5 k5 g5=>?_⟩
  have H5:=H.new l5 k5 g5
  rw [el] at k5
  refine aR0 (H5.has (.tail _ (.head _))) k5 (by rw [List.length_map,List.length_map,T2l];exact Nat.le_trans (Nat.add_le_add (Nat.succ_le_succ (Nat.le_trans tl (Nat.mul_le_mul_left 13 (Nat.le_of_lt al)))) Gl) (by decide)) fun q9 m6 l6 k6 g6=>?_
  rw [<- List.map_append] at k6
  have H6:=H5.new l6 k6 g6
  refine cU ⟨a++[z],T2++G,t3,q9,_,_,_,by rw [e,List.append_assoc];rfl,rfl,H6.sub fun x hx=>?_,fun x hx c=>?_,I.mono ?_,X,w,?_⟩
  ·rcases List.mem_cons.mp hx with rfl | hx
   ·exact .head _
   ·exact .tail _ (.tail _ (.tail _ hx))
  ·have:=aS (H5.has (.tail _ (.tail _ hx)):_)
   rw [c] at this
   exact Nat.not_lt.mpr g6 this
  ·rw [List.length_append,List.length_singleton,Nat.mul_succ,<- Nat.add_assoc,Nat.add_assoc _ 300]
   exact Nat.add_le_add_left (Nat.le_trans (Nat.add_le_add_left (Nat.mul_le_mul_left 300 K.ll) 300) (by decide)) _
  ·rw [List.length_append,List.length_append,List.length_singleton,T2l,Nat.mul_succ,Nat.add_assoc]
   exact Nat.add_le_add tl (Nat.add_le_add_left Gl 1)
end
end Mini
namespace Mini
open PySem
theorem aG0 {S:Sig} {F:Fns} {k:IK} {t:CT} {src:List CE} {body ss:List CS} {r:Lo} {m:MH} {Q:Fl×Lo->MH->Prop} {E:Nat->MH->Prop} {α:Type} (zs:List α) (vv:α->V) (h:Wp (evs S F src r) m (fun vs m'=>Wp (fC k vs) m' (fun p m'=>∃ I:List α->Lo->MH->Prop,p.1=zs.map vv /\ I zs r m' /\ (∀ zs r m,I zs r m->p.2.stays m=true) /\
      (∀ z zs r m,I (z::zs) r m->Wp (aE1 t (vv z) r) m (fun r' m'=>Wp (exs S F body r') m' (aX1 Q I zs) E) E) /\ (∀ r m,I [] r m->Wp (exs S F ss r) m Q E)) E) E):Wp (exs S F (.for_ k t src body::ss) r) m Q E:=by
  refine cZ6 (wp_mono h (fun vs m' h=>wp_mono h (fun p m' h=>?_) fun y_ y_ q=>q) fun y_ y_ q=>q)
  rcases h with ⟨I,e0,h0,hg,hs,hn⟩
  refine ⟨fun xs r m=>∃ z,xs=z.map vv /\ I z r m,⟨zs,e0,h0⟩,fun y_ y_ y_ ⟨_,_,q⟩=>hg _ _ _ q,?_,?_⟩
  · rintro x xs r m ⟨z,e,q⟩
    cases z with
    | nil=>cases e
    | cons c z=>
      cases e
      refine wp_mono (hs c z r m q) (fun r' m' q=>wp_mono q (fun p m' q=>?_) fun y_ y_ q=>q) fun y_ y_ q=>q
      rcases p with ⟨f,r1⟩
      cases f with
      | ret v=>exact q
      | next=>exact ⟨z,rfl,q⟩
      | cont=>exact ⟨z,rfl,q⟩
  · rintro r m ⟨z,e,q⟩
    cases z with
    | nil=>exact hn r m q
    | cons c z=>cases e
theorem cN5 {x:Int}:x % 2=0 \/ x % 2=1:=Int.emod_two_eq x
theorem b_sum {b a k z:Nat} (ha:a <= 12) (hk:k <= 13 * a) (hz:z+1 <= k):b+4000 * a+300 * (k - (z+1))+300 <= b+100000:=by
 rw [Nat.add_assoc,Nat.add_assoc]
 refine Nat.add_le_add_left (Nat.le_trans (Nat.add_le_add (Nat.mul_le_mul_left 4000 ha) (Nat.add_le_add_right (Nat.mul_le_mul_left 300 (Nat.le_trans (Nat.sub_le _ _) (Nat.le_trans hk (Nat.mul_le_mul_left 13 ha)))) 300)) (by decide)) b
theorem dG1 {b k z:Nat} (hz:z+1 <= k):b+300 * (k - (z+1))+300 <= b+300 * (k - z):=by
 rw [Nat.add_assoc,<- Nat.mul_succ]
 refine Nat.add_le_add_left (Nat.mul_le_mul_left 300 (Nat.le_of_eq ?_)) b
 rw [<- Nat.sub_sub];exact Nat.succ_pred_eq_of_pos (n:=k - z) (Nat.sub_pos_of_lt hz)
theorem b_end {b a k:Nat} (ha:a <= 12) (hk:k <= 13 * a):b+4000 * a+300 * k <= b+100000:=by
 rw [Nat.add_assoc]
 exact Nat.add_le_add_left (Nat.le_trans (Nat.add_le_add (Nat.mul_le_mul_left 4000 ha) (Nat.mul_le_mul_left 300 (Nat.le_trans hk (Nat.mul_le_mul_left 13 ha)))) (by decide)) b
section
variable {S:Sig} {N:HN} {m:MH} {t:Tn} {L Ns:List Int} {p b q2 q4:Nat} {B:List (Nat×MObj)} {R:List Str}
inductive SB (N:HN) (p q:Nat) (r0:Option V->Lo) (B:List (Nat×MObj)) (L Ns:List Int) (t0:Tn) (b k:Nat) (zs:List Int) (r:Lo) (m':MH):Prop
 | mk (t:Tn) (x:Option V) (er:r=r0 x) (H:Tw m' N p t B) (I:t.In L Ns (b+300 * (k - zs.length))) (X:t0.Ext t) (w:Wt t zs) (zl:zs.length <= k)
theorem Wt.rev {l:List Int} (h:Wt t l):Wt t l.reverse:=⟨(List.reverse_perm l).nodup_iff.mpr h.1,fun k hk=>h.2 k (List.mem_reverse.mp hk)⟩
theorem Wt.next {t':Tn} {k:Int} {l:List Int} (h:Wt t (k::l)) (q:∀ x∈t.lets,x.1≠k->x∈t'.lets):Wt t' l:=by
 have nd:=List.nodup_cons.mp h.1
 refine ⟨nd.2,fun j hj=>?_⟩
 rcases h.2 j (.tail _ hj) with ⟨x,hx⟩
 exact ⟨x,q _ hx fun c=>nd.1 (c▸hj)⟩
theorem cF4 {q:Nat} {l:List Int} (h:m[q]?=some (.list (l.map V.int))):fC .enum [.ref q] m=.ok ((bA9 0 l).map enV,.list q (l.map V.int)) m:=by
 show cT9 (.ref q) m=_
 unfold cT9;dsimp only;rw [h];dsimp only;rw [bU5]
theorem bZ9 (Z:TF S N) {kf:Nat} (h:cM S kf 5 12 aQ5) (n:Nat) {cell:Int} (H:Tw m N p t B) (I:t.In L Ns b) (K:Bs B L R q2 q4) (hL:∀ x∈L,0 <= x /\ x < t.cnt) (ne:0 < L.length) (hc:0 <= cell) (hb:b+100000 < lid):Wp (run S (n+8) kf [.ref p,.int t.cnt,.ref q2,.int cell,.ref q4]) m (fun u m'=>Left m' N p t L Ns (b+100000) B) nox:=by
 have k2:=H.has K.li
 have c1:=I.ok.c1
 have c2:=I.ok.c2
 rcases bQ2 (S:=S) (F:=run S (n+7)) (r:=[some (.ref p),some (.int t.cnt),some (.ref q2),some (.int cell),some (.ref q4),none,none,none,none,none,none,none]) (a:=.var 2) (e:=.var 3) (x:=cell) rfl k2 rfl ne (Nat.le_trans K.ll (by decide)) with ⟨y,e5,hy⟩
 have hy':=hL y hy
 refine bN h rfl (aW (aE e5 (aW (aE (a:=.int (y+t.cnt * (cell / 7 % 2))) (m':=m) (aZ rfl (aZ rfl rfl (aD4 (.inl (aI4 c1 c2)))) rfl) ?_))))
 have sk:=cH7 (r:=row 0 0) (k:=cell / 7 % 2) (md0 (by decide)) (md1 (by decide)) (aG1 0 0) hy'.1 hy'.2 c2
 have n0:0 <= y+t.cnt * (cell / 7 % 2):=sk.n0
 have n1:y+t.cnt * (cell / 7 % 2) <= 9999:=sk.n1
 have n2:(y+t.cnt * (cell / 7 % 2) - y) % t.cnt=0:=sk.c rfl
 clear sk
 generalize y+t.cnt * (cell / 7 % 2)=num at n0 n1 n2 ⊢
 refine aW (bF (aG (aM fun q7 m1 l1 k1 g1=>?_)))
 have H1:=H.new l1 k1 g1
 have lt7:∀ x∈B,x.1≠q7:=fun x hx c=>by
  have:=aS (H.has hx)
  rw [c] at this
  exact Nat.not_lt.mpr g1 this
 refine aG0 (bA9 0 (eG t.cnt L)) enV (aF (bQ6 rfl rfl (fun y_=>rfl) (l1.has k2) c1 c2 fun qh m2 l2 kh gh=>aG (aE (cF4 kh) ?_)))
 have H2:=H1.new l2 kh gh
 refine ⟨SH N p q2 q4 qh B L (num::Ns) t b cell y num,rfl,⟨[],[],t,q7,none,none,none,rfl,rfl,H2.sub fun x hx=>?_,dQ (fun c=>?_) lt7,(I.more num).mono (Nat.le_add_right _ _),.refl _,⟨List.Pairwise.nil,fun k hk=>nomatch hk⟩,Nat.zero_le _⟩,?_,fun z zs r m' J=>?_,?_⟩
 ·rcases List.mem_cons.mp hx with rfl | hx
  ·exact .tail _ (.head _)
  ·rcases List.mem_cons.mp hx with rfl | hx
   ·exact .head _
   ·exact .tail _ (.tail _ hx)
 ·have:=aS k1
  rw [<- show qh=q7 from c] at this
  exact Nat.not_lt.mpr gh this
 ·rintro zs r m' ⟨a,T,t1,q7,x8,x9,x10,e,er,H,ne,I,X,w,tl⟩
  exact cV (H.has (.tail _ (.head _)))
 ·refine wp_mono (bH9 Z (n+3) K hL hy c1 c2 (.head _) n0 n1 n2 hb J) (fun r' m' q=>wp_mono q (fun p_1 m' q=>?_) fun y_ y_ q=>q) fun y_ y_ q=>q
  rcases p_1 with ⟨f,r1⟩
  cases f with
  | ret v=>exact q.elim
  | next=>exact q
  | cont=>exact q
 ·rintro r m3 ⟨a,T,t1,q7,x8,x9,x10,e,er,H,ne,I,X,w,tl⟩
  subst er
  rw [List.append_nil] at e
  have al:a.length <= 12:=by
   rw [<- e,aQ3];exact Nat.le_trans (aP3 _ _) (bS c2)
  refine bY (t:=decide (cell / 14 % 3 > 0)) (bD (aX rfl rfl rfl)) ?_
  have B0:∀ {m':MH} {t':Tn},Tw m' N p t' ((q7,.list (T.map V.int))::(qh,.list ((eG t.cnt L).map V.int))::B)->Tw m' N p t' B:=fun h=>h.sub fun x hx=>.tail _ (.tail _ hx)
  cases decide (cell / 14 % 3 > 0) with
  | false=>exact cU ⟨t1,num::Ns,B0 H,I.mono (Nat.add_le_add_left (Nat.le_trans (Nat.mul_le_mul_left 4000 al) (by decide)) b),X,Nat.le_refl _⟩
  | true=>
   have k7:=H.has (.head _)
   obtain ⟨T',eT,w',tl'⟩:∃ T':List Int,dT (.ref q7) .none .none (.int (1 - 2 * (cell / 42 % 2))) m3=alloc (.list (T'.map V.int)) m3 /\ Wt t1 T' /\ T'.length=T.length:=by
    rcases cN5 (x:=cell / 42) with hm | hm
    ·refine ⟨T,?_,w,rfl⟩
     unfold dT;dsimp only;rw [k7,hm];rfl
    ·refine ⟨T.reverse,?_,w.rev,List.length_reverse⟩
     unfold dT;dsimp only;rw [k7,hm,List.map_reverse];rfl
   refine aG0 T' V.int (aF (aI (aC rfl (aI (aC rfl (aI (aC rfl (aI (aE (a:=.int (1 - 2 * (cell / 42 % 2))) (m':=m3) (aZ rfl (aZ rfl rfl (aD4 (.inl (by decide)))) rfl) (aB8 eT (aM fun q8 m4 l4 k4 g4=>aG (eI k4 ?_))))))))))))
   have H4:=H.new l4 k4 g4
   refine ⟨SB N p q8 (fun x=>[some (.ref p),some (.int t.cnt),some (.ref q2),some (.int cell),some (.ref q4),some (.int y),some (.int num),some (.ref q7),x8,x9,x10,x]) ((q8,.list (T'.map V.int))::B) L (num::Ns) t (b+4000 * a.length) T'.length,rfl,⟨t1,none,rfl,H4.sub fun x hx=>?_,by rw [Nat.sub_self];exact I,X,w',Nat.le_refl _⟩,?_,?_,?_⟩
   ·rcases List.mem_cons.mp hx with rfl | hx
    ·exact .head _
    ·exact .tail _ (.tail _ (.tail _ hx))
   ·rintro zs r m' ⟨t2,x,er,H,I,X,w,zl⟩
    exact cV (H.has (.head _))
   ·rintro z zs r m' ⟨t2,x,er,H,I,X,w,zl⟩
    subst er
    rcases w.2 z (.head _) with ⟨l,hl⟩
    rw [List.length_cons] at zl I
    refine aC rfl (fD (bJ Z H rfl rfl rfl (aC rfl (aU (aM5 Z n H I hl (Nat.lt_of_le_of_lt (b_sum al (tl'▸tl) zl) hb)) fun u m5 z_=>cU ?_))))
    rcases z_ with ⟨t3,H3,I3,X3,q3⟩
    exact ⟨t3,some (.int z),rfl,H3,I3.mono (dG1 zl),X.trans X3,w.next q3,Nat.le_of_succ_le zl⟩
   ·rintro r m' ⟨t2,x,er,H,I,X,w,zl⟩
    exact cU ⟨t2,num::Ns,H.tail,I.mono (by rw [List.length_nil,Nat.sub_zero];exact b_end al (tl'▸tl)),X,Nat.le_refl _⟩
end
end Mini
namespace Mini
open PySem
noncomputable def bG8 (kS kL:Nat):List CS:=[
 (.asg (.one (.one 5)) (.comp (.var 11) (.one 11) 1 .range [(.var 1)] [(.val (.cmp (.var 11) [.NotIn] [(.var 2)]))])),
 (.asg (.one (.one 6)) (.bin .Mod (.var 3) (.cnst (Lt.int 8)))),
 (.asg (.one (.one 7)) (.bin .FloorDiv (.var 3) (.cnst (Lt.int 8)))),
 (.ite (.all true [(.val (.cmp (.var 6) [.Lt] [(.cnst (Lt.int 2))])),(.val (.cmp (.var 5) [.NotEq] [(.list [])]))]) [
  (.asg (.one (.one 8)) (.idx (.var 5) (.bin .Mod (.var 7) (.bi .len [(.var 5)])))),
  (.exp (.meth (.var 0) 0 [(.var 8),(.idx (.var 4) (.bin .Mod (.bin .FloorDiv (.var 7) (.cnst (Lt.int 12))) (.cnst (Lt.int 2))))])),
  (.ret (.list [(.tup [(.var 8),(.idx (.var 4) (.bin .Mod (.bin .FloorDiv (.var 7) (.cnst (Lt.int 12))) (.cnst (Lt.int 2))))])]))] []),
 (.ite (.all true [(.val (.cmp (.var 6) [.Eq] [(.cnst (Lt.int 2))])),(.val (.cmp (.var 2) [.NotEq] [(.list [])]))]) [
  (.exp (.call kS [(.var 0),(.var 1),(.var 2),(.var 7),(.var 4)]))] [
  (.ite (.all true [(.val (.cmp (.var 6) [.Eq] [(.cnst (Lt.int 3))])),(.val (.cmp (.var 2) [.NotEq] [(.list [])]))]) [
   (.exp (.call kL [(.var 0),(.var 1),(.var 2),(.var 7),(.var 4)]))] [
   (.for_ .range (.one 9) [(.bin .Add (.cnst (Lt.int 1)) (.bin .Mod (.var 7) (.cnst (Lt.int 9))))] [
    (.asg (.one (.one 10)) (.meth (.var 0) 19 [])),
    (.ite (.val (.cmp (.var 10) [.NotEq] [(.list [])])) [
     (.exp (.meth (.var 0) 18 [(.idx (.idx (.var 10) (.bin .Mod (.bin .Add (.bin .FloorDiv (.var 7) (.cnst (Lt.int 9))) (.bin .Mult (.cnst (Lt.int 5)) (.var 9))) (.bi .len [(.var 10)]))) (.cnst (Lt.int 0)))]))] [])])])]),
 (.ret (.list []))]
noncomputable def cW5 (x:Int×Str):V:=.tup [.int x.1,.str x.2]
noncomputable def dH7 (v:V) (m':MH) (N:HN) (p:Nat) (t:Tn) (L:List Int) (Ns:List Int) (b:Nat) (B:List (Nat×MObj)):Prop:=∃ q cs t' Ns',v=.ref q /\ Tw m' N p t' ((q,.list (cs.map cW5))::B) /\ t'.In L Ns' b /\ Did t t' cs /\ Ns'.length <= Ns.length+1
section
variable {S:Sig} {N:HN} {m:MH} {t:Tn} {L Ns:List Int} {p b q2 q4:Nat} {B:List (Nat×MObj)} {R:List Str}
inductive DB (N:HN) (p:Nat) (r0:Option V->Option V->Lo) (B:List (Nat×MObj)) (L Ns:List Int) (t0:Tn) (b:Nat) (n:Nat) (zs:List Nat) (r:Lo) (m':MH):Prop
 | mk (a:List Nat) (t:Tn) (x y:Option V) (e:List.range n=a++zs) (er:r=r0 x y) (H:Tw m' N p t B) (I:t.In L Ns (b+300 * a.length)) (X:t0.Ext t)
theorem bR2 {α:Type} {l:List α} {f:α->V} (h:(l.map f).isEmpty=false):0 < l.length:=by
 cases l with
 | nil=>cases h
 | cons a l=>exact Nat.succ_pos _
theorem cZ9 (hl:R.length=2) (x:Int):∃ s∈R,at_ (R.map V.str) (x % 2)=some (.str s):=by
 rcases aM7 (xs:=R.map V.str) (x:=x) (n:=2) (by decide) (by rw [List.length_map,hl];rfl) with ⟨v,h1,h2⟩
 rcases List.mem_map.mp h2 with ⟨s,hs,rfl⟩
 exact ⟨s,hs,h1⟩
theorem cI1 {F:Fns} {r:Lo} {a e:CE} {x:Int} {s:Str} (h:at_ (R.map V.str) (x % 2)=some (.str s)) (hp:m[q4]?=some (.list (R.map V.str))) (ha:ev S F a r m=.ok (.ref q4) m) (he:ev S F e r m=.ok (.int x) m):ev S F (.idx a (.bin .Mod e (.cnst (Lt.int 2)))) r m=.ok (.str s) m:=
 eF ha (aZ he rfl (dM (by decide))) (bT2 hp h (md60 (by decide) (by decide)))
theorem Left.up {m':MH} {b':Nat} (h:Left m' N p t L Ns b B) (k:b <= b'):Left m' N p t L Ns b' B:=by
 rcases h with ⟨t',Ns',h1,h2,h3,h4⟩
 exact ⟨t',Ns',h1,h2.mono k,h3,h4⟩
theorem cU7 (Z:TF S N) {kf kS kL:Nat} (h:cM S kf 5 11 (bG8 kS kL)) (hS:cM S kS 5 12 aQ5) (hl:cM S kL 5 10 b_llie) (n:Nat) {cell:Int} (H:Tw m N p t B) (I:t.In L Ns b) (K:Bs B L R q2 q4) (hL:∀ x∈L,0 <= x /\ x < t.cnt) (hc:0 <= cell) (hn:Ns.length <= 100) (hb:b+100000 < lid):Wp (run S (n+9) kf [.ref p,.int t.cnt,.ref q2,.int cell,.ref q4]) m (fun u m'=>dH7 u m' N p t L Ns (b+100000) B) nox:=by
 have k2:=H.has K.li
 have c1:=I.ok.c1
 have c2:=I.ok.c2
 refine bN h rfl (aW (bQ6 rfl rfl (fun y_=>rfl) k2 c1 c2 fun qh m1 l1 kh gh=>?_))
 have H1:=H.new l1 kh gh
 refine aW (aC (a:=.int (cell % 8)) rfl (aW (aC (a:=.int (cell / 8)) rfl ?_)))
 have mo:0 <= cell / 8:=Int.ediv_nonneg hc (by decide)
 generalize cell % 8=way
 generalize cell / 8=more at mo
 have rest:∀ m2,Le m1 m2->Wp (exs S (run S (n+8)) ((bG8 kS kL).drop 4) [some (.ref p),some (.int t.cnt),some (.ref q2),some (.int cell),some (.ref q4),some (.ref qh),some (.int way),some (.int more),none,none,none]) m2 (bK6 fun v m'=>dH7 v m' N p t L Ns (b+100000) B) nox:=by
  intro m2 l2
  have H2:=H1.up l2
  have fin:∀ (r:Lo) (m':MH),Left m' N p t L Ns (b+100000) B->Wp (exs S (run S (n+8)) [(.ret (.list []))] r) m' (bK6 fun v m'=>dH7 v m' N p t L Ns (b+100000) B) nox:=fun r m' h=>by
   rcases h with ⟨t',Ns',h1,h2,h3,h4⟩
   exact bG (bF (aG (aM fun q m'' l k g=>⟨q,[],t',Ns',rfl,h1.new l k g,h2,.no _ h3,h4⟩)))
  have brg:∀ m3,Le m2 m3->Wp (exs S (run S (n+8)) [(.for_ .range (.one 9) [(.bin .Add (.cnst (Lt.int 1)) (.bin .Mod (.var 7) (.cnst (Lt.int 9))))] [
    (.asg (.one (.one 10)) (.meth (.var 0) 19 [])),
    (.ite (.val (.cmp (.var 10) [.NotEq] [(.list [])])) [
     (.exp (.meth (.var 0) 18 [(.idx (.idx (.var 10) (.bin .Mod (.bin .Add (.bin .FloorDiv (.var 7) (.cnst (Lt.int 9))) (.bin .Mult (.cnst (Lt.int 5)) (.var 9))) (.bi .len [(.var 10)]))) (.cnst (Lt.int 0)))]))] [])]),(.ret (.list []))] [some (.ref p),some (.int t.cnt),some (.ref q2),some (.int cell),some (.ref q4),some (.ref qh),some (.int way),some (.int more),none,none,none]) m3 (bK6 fun v m'=>dH7 v m' N p t L Ns (b+100000) B) nox:=by
   intro m3 l3
   have H3:=H2.up l3
   have u0:0 <= more % 9:=md0 (by decide)
   have u1:more % 9 < 9:=md1 (by decide)
   have u9:1+more % 9 <= 9:=Int.add_le_add_left (Int.lt_add_one_iff.mp u1:more % 9 <= 8) 1
   have n9:(List.range (1+more % 9).toNat).length <= 9:=by rw [List.length_range];exact bS u9
   refine aG0 (List.range (1+more % 9).toNat) (fun (j:Nat)=>V.int (0+(j:Int))) (aF (aC (a:=.int (1+more % 9)) rfl (aG (aE (aN6 (Nat.lt_of_lt_of_le (fK (c:=10) (Int.add_nonneg (by decide) u0) (Int.lt_add_one_iff.mpr u9) (by decide)) (by decide))) ?_))))
   refine ⟨DB N p (fun x y=>[some (.ref p),some (.int t.cnt),some (.ref q2),some (.int cell),some (.ref q4),some (.ref qh),some (.int way),some (.int more),none,x,y]) B L Ns t b (1+more % 9).toNat,rfl,⟨[],t,none,none,rfl,rfl,H3.tail,I,.refl _⟩,fun y_ y_ y_ y_=>rfl,?_,?_⟩
   ·rintro j js r m4 ⟨a,t1,x,y,e,er,H,I,X⟩
    subst er
    have al:a.length < 9:=Nat.lt_of_lt_of_le (bS3 e) n9
    have bb:b+300 * a.length+300 < lid:=Nat.lt_of_le_of_lt (b300 al (by decide)) hb
    refine aC rfl (aW (bJ Z H rfl rfl rfl (aC rfl (aU (aN5 Z (n+6) H I.ok (Nat.lt_of_le_of_lt (Nat.le_add_right _ _) bb)) fun u m5 z_=>?_))))
    rcases z_ with ⟨q,eu,H5,l5,g5⟩
    subst eu
    have k5:=H5.has (.head _)
    refine aF9 (bI2 rfl k5 (fun x hx m=>rdT x hx m) fun m6 l6=>?_)
    have k6:=l6.has k5
    have H6:=H5.up l6
    cases hw:t1.lets with
    | nil=>exact cU ⟨a++[j],t1,_,_,by rw [e,List.append_assoc];rfl,rfl,H6.tail,I.mono (by rw [List.length_append];exact Nat.add_le_add_left (Nat.mul_le_mul_left 300 (Nat.le_succ _)) b),X⟩
    | cons x0 xs0=>
     have sl:(0:Int) < ((t1.lets.map aX8).length:Int):=by rw [List.length_map,hw];exact Int.natCast_pos.mpr (Nat.succ_pos _)
     rcases aM7 (xs:=t1.lets.map aX8) (x:=more / 9+5 * (0+(j:Int))) sl rfl with ⟨v,h1,h2⟩
     rcases List.mem_map.mp h2 with ⟨x,hx,rfl⟩
     have e1:ev S (run S (n+8)) (.idx (.idx (.var 10) (.bin .Mod (.bin .Add (.bin .FloorDiv (.var 7) (.cnst (Lt.int 9))) (.bin .Mult (.cnst (Lt.int 5)) (.var 9))) (.bi .len [(.var 10)]))) (.cnst (Lt.int 0))) [some (.ref p),some (.int t.cnt),some (.ref q2),some (.int cell),some (.ref q4),some (.ref qh),some (.int way),some (.int more),none,some (.int (0+(j:Int))),some (.ref q)] m6=.ok (.int x.1) m6:=by
      refine eF (eF rfl (aZ (aZ rfl (aZ rfl rfl (aD4 (.inl (by decide)))) rfl) (aG4 rfl k6) (dM sl)) (bT2 k6 h1 (mdl sl ?_))) rfl rfl
      rw [List.length_map]
      exact Int.ofNat_le.mpr (Nat.le_trans I.ok.lk.ll (Nat.le_of_lt (Nat.lt_of_le_of_lt (Nat.le_add_right _ _) bb)))
     refine fD (bJ Z H6 rfl rfl rfl (aE (aP e1 rfl) (aU (aM5 Z (n+1) H6 I (l:=x.2) hx bb) fun u m7 z_=>cU ?_)))
     rcases z_ with ⟨t3,H7,I3,X3,q3⟩
     exact ⟨a++[j],t3,_,_,by rw [e,List.append_assoc];rfl,rfl,H7.tail,I3.mono (by rw [List.length_append];exact Nat.le_of_eq (Nat.add_assoc _ _ _)),X.trans X3⟩
   ·rintro r m4 ⟨a,t1,x,y,e,er,H,I,X⟩
    have al:a.length <= 9:=by rw [List.append_nil] at e;rw [<- e];exact n9
    exact fin r m4 ⟨t1,Ns,H,I.mono (Nat.add_le_add_left (Nat.le_trans (Nat.mul_le_mul_left 300 al) (by decide)) b),X,Nat.le_succ _⟩
  have k22:=H2.has (.tail _ K.li)
  have thr:∀ m3,Le m2 m3->Wp (exs S (run S (n+8)) [(.ite (.all true [(.val (.cmp (.var 6) [.Eq] [(.cnst (Lt.int 3))])),(.val (.cmp (.var 2) [.NotEq] [(.list [])]))]) [
   (.exp (.call kL [(.var 0),(.var 1),(.var 2),(.var 7),(.var 4)]))] [
   (.for_ .range (.one 9) [(.bin .Add (.cnst (Lt.int 1)) (.bin .Mod (.var 7) (.cnst (Lt.int 9))))] [
    (.asg (.one (.one 10)) (.meth (.var 0) 19 [])),
    (.ite (.val (.cmp (.var 10) [.NotEq] [(.list [])])) [
     (.exp (.meth (.var 0) 18 [(.idx (.idx (.var 10) (.bin .Mod (.bin .Add (.bin .FloorDiv (.var 7) (.cnst (Lt.int 9))) (.bin .Mult (.cnst (Lt.int 5)) (.var 9))) (.bi .len [(.var 10)]))) (.cnst (Lt.int 0)))]))] [])])]),(.ret (.list []))] [some (.ref p),some (.int t.cnt),some (.ref q2),some (.int cell),some (.ref q4),some (.ref qh),some (.int way),some (.int more),none,none,none]) m3 (bK6 fun v m'=>dH7 v m' N p t L Ns (b+100000) B) nox:=by
   intro m3 l3
   refine aF9 (aL5 (cE (aC (a:=(way == 3)) rfl ?_)))
   cases way == 3 with
   | false=>exact aD7 (brg m3 l3)
   | true=>
    refine eA (cE (bI2 rfl (l3.has k22) (fun x hx m=>rdI x hx m) fun m4 l4=>?_))
    cases hw:(L.map V.int).isEmpty with
    | true=>exact aD7 (brg m4 (l3.trans l4))
    | false=>
     refine eA (aC rfl (fD (aC1 (aC rfl (aU (cR2 Z hl (n+3) (H2.tail.up (l3.trans l4)) I K hL (bR2 hw) mo (Nat.lt_of_le_of_lt (Nat.add_le_add_left (by decide) b) hb)) fun u m5 z=>fin _ m5 (z.up (Nat.add_le_add_left (by decide) b)))))))
  refine aF9 (aL5 (cE (aC (a:=(way == 2)) rfl ?_)))
  cases way == 2 with
  | false=>exact aD7 (thr m2 (.refl _))
  | true=>
   refine eA (cE (bI2 rfl k22 (fun x hx m=>rdI x hx m) fun m4 l4=>?_))
   cases hw:(L.map V.int).isEmpty with
   | true=>exact aD7 (thr m4 l4)
   | false=>
    refine eA (aC rfl (fD (aC1 (aC rfl (aU (bZ9 Z hS n (H2.tail.up l4) I K hL (bR2 hw) mo hb) fun u m5 z=>fin _ m5 z)))))
 refine aF9 (aL5 (cE (aC (a:=decide (way < 2)) rfl ?_)))
 cases decide (way < 2) with
 | false=>exact aD7 (rest m1 (.refl _))
 | true=>
  refine eA (cE (bI2 rfl kh (fun x hx m=>rdI x hx m) fun m2 l2=>?_))
  cases hw:((eG t.cnt L).map V.int).isEmpty with
  | true=>exact aD7 (rest m2 l2)
  | false=>
   refine eA (aC rfl ?_)
   have H2:=H1.up l2
   rcases bQ2 (S:=S) (F:=run S (n+8)) (r:=[some (.ref p),some (.int t.cnt),some (.ref q2),some (.int cell),some (.ref q4),some (.ref qh),some (.int way),some (.int more),none,none,none]) (a:=.var 5) (e:=.var 7) (x:=more) rfl (H2.has (.head _)) rfl (bR2 hw) (Nat.le_trans (Nat.le_trans (aP3 _ _) (bS c2)) (by decide)) with ⟨y,e5,hy⟩
   rcases I.honest hy with ⟨i,s,hs,eo⟩
   refine aW (aE e5 ?_)
   rcases cZ9 K.len (more / 12) with ⟨rr,hr,hat⟩
   have er:=cI1 (S:=S) (F:=run S (n+8)) (r:=[some (.ref p),some (.int t.cnt),some (.ref q2),some (.int cell),some (.ref q4),some (.ref qh),some (.int way),some (.int more),some (.int y),none,none]) (a:=.var 4) (e:=.bin .FloorDiv (.var 7) (.cnst (Lt.int 12))) hat (H2.has (.tail _ K.ro)) rfl rfl
   have rb:=K.row rr hr
   have rl:rr.length <= 64:=by
    have:(cW3 rr&&rr.cps.toList.all okC)=true:=rb
    rw [Bool.and_eq_true] at this
    have:=this.1
    unfold cW3 at this
    rw [Bool.and_eq_true,decide_eq_true_iff,decide_eq_true_iff] at this
    exact Nat.le_trans (Int.ofNat_le.mp this.2) (by decide)
   refine fD (bJ Z H2 rfl rfl rfl (aE (aP rfl (aP er rfl)) ?_))
   rw [<- eo]
   refine aU (bZ1 Z n H2 I.ok hs rb rl (Nat.lt_of_le_of_lt (Nat.add_le_add_left (by decide) b) hb)) fun u m3 z_=>?_
   rcases z_ with ⟨q,eu,H3⟩
   have I3:=I.call hs rb hn
   have k4:=H3.has (.tail _ (.tail _ K.ro))
   have er':=cI1 (S:=S) (F:=run S (n+8)) (r:=[some (.ref p),some (.int t.cnt),some (.ref q2),some (.int cell),some (.ref q4),some (.ref qh),some (.int way),some (.int more),some (.int s.own),none,none]) (a:=.var 4) (e:=.bin .FloorDiv (.var 7) (.cnst (Lt.int 12))) hat k4 rfl rfl
   refine bG (bF (aE (aP (aY4 (aP rfl (aP er' rfl))) rfl) (aM fun q' m4 l4 k4' g4=>?_)))
   exact ⟨q',[(s.own,rr)],_,s.onw::Ns,rfl,H3.tail.tail.new l4 k4' g4,I3.mono (Nat.add_le_add_left (by decide) b),.call i s rr hs,Nat.le_refl _⟩
end
end Mini
namespace Mini
open PySem
theorem aU1:∀ l:List Int,aB3 (l.map V.int)=some l
 | []=>rfl
 | i::l=>by show (aB3 (l.map V.int)).map _=_;rw [aU1 l];rfl
section
variable {S:Sig} {F:Fns} {r:Lo} {m:MH} {p q:Nat}
theorem w_get {E:Nat->MH->Prop} {e:Nat} {j:Int} {x:V} {d:List (Ky×V)} {Q:V->MH->Prop} (h:m[p]?=some (.dict d e)) (hs:aJ (.int j) d=true) (q:Q ((bP (.int j) d).getD x) m):Wp (dH 1 (.ref p) .get [.int j,x]) m Q E:=by
 refine aE (m':=m) ?_ q
 show (match m[p]? with | some (.dict kvs e)=>aI3 p kvs e .get [.int j,x] m | _=>.bad)=_
 rw [h]
 show (if aJ (.int j) d=true then Res.ok ((bP (.int j) d).getD x) m else .bad)=_
 rw [if_pos hs]
theorem cZ0 (a c:Str):eqV (.str a) (.str c) m=.ok (a == c) m:=rfl
end
end Mini
namespace Mini
open PySem
theorem dD3 (c:Int) (L:List Int):(eG c L).Nodup:=by
 unfold eG aP4
 refine List.Pairwise.filter _ ?_
 refine List.pairwise_map.mpr ?_
 refine List.Pairwise.imp (R:=fun a b=>a≠b) ?_ List.nodup_range
 intro a b q e
 exact q (Int.ofNat_inj.mp e)
theorem dB1 {c:Int} {L:List Int} (c1:1 <= c) (c2:c <= 12):(Tn.new c L).In L [] 0:=by
 have hm:∀ s∈(Tn.new c L).hs,∃ o,0 <= o /\ o < c /\ s=Hs.new c o:=fun s hs=>by
  rcases List.mem_map.mp hs with ⟨o,ho,rfl⟩
  have:=hon_iff.mp ho
  exact ⟨o,this.1,this.2.1,rfl⟩
 have eo:(Tn.new c L).hs.map (·.own)=eG c L:=by
  show ((eG c L).map (Hs.new c)).map (·.own)=_
  rw [List.map_map];exact List.map_id _
 refine ⟨⟨⟨fun s hs=>?_,fun x q=>absurd q List.not_mem_nil,fun w q=>absurd q List.not_mem_nil,fun w q=>absurd q List.not_mem_nil,fun s hs=>?_,fun s hs=>?_⟩,⟨⟨fun x q=>absurd q List.not_mem_nil,Nat.le_refl _,Nat.le_refl _⟩,c1,c2,by rw [eo];exact dD3 c L,fun s hs=>?_,List.Pairwise.nil⟩,eo⟩,fun s hs=>?_,fun s hs v hv=>?_⟩
 all_goals rcases hm s hs with ⟨o,h0,h1,rfl⟩
 ·exact ⟨fun w q=>absurd q List.not_mem_nil,fun w q=>absurd q List.not_mem_nil,fun w q=>absurd q List.not_mem_nil,fun w q=>absurd q List.not_mem_nil,List.Pairwise.nil,fun w q=>absurd q List.not_mem_nil,fun w q=>absurd q List.not_mem_nil,fun w q=>absurd q List.not_mem_nil,List.Pairwise.nil,fun w q=>absurd q List.not_mem_nil⟩
 ·exact ⟨h0,h1,rfl⟩
 ·refine ⟨?_,h0,?_⟩
  ·show (o - o) % c=0
   rw [Int.sub_self,Int.zero_emod]
  ·show o <= 12
   exact Int.le_trans (Int.le_of_lt h1) c2
 ·exact ⟨rfl,Nat.le_refl _⟩
 ·exact ⟨fun w q=>absurd q List.not_mem_nil,fun w q=>absurd q List.not_mem_nil,List.Pairwise.nil,fun n r h=>absurd h (Int.not_le.mpr (by
   have e:(Hs.new c o).marks n r=[]:=List.filter_eq_nil_iff.mpr fun w y_ q=>absurd (of_decide_eq_true q) List.not_mem_nil
   rw [e]
   exact cK1 c1)),fun w q=>absurd q List.not_mem_nil⟩
 ·rcases hv with h | ⟨x,h,_⟩ | ⟨x,h,_⟩
  ·exact absurd h.1 List.not_mem_nil
  ·exact absurd h List.not_mem_nil
  ·exact absurd h List.not_mem_nil
section
variable {S:Sig} {N:HN} {m:MH} {B:List (Nat×MObj)}
theorem cP6 (Z:TF S N) {n:Nat} {r:Lo} {E:Nat->MH->Prop} {Q:V->MH->Prop} {c:Int} {L:List Int} {a l:CE} {ql:Nat} (ha:ev S (run S (n+4)) a r m=.ok (.int c) m) (hl:ev S (run S (n+4)) l r m=.ok (.ref ql) m) (kl:m[ql]?=some (.list (L.map V.int))) (hB:∀ x∈B,m[x.1]?=some x.2) (c1:1 <= c) (c2:c <= 12) (hL:∀ x∈L,0 <= x /\ x < c) (nd:L.Nodup)
  (q:∀ p m',Tw m' N p (Tn.new c L) B->Q (.ref p) m'):Wp (ev S (run S (n+4)) (.new (N.C+2) [a,(.bi .list [l])]) r) m Q E:=by
 have el:ev S (run S (n+4)) (.bi .list [l]) r m=.ok (.ref m.length) (m++[.list (L.map V.int)]):=by
  show Res.bind (Res.bind (ev S (run S (n+4)) l r m) _) _=_
  rw [hl]
  show biV .list [.ref ql] m=_
  unfold biV;dsimp only;rw [kl];rfl
 rcases Z.town with ⟨d,h1,h2,h3,y_⟩
 refine bQ5 (aF (aE ha (aF (aE el (aG ⟨d,N.ki+13,h1,h2,h3,?_⟩)))))
 have kq:(m++[MObj.list (L.map V.int)])[m.length]?=some (.list (L.map V.int)):=cP
 have l1:Le m (m++[.list (L.map V.int)]):=.app _ _
 generalize m++[MObj.list (L.map V.int)]=m1 at kq l1 ⊢
 have l2:Le m1 (m1++[.inst (N.C+2) []]):=.app _ _
 refine wp_mono (aU (bY9 Z n (B:=B) (p:=m1.length) (q:=m.length) cP (fun x hx=>⟨?_,l2.has (l1.has (hB x hx))⟩) (l2.has kq) c1 c2 hL nd) fun u m' z=>z) (fun u m' z=>⟨z.1,q _ _ z.2⟩) fun y_ y_ z=>z
 have:=aS (l1.has (hB x hx))
 exact Nat.ne_of_lt this
end
end Mini
namespace Mini
open PySem
theorem cZ1:∀ {a b:List Int},a.Pairwise (· < ·)->b.Pairwise (· < ·)->(∀ x,x∈a↔x∈b)->a=b
 | [],[],_,_,_=>rfl
 | [],y::b,_,_,h=>absurd ((h y).mpr (.head _)) List.not_mem_nil
 | x::a,[],_,_,h=>absurd ((h x).mp (.head _)) List.not_mem_nil
 | x::a,y::b,ha,hb,h=>by
  have a':=List.pairwise_cons.mp ha
  have b':=List.pairwise_cons.mp hb
  have e:x=y:=by
   rcases List.mem_cons.mp ((h x).mp (.head _)) with e | e
   ·exact e
   ·rcases List.mem_cons.mp ((h y).mpr (.head _)) with q | q
    ·exact q.symm
    ·exact absurd (a'.1 y q) (Int.not_lt.mpr (Int.le_of_lt (b'.1 x e)))
  subst e
  rw [cZ1 a'.2 b'.2 fun z=>⟨fun q=>?_,fun q=>?_⟩]
  ·rcases List.mem_cons.mp ((h z).mp (.tail _ q)) with e | e
   ·exact absurd (a'.1 z q) (by rw [e];exact Int.lt_irrefl _)
   ·exact e
  ·rcases List.mem_cons.mp ((h z).mpr (.tail _ q)) with e | e
   ·exact absurd (b'.1 z q) (by rw [e];exact Int.lt_irrefl _)
   ·exact e
theorem aR6 {a b:List Int} (ha:a.Nodup) (hb:b.Nodup) (h:∀ x,x∈a↔x∈b):sortI a=sortI b:=
 cZ1 (aN8 ha) (aN8 hb) fun x=>by rw [mem_sortI,mem_sortI];exact h x
theorem aA7:∀ {l:List (Int×Str×List Wo)} {x:Int×Str×List Wo},(l.map (·.1)).Nodup->x∈l->dF l x.1=x.2.1
 | y::l,x,nd,h=>by
  have n:=List.nodup_cons.mp nd
  unfold dF
  by_cases z:y.1=x.1
  ·rw [List.find?_cons_of_pos (by rw [z];exact beq_self_eq_true _)]
   rcases List.mem_cons.mp h with e | e
   ·rw [e]
   ·exact absurd (List.mem_map.mpr ⟨x,e,z.symm⟩) n.1
  ·rw [List.find?_cons_of_neg (p:=fun z:Int×Str×List Wo=>z.1 == x.1) (fun c=>z (eq_of_beq c))]
   rcases List.mem_cons.mp h with e | e
   ·exact absurd (congrArg Prod.fst e).symm z
   ·exact aA7 n.2 e
theorem cC8 {a b:List (Int×Str×List Wo)} (na:(a.map (·.1)).Nodup) (nb:(b.map (·.1)).Nodup) (h1:∀ x∈a,∃ y∈b,y.1=x.1 /\ y.2.1=x.2.1) (h2:∀ x∈b,∃ y∈a,y.1=x.1 /\ y.2.1=x.2.1):aX2 a=aX2 b:=by
 have e:sortI (a.map (·.1))=sortI (b.map (·.1)):=aR6 na nb fun n=>⟨fun h=>by
  rcases List.mem_map.mp h with ⟨x,hx,rfl⟩
  rcases h1 x hx with ⟨y,hy,e,y_⟩
  exact List.mem_map.mpr ⟨y,hy,e⟩,fun h=>by
  rcases List.mem_map.mp h with ⟨x,hx,rfl⟩
  rcases h2 x hx with ⟨y,hy,e,y_⟩
  exact List.mem_map.mpr ⟨y,hy,e⟩⟩
 unfold aX2 tD
 rw [<- e]
 refine List.map_congr_left fun n hn=>?_
 rcases List.mem_map.mp (mem_sortI.mp hn) with ⟨x,hx,rfl⟩
 rcases h1 x hx with ⟨y,hy,e1,e2⟩
 show (Ky.int x.1,V.str (dF a x.1))=(Ky.int x.1,V.str (dF b x.1))
 rw [aA7 na hx,<- e1,aA7 nb hy,e2]
theorem cC6 {l:List (Int×Str×List Wo)} {x:Int×Str×List Wo} (nd:(l.map (·.1)).Nodup) (hx:x∈l):bP (.int x.1) (aX2 l)=some (.str x.2.1):=by
 have hm:x.1∈sortI (l.map (·.1)):=mem_sortI.mpr (List.mem_map.mpr ⟨x,hx,rfl⟩)
 have hs:((sortI (l.map (·.1))).find? fun y=>id y == x.1).isSome=true:=by rw [List.find?_isSome];exact ⟨x.1,hm,beq_self_eq_true _⟩
 rcases Option.isSome_iff_exists.mp hs with ⟨y,hy⟩
 have e:y=x.1:=eq_of_beq (List.find?_some (p:=fun y=>id y == x.1) hy)
 unfold aX2
 rw [eS,hy,e]
 show some (V.str (dF l x.1))=_
 rw [aA7 nd hx]
section
variable {S:Sig} {F:Fns} {r:Lo} {m:MH} {E:Nat->MH->Prop}
theorem bD4 {src:CE} {k:Nat} {Q:V->MH->Prop} {α:Type} (hk:k=r.length) (h:Wp (ev S F src r) m (fun u m'=>∃ (q:Nat) (zs:List α) (f:α->V) (g:α->Int),u=.ref q /\ m'[q]?=some (.list (zs.map f)) /\ (∀ z m,aQ9 (f z) (.int 0) m=.ok (.int (g z)) m) /\ zs.length <= lid /\ ∀ q' m'',Le m' m''->m''[q']?=some (.list ((zs.map g).map V.int))->m'.length <= q'->Q (.ref q') m'') E):Wp (ev S F (.comp (.idx (.var k) (.cnst (Lt.int 0))) (.one k) 1 .expr [src] []) r) m Q E:=by
 refine aY5 (aF (wp_mono h (fun u m' z_=>?_) fun y_ y_ q=>q))
 rcases z_ with ⟨q,zs,f,g,rfl,kq,hf,zl,fin⟩
 refine aG (eI kq ⟨fun xs l m''=>∃ a b,zs=a++b /\ xs=b.map f /\ l=(a.map g).map V.int /\ m''=m',⟨[],zs,rfl,rfl,rfl,rfl⟩,?_,?_,?_⟩)
 ·rintro xs l m'' ⟨a,b,y_,y_,y_,rfl⟩
  exact cV kq
 ·rintro x xs l m'' ⟨a,b,ez,ex,el,rfl⟩
  cases b with
  | nil=>cases ex
  | cons z b=>
   cases ex
   have ev1:ev S F (.var k) ((r++[none]).set k (some (f z))) m''=.ok (f z) m'':=by
    subst hk
    show (match ((r++[none]).set r.length (some (f z)))[r.length]? with | some (some v)=>ret v | _=>bad) m''=_
    rw [List.getElem?_set_self (by rw [List.length_append];exact Nat.lt_succ_self _)];rfl
   refine aC rfl (aC rfl (eA (aE (eF ev1 rfl (hf z m'')) ⟨a++[z],b,by rw [ez,List.append_assoc];rfl,rfl,?_,rfl⟩)))
   rw [el,List.map_append,List.map_append];rfl
 ·rintro l m'' ⟨a,b,ez,ex,el,rfl⟩
  cases b with
  | cons z b=>cases ex
  | nil=>
   rw [List.append_nil] at ez
   rw [el,<- ez,List.length_map,List.length_map]
   exact ⟨zl,fun q' m3 l3 k3 g3=>fin q' m3 l3 k3 g3⟩
theorem cA0 {p:Nat} {is:List Int} (h:m[p]?=some (.list (is.map V.int))) (hl:is.length < 64):biV .sorted [.ref p] m=alloc (.list ((sortI is).map V.int)) m:=by
 unfold biV;dsimp only;rw [h];dsimp only;rw [aU1];dsimp only;rw [if_pos hl]
end
end Mini
namespace C12
open PySem Mini
noncomputable def dD9:List CS:=[
 (.wh (.val (.cnst (Lt.bool true))) [
  .pass])]
noncomputable def bJ6:List CS:=aC9
noncomputable def aU8:List CS:=bG3 1 0 2
noncomputable def aU9:List CS:=cK8 2
noncomputable def cE9:List CS:=bG7 2 3
noncomputable def cE8:List CS:=aE5 1 2
noncomputable def cF0:List CS:=aE6
noncomputable def bU2:List CS:=aI7 2 1 5 6 3
noncomputable def aV3:List CS:=bF9
noncomputable def aV0:List CS:=bW6 2 1 3
noncomputable def aV2:List CS:=cL0 5 4
noncomputable def aV1:List CS:=cK9 8
noncomputable def aI0:List CS:=aW8
noncomputable def aH9:List CS:=aW5 4
noncomputable def aK0:List CS:=bG4
noncomputable def aK1:List CS:=bG5
noncomputable def aI1:List CS:=[
 (.exp (.call 0 [(.cnst (Lt.int 0))]))]
noncomputable def aK2:List CS:=bG9
noncomputable def bA2:List CS:=bW4
noncomputable def bA1:List CS:=cK7
noncomputable def aU7:List CS:=bG2 1 7
noncomputable def aJ9:List CS:=bW3
noncomputable def aZ9:List CS:=bW1 2 1 3 8
noncomputable def aQ1:List CS:=bG6 1 3
noncomputable def aZ8:List CS:=cK6
noncomputable def bA0:List CS:=bW2
noncomputable def aU6:List CS:=bG0
noncomputable def bJ4:List CS:=dG2 1 7 3 5 6
noncomputable def aJ7:List CS:=bW0
noncomputable def aP9:List CS:=bG1
noncomputable def aQ0:List CS:=aW6
noncomputable def aJ8:List CS:=[
 (.exp (.call 0 [(.cnst (Lt.int 1))]))]
noncomputable def aQ2:List CS:=aW7
noncomputable def cE7:List CS:=b_at
noncomputable def bA3:List CS:=aC9
noncomputable def bU0:List CS:=b_row
noncomputable def bA5:List CS:=aQ6
noncomputable def bA6:List CS:=cG4
noncomputable def bA4:List CS:=aQ5
noncomputable def bU1:List CS:=b_llie
noncomputable def bJ5:List CS:=bG8 38 39
noncomputable def aH8:List CS:=[
 (.for_ .range (.one 2) [(.cnst (Lt.int 12))] [
  (.asg (.one (.one 3)) (.comp (.idx (.var 4) (.cnst (Lt.int 0))) (.one 4) 1 .expr [(.meth (.var 0) 19 [])] [])),
  (.ite (.val (.cmp (.var 3) [.Eq] [(.list [])])) [
   (.ret (.cnst (Lt.bool true)))] []),
  (.wh (.val (.cmp (.var 3) [.NotEq] [(.list [])])) [
   (.exp (.meth (.var 0) 18 [(.smeth (.var 3) .pop [(.bin .Mod (.var 1) (.bi .len [(.var 3)]))])])),
   (.asg (.one (.one 1)) (.bin .Mod (.bin .Add (.bin .Mult (.var 1) (.cnst (Lt.int 48271))) (.cnst (Lt.int 7))) (.cnst (Lt.int 2147483647))))])]),
 (.ret (.cnst (Lt.bool false)))]
noncomputable def f_law:List CS:=[
 (.asg (.one (.one 1)) (.bi .abs [(.call 33 [(.var 0),(.cnst (Lt.int 0))])])),
 (.asg (.one (.one 2)) (.idx (.list [(.cnst (Lt.int 4)),(.cnst (Lt.int 4)),(.bin .Add (.cnst (Lt.int 1)) (.bin .Mod (.bin .FloorDiv (.var 1) (.cnst (Lt.int 9))) (.cnst (Lt.int 5))))]) (.bin .Mod (.var 1) (.cnst (Lt.int 3))))),
 (.ite (.val (.cmp (.bin .Mod (.var 1) (.cnst (Lt.int 9))) [.Eq] [(.cnst (Lt.int 4))])) [
  (.asg (.one (.one 2)) (.cnst (Lt.int 7)))] []),
 (.asg (.one (.one 3)) (.call 36 [(.call 33 [(.var 0),(.cnst (Lt.int 1))]),(.var 2),(.bin .FloorDiv (.bin .Sub (.var 2) (.cnst (Lt.int 1))) (.cnst (Lt.int 3)))])),
 (.asg (.one (.one 4)) (.comp (.call 35 [(.bin .Mod (.bi .abs [(.call 33 [(.var 0),(.cnst (Lt.int 2))])]) (.cnst (Lt.int 100003))),(.var 14)]) (.one 14) 1 .range [(.cnst (Lt.int 2))] [])),
 (.asg (.one (.one 5)) (.new 10 [(.var 2),(.bi .list [(.var 3)])])),
 (.asg (.one (.one 6)) (.list [])),
 (.for_ .expr (.one 7) [(.slice (.var 0) (.cnst (Lt.int 4)) (.cnst (Lt.int 12)) (.cnst Lt.none))] [
  (.asg (.one (.one 6)) (.bin .Add (.var 6) (.call 40 [(.var 5),(.var 2),(.var 3),(.bi .abs [(.var 7)]),(.var 4)])))]),
 (.ite (.not (.val (.call 41 [(.var 5),(.bi .abs [(.call 33 [(.var 0),(.cnst (Lt.int 3))])])]))) [
  (.ret (.cnst (Lt.bool false)))] []),
 (.asg (.one (.one 8)) (.comp (.var 14) (.one 14) 1 .range [(.var 2)] [(.val (.cmp (.var 14) [.NotIn] [(.var 3)]))])),
 (.asg (.one (.one 9)) (.meth (.var 5) 5 [(.idx (.var 8) (.cnst (Lt.int 0)))])),
 (.asg (.one (.one 10)) (.bi .sorted [(.comp (.idx (.var 14) (.cnst (Lt.int 0))) (.one 14) 1 .expr [(.meth (.var 5) 7 [(.idx (.var 8) (.cnst (Lt.int 0)))])] [])])),
 (.for_ .expr (.one 11) [(.var 8)] [
  (.ite (.all false [(.val (.cmp (.meth (.var 5) 5 [(.var 11)]) [.NotEq] [(.var 9)])),(.val (.cmp (.bi .sorted [(.comp (.idx (.var 14) (.cnst (Lt.int 0))) (.one 14) 1 .expr [(.meth (.var 5) 7 [(.var 11)])] [])]) [.NotEq] [(.var 10)]))]) [
   (.ret (.cnst (Lt.bool false)))] []),
  (.asg (.one (.one 12)) (.comp (.var 15) (.many [14,15]) 2 .expr [(.var 6)] [(.val (.cmp (.var 14) [.Eq] [(.var 11)]))])),
  (.for_ .range (.one 13) [(.bi .len [(.var 12)])] [
   (.ite (.val (.cmp (.smeth (.var 9) .get [(.bin .Add (.var 11) (.bin .Mult (.var 2) (.var 13))),(.cnst (Lt.str (Str.ofString "")))]) [.NotEq] [(.idx (.var 12) (.var 13))])) [
    (.ret (.cnst (Lt.bool false)))] [])])]),
 (.ret (.cmp (.meth (.var 5) 19 []) [.Eq] [(.list [])]))]
noncomputable def sig:Sig:={
 fns:=[
  { name:=(Str.ofString "_wall"),np:=1,names:=[(Str.ofString "k")],body:=dD9 },
  { name:=(Str.ofString "is_whole"),np:=1,names:=[(Str.ofString "thing")],body:=bJ6 },
  { name:=(Str.ofString "need_count"),np:=1,names:=[(Str.ofString "count")],body:=aU8 },
  { name:=(Str.ofString "most_liars"),np:=1,names:=[(Str.ofString "count")],body:=aU9 },
  { name:=(Str.ofString "enough"),np:=1,names:=[(Str.ofString "count")],body:=cE9 },
  { name:=(Str.ofString "is_row"),np:=1,names:=[(Str.ofString "thing"),(Str.ofString "sign")],body:=cE8 },
  { name:=(Str.ofString "caller"),np:=2,names:=[(Str.ofString "count"),(Str.ofString "number")],body:=cF0 },
  { name:=(Str.ofString "is_word"),np:=2,names:=[(Str.ofString "count"),(Str.ofString "thing")],body:=bU2 },
  { name:=(Str.ofString "are_unlike"),np:=2,names:=[(Str.ofString "one"),(Str.ofString "other")],body:=aV3 },
  { name:=(Str.ofString "__init__"),np:=3,names:=[(Str.ofString "self"),(Str.ofString "count"),(Str.ofString "own")],body:=aV0 },
  { name:=(Str.ofString "call"),np:=2,names:=[(Str.ofString "self"),(Str.ofString "row"),(Str.ofString "word")],body:=aV2 },
  { name:=(Str.ofString "hear"),np:=2,names:=[(Str.ofString "self"),(Str.ofString "word"),(Str.ofString "ahead")],body:=aV1 },
  { name:=(Str.ofString "marking"),np:=2,names:=[(Str.ofString "self"),(Str.ofString "word"),(Str.ofString "mark")],body:=aI0 },
  { name:=(Str.ofString "writing"),np:=3,names:=[(Str.ofString "self"),(Str.ofString "number"),(Str.ofString "row"),(Str.ofString "marks")],body:=aH9 },
  { name:=(Str.ofString "naming"),np:=3,names:=[(Str.ofString "self"),(Str.ofString "word"),(Str.ofString "ahead")],body:=aK0 },
  { name:=(Str.ofString "ledger"),np:=1,names:=[(Str.ofString "self"),(Str.ofString "found"),(Str.ofString "number")],body:=aK1 },
  { name:=(Str.ofString "backing"),np:=2,names:=[(Str.ofString "self"),(Str.ofString "number")],body:=aI1 },
  { name:=(Str.ofString "caught"),np:=1,names:=[(Str.ofString "self")],body:=aK2 },
  { name:=(Str.ofString "__init__"),np:=1,names:=[(Str.ofString "self")],body:=bA2 },
  { name:=(Str.ofString "send"),np:=2,names:=[(Str.ofString "self"),(Str.ofString "letter"),(Str.ofString "number")],body:=bA1 },
  { name:=(Str.ofString "bring"),np:=2,names:=[(Str.ofString "self"),(Str.ofString "number")],body:=aU7 },
  { name:=(Str.ofString "waiting"),np:=1,names:=[(Str.ofString "self")],body:=aJ9 },
  { name:=(Str.ofString "__init__"),np:=3,names:=[(Str.ofString "self"),(Str.ofString "count"),(Str.ofString "liars"),(Str.ofString "told"),(Str.ofString "house")],body:=aZ9 },
  { name:=(Str.ofString "honest"),np:=2,names:=[(Str.ofString "self"),(Str.ofString "house")],body:=aQ1 },
  { name:=(Str.ofString "tell"),np:=3,names:=[(Str.ofString "self"),(Str.ofString "house"),(Str.ofString "words"),(Str.ofString "word"),(Str.ofString "other")],body:=aZ8 },
  { name:=(Str.ofString "call"),np:=3,names:=[(Str.ofString "self"),(Str.ofString "house"),(Str.ofString "row"),(Str.ofString "words")],body:=bA0 },
  { name:=(Str.ofString "bring"),np:=2,names:=[(Str.ofString "self"),(Str.ofString "number"),(Str.ofString "letter")],body:=aU6 },
  { name:=(Str.ofString "lie"),np:=4,names:=[(Str.ofString "self"),(Str.ofString "house"),(Str.ofString "receiver"),(Str.ofString "word")],body:=bJ4 },
  { name:=(Str.ofString "waiting"),np:=1,names:=[(Str.ofString "self")],body:=aJ7 },
  { name:=(Str.ofString "spoken"),np:=1,names:=[(Str.ofString "self")],body:=aP9 },
  { name:=(Str.ofString "ledger"),np:=2,names:=[(Str.ofString "self"),(Str.ofString "house")],body:=aQ0 },
  { name:=(Str.ofString "backing"),np:=3,names:=[(Str.ofString "self"),(Str.ofString "house"),(Str.ofString "number")],body:=aJ8 },
  { name:=(Str.ofString "caught"),np:=2,names:=[(Str.ofString "self"),(Str.ofString "house")],body:=aQ2 },
  { name:=(Str.ofString "_law_at"),np:=2,names:=[(Str.ofString "_law_script"),(Str.ofString "_law_k")],body:=cE7 },
  { name:=(Str.ofString "_law_whole"),np:=1,names:=[(Str.ofString "_law_thing")],body:=bA3 },
  { name:=(Str.ofString "_law_row"),np:=2,names:=[(Str.ofString "_law_base"),(Str.ofString "_law_k"),(Str.ofString "_law_letters"),(Str.ofString "_law_turned"),(Str.ofString "_law_size"),(Str.ofString "_law_tail"),(Str.ofString "_law_at_here")],body:=bU0 },
  { name:=(Str.ofString "_law_liars"),np:=3,names:=[(Str.ofString "_law_cell"),(Str.ofString "_law_count_here"),(Str.ofString "_law_many"),(Str.ofString "_law_left"),(Str.ofString "_law_found")],body:=bA5 },
  { name:=(Str.ofString "_law_count"),np:=1,names:=[(Str.ofString "_law_cell")],body:=bA6 },
  { name:=(Str.ofString "_law_split"),np:=5,names:=[(Str.ofString "_law_town"),(Str.ofString "_law_count_here"),(Str.ofString "_law_liars_here"),(Str.ofString "_law_cell"),(Str.ofString "_law_rows"),(Str.ofString "_law_liar"),(Str.ofString "_law_number"),(Str.ofString "_law_told"),(Str.ofString "_law_k"),(Str.ofString "_law_house"),(Str.ofString "_law_row_here"),(Str.ofString "_law_letter")],body:=bA4 },
  { name:=(Str.ofString "_law_lie"),np:=5,names:=[(Str.ofString "_law_town"),(Str.ofString "_law_count_here"),(Str.ofString "_law_liars_here"),(Str.ofString "_law_cell"),(Str.ofString "_law_rows"),(Str.ofString "_law_liar"),(Str.ofString "_law_receiver"),(Str.ofString "_law_number"),(Str.ofString "_law_word"),(Str.ofString "_law_spoken")],body:=bU1 },
  { name:=(Str.ofString "_law_deed"),np:=5,names:=[(Str.ofString "_law_town"),(Str.ofString "_law_count_here"),(Str.ofString "_law_liars_here"),(Str.ofString "_law_cell"),(Str.ofString "_law_rows"),(Str.ofString "_law_honest"),(Str.ofString "_law_way"),(Str.ofString "_law_more"),(Str.ofString "_law_house"),(Str.ofString "_law_k"),(Str.ofString "_law_waiting")],body:=bJ5 },
  { name:=(Str.ofString "_law_bring_all"),np:=2,names:=[(Str.ofString "_law_town"),(Str.ofString "_law_cell"),(Str.ofString "_law_turn"),(Str.ofString "_law_waiting")],body:=aH8 },
  { name:=(Str.ofString "law"),np:=1,names:=[(Str.ofString "_law_script"),(Str.ofString "_law_first"),(Str.ofString "_law_count_here"),(Str.ofString "_law_liars_here"),(Str.ofString "_law_texts"),(Str.ofString "_law_town"),(Str.ofString "_law_called"),(Str.ofString "_law_cell"),(Str.ofString "_law_honest"),(Str.ofString "_law_rows"),(Str.ofString "_law_names"),(Str.ofString "_law_house"),(Str.ofString "_law_mine"),(Str.ofString "_law_k")],body:=f_law }],
 cls:=[
  { name:=(Str.ofString "ValueError"),init:=none,meths:=[],exc:=false,supers:=[0] },
  { name:=(Str.ofString "HouseError"),init:=none,meths:=[],exc:=true,supers:=[1,0] },
  { name:=(Str.ofString "BadCount"),init:=none,meths:=[],exc:=true,supers:=[2,1,0] },
  { name:=(Str.ofString "BadHouse"),init:=none,meths:=[],exc:=true,supers:=[3,1,0] },
  { name:=(Str.ofString "BadRow"),init:=none,meths:=[],exc:=true,supers:=[4,1,0] },
  { name:=(Str.ofString "BadWord"),init:=none,meths:=[],exc:=true,supers:=[5,1,0] },
  { name:=(Str.ofString "Forged"),init:=none,meths:=[],exc:=true,supers:=[6,1,0] },
  { name:=(Str.ofString "NoLetter"),init:=none,meths:=[],exc:=true,supers:=[7,1,0] },
  { name:=(Str.ofString "House"),init:=some 9,meths:=[(0,10),(1,11),(2,12),(3,13),(4,14),(5,15),(6,16),(7,17)],exc:=false,supers:=[8] },
  { name:=(Str.ofString "Post"),init:=some 18,meths:=[(17,19),(18,20),(19,21)],exc:=false,supers:=[9] },
  { name:=(Str.ofString "Town"),init:=some 22,meths:=[(22,23),(23,24),(0,25),(18,26),(24,27),(19,28),(25,29),(5,30),(6,31),(7,32)],exc:=false,supers:=[10] }],
 attrs:=[(Str.ofString "call"),(Str.ofString "hear"),(Str.ofString "marking"),(Str.ofString "writing"),(Str.ofString "naming"),(Str.ofString "ledger"),(Str.ofString "backing"),(Str.ofString "caught"),(Str.ofString "count"),(Str.ofString "own"),(Str.ofString "onward"),(Str.ofString "known"),(Str.ofString "marked"),(Str.ofString "rows"),(Str.ofString "backings"),(Str.ofString "named"),(Str.ofString "blames"),(Str.ofString "send"),(Str.ofString "bring"),(Str.ofString "waiting"),(Str.ofString "given"),(Str.ofString "letters"),(Str.ofString "honest"),(Str.ofString "tell"),(Str.ofString "lie"),(Str.ofString "spoken"),(Str.ofString "houses"),(Str.ofString "post"),(Str.ofString "said")],
 globs:=[((Str.ofString "MOST_HOUSES"),(Lt.int 12)),((Str.ofString "LETTERS"),(Lt.str (Str.ofString "abcdefghijklmnopqrstuvwxyz"))),((Str.ofString "MOST_SIGNS"),(Lt.int 8)),((Str.ofString "MOST_NUMBER"),(Lt.int 9999))] }
end C12
namespace Mini
open PySem
namespace P12
open C12
noncomputable abbrev N:HN:={ C:=8,kW:=1,kN:=2,kM:=3,kE:=4,kR:=5,kU:=8,ki:=9,cC:=2,cH:=3,cR:=4,cN:=0,gM:=0,gL:=1,gS:=2 }
theorem hf:HF sig N:=⟨⟨_,rfl,rfl,rfl,rfl⟩,⟨_,rfl,rfl,rfl,rfl⟩,⟨_,rfl,rfl,rfl,rfl⟩,⟨_,rfl,rfl,rfl,rfl⟩,⟨_,rfl,rfl,rfl,rfl⟩,⟨_,rfl,rfl,rfl,rfl⟩,⟨_,rfl,rfl,rfl,rfl⟩,⟨_,rfl,rfl,rfl,rfl⟩,⟨_,rfl,rfl,rfl,rfl⟩,⟨_,rfl,rfl,rfl,rfl⟩,⟨_,rfl,rfl,rfl,rfl⟩,⟨_,rfl,rfl,rfl,rfl⟩,⟨_,rfl,rfl,rfl,rfl⟩,⟨_,rfl,rfl,rfl,rfl⟩,⟨_,rfl⟩,⟨_,rfl⟩,⟨_,rfl⟩,
 ⟨_,rfl,rfl,rfl,by decide⟩⟩
theorem tf:TF sig N:=⟨hf,⟨_,rfl,rfl,rfl,rfl⟩,⟨_,rfl,rfl,rfl,rfl⟩,⟨_,rfl⟩,⟨_,rfl,rfl,rfl,rfl⟩,⟨_,rfl,rfl,rfl,rfl⟩,⟨_,rfl,rfl,rfl,rfl⟩,⟨_,rfl,rfl,rfl,rfl⟩,⟨_,rfl,rfl,rfl,rfl⟩,⟨_,rfl,rfl,rfl,rfl⟩,⟨_,rfl,rfl,rfl,rfl⟩,⟨_,rfl,rfl,rfl,rfl⟩,⟨_,rfl,rfl,rfl,rfl⟩,⟨_,rfl,rfl,rfl,rfl⟩,⟨_,rfl,rfl,rfl,rfl⟩,⟨_,rfl,rfl,rfl,rfl⟩,⟨_,rfl,rfl,rfl,rfl⟩,⟨_,rfl,rfl,rfl,rfl⟩,
 ⟨_,rfl,rfl,rfl,rfl,rfl,rfl⟩,⟨_,rfl,rfl,rfl,rfl⟩⟩
theorem f_at:cM sig 33 2 2 b_at:=⟨_,rfl,rfl,rfl,rfl⟩
theorem f_row:cM sig 35 2 7 b_row:=⟨_,rfl,rfl,rfl,rfl⟩
theorem cT5:cM sig 36 3 5 aQ6:=⟨_,rfl,rfl,rfl,rfl⟩
theorem cT4:cM sig 38 5 12 aQ5:=⟨_,rfl,rfl,rfl,rfl⟩
theorem f_lie:cM sig 39 5 10 b_llie:=⟨_,rfl,rfl,rfl,rfl⟩
theorem dE0:cM sig 40 5 11 (bG8 38 39):=⟨_,rfl,rfl,rfl,rfl⟩
theorem bU3 {l:List Int} {k:Nat} (nd:l.Nodup) (h:k < l.length) (j:Int):(j∈l↔j=l[k] \/ j∈l.eraseIdx k) /\ l[k]∉l.eraseIdx k:=by
 have pm:=aC6 h
 refine ⟨by rw [<- pm.mem_iff];exact List.mem_cons,?_⟩
 exact (List.nodup_cons.mp (pm.nodup_iff.mpr nd)).1
section
variable {m:MH} {L Ns:List Int} {p b:Nat} {t:Tn} {B:List (Nat×MObj)}
inductive WI (p:Nat) (B:List (Nat×MObj)) (L Ns:List Int) (t1:Tn) (C b0 qw:Nat) (x:Option V) (k:Nat) (r:Lo) (m':MH):Prop
 | mk (W:List Int) (t:Tn) (b:Nat) (cell:Int) (er:r=[some (.ref p),some (.int cell),x,some (.ref qw)]) (hk:k=W.length) (H:Tw m' N p t ((qw,.list (W.map V.int))::B)) (I:t.In L Ns b) (X:t1.Ext t) (R:Rd t1 W t) (nd:W.Nodup) (sub:∀ j∈W,∃ l,(j,l)∈t1.lets) (po:b+t.lets.length <= C+26 * t.us) (bl:b0 <= b)
inductive RI (p:Nat) (B:List (Nat×MObj)) (L Ns:List Int) (t0:Tn) (C b0:Nat) (zs:List Nat) (r:Lo) (m':MH):Prop
 | mk (a:List Nat) (t:Tn) (b:Nat) (cell:Int) (x y:Option V) (e:List.range 12=a++zs) (er:r=[some (.ref p),some (.int cell),x,y]) (H:Tw m' N p t B) (I:t.In L Ns b) (X:t0.Ext t) (cv:Cv a.length L t) (po:b+t.lets.length <= C+26 * t.us) (bl:b0 <= b) (al:a.length <= 11)
noncomputable def b_wh:List CS:=[
      (.exp (.meth (.var 0) 18 [(.smeth (.var 3) .pop [(.bin .Mod (.var 1) (.bi .len [(.var 3)]))])])),
      (.asg (.one (.one 1)) (.bin .Mod (.bin .Add (.bin .Mult (.var 1) (.cnst (Lt.int 48271))) (.cnst (Lt.int 7))) (.cnst (Lt.int 2147483647))))]
theorem cI9 {b l C U n k:Nat} (po:b+l <= C+26 * U) (ul:U <= 12 * (13 * n+2 * k)) (hn:n <= 8) (hl:k <= 3) (hC:C <= 1600000):b+300 < lid:=by
 exact Nat.lt_of_le_of_lt (Nat.add_le_add_right (Nat.le_trans (Nat.le_add_right b l) (Nat.le_trans po (Nat.add_le_add hC (Nat.mul_le_mul_left 26 (Nat.le_trans ul (Nat.mul_le_mul_left 12 (Nat.add_le_add (Nat.mul_le_mul_left 13 hn) (Nat.mul_le_mul_left 2 hl)))))))) 300) (by decide)
theorem cP5 {b l l' C U U' d:Nat} (po:b+l <= C+26 * U) (pd:d+l'+26 * U <= l+26 * U'):b+d+l' <= C+26 * U':=by lia
theorem cE5 {b0 b l l0 U n k:Nat} (po:b+l <= b0+l0+26 * U) (bl:b0 <= b) (ll:l0 <= b0) (hb:b0 <= 800000) (ul:U <= 12 * (13 * n+2 * k)) (hn:n <= 8) (hl:k <= 3):l < 1000000:=by
 have h:l <= l0+26 * U:=Nat.le_of_add_le_add_left (a:=b0) (Nat.le_trans (Nat.add_le_add_right bl l) (by rw [<- Nat.add_assoc];exact po))
 exact Nat.lt_of_le_of_lt (Nat.le_trans h (Nat.add_le_add (Nat.le_trans ll hb) (Nat.mul_le_mul_left 26 (Nat.le_trans ul (Nat.mul_le_mul_left 12 (Nat.add_le_add (Nat.mul_le_mul_left 13 hn) (Nat.mul_le_mul_left 2 hl))))))) (by decide)
theorem bI3 (n:Nat) {t1:Tn} {C b0 b1 qw k:Nat} {x:Option V} {r:Lo} {Q:Fl×Lo->MH->Prop} (I1:t1.In L Ns b1) (hn:Ns.length <= 8) (hl:L.length <= 3) (hC:C <= 1600000) (hB:∀ x∈B,x.1≠qw) (J:WI p B L Ns t1 C b0 qw x (k+1) r m) :
  Wp (exs sig (run sig (n+8)) b_wh r) m (aX1 Q (WI p B L Ns t1 C b0 qw x) k) nox:=by
 rcases J with ⟨W,t,b,cell,er,hk,H,I,X,R,nd,sub,po,bl⟩
 subst er
 have kw:=H.has (.head _)
 have ul:=I.us_le
 have bb:=cI9 po ul hn hl hC
 have wp:0 < W.length:=by rw [<- hk];exact Nat.succ_pos _
 have wl:(0:Int) < (W.length:Int):=Int.natCast_pos.mpr wp
 have wb:W.length <= lid:=by
  have h1:(t.lets.map (·.1)).length <= lid:=by rw [List.length_map];exact Nat.le_trans I.ok.lk.ll (Nat.le_of_lt (Nat.lt_of_le_of_lt (Nat.le_add_right _ _) bb))
  refine Nat.le_trans (nd.length_le_of_subset fun j hj=>?_) h1
  rcases sub j hj with ⟨l,hl⟩
  exact List.mem_map.mpr ⟨_,R.le _ hl hj,rfl⟩
 have al:(cell % (W.length:Int)).toNat < W.length:=mdN wl (Int.le_refl _)
 have em:ev sig (run sig (n+8)) (.bin .Mod (.var 1) (.bi .len [(.var 3)])) [some (.ref p),some (.int cell),x,some (.ref qw)] m=.ok (.int (cell % (W.length:Int))) m:=
  aZ rfl ((aG4 (xs:=W.map V.int) rfl kw).trans (by rw [List.length_map])) (dM wl)
 have ae:(W.map V.int)[(cell % (W.length:Int)).toNat]?=some (.int W[(cell % (W.length:Int)).toNat]):=by rw [List.getElem?_map,List.getElem?_eq_getElem al];rfl
 refine fD (bJ tf H rfl rfl rfl (aF (dL (aC rfl ⟨0,bO9 kw,rfl,aF (aE em (aG (cH0 kw (md0 wl) ae (mdl wl (Int.ofNat_le.mpr wb)) (aG ?_))))⟩))))
 rw [aI2]
 have er:=bU3 nd al
 have H1:=H.set (.list ((W.eraseIdx (cell % (W.length:Int)).toNat).map V.int)) hB
 have nd':(W.eraseIdx (cell % (W.length:Int)).toNat).Nodup:=nd.sublist (List.eraseIdx_sublist ..)
 have le':k=(W.eraseIdx (cell % (W.length:Int)).toNat).length:=by rw [List.length_eraseIdx_of_lt al,<- hk];rfl
 generalize W.eraseIdx (cell % (W.length:Int)).toNat=W' at er H1 nd' le' ⊢
 rcases sub _ (List.getElem_mem al) with ⟨l,h0⟩
 have hkl:=R.le _ h0 (List.getElem_mem al)
 generalize W[(cell % (W.length:Int)).toNat]=num at er h0 hkl ⊢
 refine aU (bF8 tf (n+1) H1 I hkl bb) fun u m2 z_=>?_
 rcases z_ with ⟨t',H2,br⟩
 rcases br.fine I hkl with ⟨d,I2,X2,pd⟩
 refine aW (aE (aZ (aZ (aZ rfl rfl (aD4 (.inr (by decide)))) rfl rfl) rfl (dM (by decide))) (cU ⟨W',t',b+d,_,rfl,le',H2,I2,X.trans X2,R.step br I I1 h0 (fun j=>(er j).1) (er 0).2,nd',fun j hj=>sub j ((er j).1.mpr (.inr hj)),?_,Nat.le_trans bl (Nat.le_add_right _ _)⟩))
 exact cP5 po pd
theorem dA4 {S:Sig} {F:Fns} {r:Lo} {E:Nat->MH->Prop} {a:CE} {q:Nat} {xs:List V} {Q:Bool->MH->Prop} (ha:ev S F a r m=.ok (.ref q) m) (hp:m[q]?=some (.list xs)) (hx:∀ x∈xs,∀ m,∃ d,rd 11 m x=some d) (h:∀ m',Le m m'->Q xs.isEmpty m'):Wp (evT S F (.val (.cmp a [.Eq] [.list []])) r) m Q E:=by
 refine aG5 (aG6 (aE ha (bF (aG (aM fun q' m' l k g=>?_)))))
 exact aE (show aI9 .Eq _ _ _=_ from bU4 (fun x hx'=>hx x hx' m') (l.has hp) k) (aC rfl (h m' l))
theorem cG2 (n:Nat) {cell:Int} (H:Tw m N p t B) (I:t.In L Ns b) (hn:Ns.length <= 8) (hl:L.length <= 3) (hb:b <= 800000):Wp (run sig (n+9) 41 [.ref p,.int cell]) m (fun u m'=>u=.bool true /\ ∃ t' b',Tw m' N p t' B /\ t'.In L Ns b' /\ t.Ext t' /\ t'.lets=[] /\ b' < lid) nox:=by
 have ll:=I.ok.lk.ll
 refine cG8 rfl rfl (aG0 (List.range 12) (fun (j:Nat)=>V.int (0+(j:Int))) (aF (aC rfl (aG (aE (aN6 (n:=12) (by decide)) ⟨RI p B L Ns t (b+t.lets.length) b,rfl,⟨[],t,b,cell,none,none,rfl,rfl,H,I,.refl _,.inl rfl,Nat.le_add_right _ _,Nat.le_refl _,Nat.zero_le _⟩,fun y_ y_ y_ y_=>rfl,?_,?_⟩)))))
 ·rintro j js r m1 ⟨a,t1,b1,cell,x,y,e,er,H,I,X,cv,po,bl,al⟩
  subst er
  have ul:=I.us_le
  have hC:b+t.lets.length <= 1600000:=Nat.add_le_add hb (Nat.le_trans ll hb)
  have bb:b1 < lid:=Nat.lt_of_le_of_lt (Nat.le_add_right _ _) (cI9 po ul hn hl hC)
  refine aC rfl (aW (bD4 (α:=Int×Lr) rfl (bJ tf H rfl rfl rfl (aC rfl (aU (aN5 tf (n+6) H I.ok bb) fun u m2 z_=>?_)))))
  rcases z_ with ⟨q,eu,H2,l2,g2⟩
  refine ⟨q,t1.lets,aX8,(·.1),eu,H2.has (.head _),fun z m=>rfl,Nat.le_trans I.ok.lk.ll (Nat.le_of_lt bb),fun qw m3 l3 k3 g3=>?_⟩
  have H3:=H2.tail.new l3 k3 g3
  have nq:∀ x∈B,x.1≠qw:=fun x hx=>Nat.ne_of_lt (Nat.lt_of_lt_of_le (aS (H2.tail.has hx)) g3)
  refine aF9 (dA4 rfl k3 (fun x hx m=>rdI x hx m) fun m4 l4=>?_)
  have H4:=H3.up l4
  by_cases z:t1.lets=[]
  ·rw [z]
   exact bG (aC rfl ⟨rfl,t1,b1,H4.tail,I,X,z,bb⟩)
  ·have ez:((t1.lets.map (·.1)).map V.int).isEmpty=false:=by
    cases h:t1.lets with
    | nil=>exact absurd h z
    | cons y_ y_=>rfl
   rw [ez]
   have i10:=cv.end_ hl z
   have nd:(t1.lets.map (·.1)).Nodup:=I.ok.as.imp fun h=>Int.ne_of_lt h
   refine s_wh (WI p B L Ns t1 (b+t.lets.length) b qw (some (.int (0+(j:Int))))) (t1.lets.map (·.1)).length ?_ ⟨_,t1,b1,cell,rfl,rfl,H4,I,.refl _,.new t1,nd,fun j hj=>?_,po,bl⟩ ?_
   ·rw [List.length_map];exact cE5 po bl ll hb ul hn hl
   ·rcases List.mem_map.mp hj with ⟨y,hy,rfl⟩
    exact ⟨y.2,hy⟩
   ·rintro k r m5 ⟨W,t2,b2,cell,er,hk,H,I2,X2,R,nd,sub,po,bl⟩
    subst er
    refine bI2 rfl (H.has (.head _)) (fun x hx m=>rdI x hx m) fun m6 l6=>?_
    cases W with
    | nil=>
     refine aD7 (cU ⟨a++[j],t2,b2,cell,_,_,by rw [e,List.append_assoc];rfl,rfl,(H.up l6).tail,I2,X.trans X2,?_,po,bl,?_⟩)
     ·rw [List.length_append];exact cv.next R I I2 X2.cnt
     ·rw [List.length_append];exact Nat.succ_le_succ i10
    | cons w W=>
     refine eA ⟨W.length,hk,?_⟩
     exact bI3 n I hn hl hC nq ⟨w::W,t2,b2,cell,rfl,rfl,H.up l6,I2,X2,R,nd,sub,po,bl⟩
 ·rintro r m1 ⟨a,t1,b1,cell,x,y,e,er,H,I,X,cv,po,bl,al⟩
  rw [List.append_nil] at e
  rw [<- e,List.length_range] at al
  exact absurd al (by decide)
end
end P12
end Mini
namespace Mini
open PySem
namespace P12
open C12
section
variable {S:Sig} {F:Fns} {m:MH} {E:Nat->MH->Prop} {L Ns:List Int} {p b:Nat} {t:Tn} {B:List (Nat×MObj)}
theorem cP7 {a0 a1 a2 a3 a4 a5 a7 a8 a9 a10 a12 a13:Option V} {Q:V->MH->Prop} {qc:Nat} {o:Int} {cs:List (Int×Str)} (kc:m[qc]?=some (.list (cs.map cW5))) (hl:cs.length <= 1000)
  (fin:∀ q m',Le m m'->m'[q]?=some (.list ((bU cs o).map fun x=>V.str x.2))->m.length <= q->Q (.ref q) m'):Wp (ev S F (.comp (.var 15) (.many [14,15]) 2 .expr [(.var 6)] [(.val (.cmp (.var 14) [.Eq] [(.var 11)]))]) [a0,a1,a2,a3,a4,a5,some (.ref qc),a7,a8,a9,a10,some (.int o),a12,a13]) m Q E:=by
 refine aY5 (aF (aC rfl (aG (eI kc ⟨fun xs l m'=>∃ a c,cs=a++c /\ xs=c.map cW5 /\ l=(bU a o).map (fun x=>V.str x.2) /\ m'=m,⟨[],cs,rfl,rfl,rfl,rfl⟩,?_,?_,?_⟩))))
 ·rintro xs l m' ⟨a,c,y_,y_,y_,rfl⟩
  exact cV kc
 ·rintro x xs l m' ⟨a,c,ez,ex,el,rfl⟩
  cases c with
  | nil=>cases ex
  | cons z c=>
   cases ex
   refine aC rfl (aP2 (aC (a:=(z.1 == o)) rfl ?_))
   have en:cs=(a++[z])++c:=by rw [ez,List.append_assoc];rfl
   cases hz:z.1 == o with
   | true=>
    refine eA (aC rfl ⟨a++[z],c,en,rfl,?_,rfl⟩)
    unfold bU
    rw [List.filter_append,List.filter_cons_of_pos (p:=fun x:Int×Str=>x.1 == o) hz,List.filter_nil,List.map_append,el];rfl
   | false=>
    refine aD7 ⟨a++[z],c,en,rfl,?_,rfl⟩
    unfold bU
    rw [List.filter_append,List.filter_cons_of_neg (p:=fun x:Int×Str=>x.1 == o) (by rw [hz];exact Bool.false_ne_true),List.filter_nil,List.append_nil,el]
 ·rintro l m' ⟨a,c,ez,ex,el,rfl⟩
  cases c with
  | cons z c=>cases ex
  | nil=>
   rw [List.append_nil] at ez
   subst ez
   rw [el,List.length_map]
   exact ⟨Nat.le_trans (List.length_filter_le _ _) (bM hl (by decide)),fun q m3 l3 k3 g3=>fin q m3 l3 k3 g3⟩
theorem bD2 (n:Nat) {r:Lo} {a:CE} {s:Hs} {i k:Nat} {Q:V->MH->Prop} (H:Tw m N p t B) (I:t.In L Ns b) (hs:t.hs[i]?=some s) (hl:L.length <= 3) (hk:k=r.length) (ho:ev sig (run sig (n+3)) (.var 5) r m=.ok (.ref p) m) (ha:ev sig (run sig (n+3)) a r m=.ok (.int s.own) m)
  (fin:∀ q m',Tw m' N p t ((q,.list ((sortI (s.named.map (·.1))).map V.int))::B)->Le m m'->m.length <= q->Q (.ref q) m'):Wp (ev sig (run sig (n+3)) (.bi .sorted [(.comp (.idx (.var k) (.cnst (Lt.int 0))) (.one k) 1 .expr [(.meth (.var 5) 7 [a])] [])]) r) m Q E:=by
 have hm:=List.mem_of_getElem? hs
 have h3:s.named.length <= 3:=by
  rw [<- List.length_map (f:=fun x:Int×Wo×Wo=>x.1)]
  refine Nat.le_trans ((I.fine.hs s hm).na.length_le_of_subset fun n hn=>?_) hl
  rcases List.mem_map.mp hn with ⟨x,hx,rfl⟩
  exact (I.named hm x hx).1
 refine aS4 (aF (bD4 (α:=Int×Wo×Wo) hk (bJ tf H ho rfl rfl (aE (aP ha rfl) (aU (bH7 tf n H I.ok hs) fun u m1 z_=>?_)))))
 rcases z_ with ⟨q,eu,H1,l1,g1⟩
 refine ⟨q,s.named,_,(·.1),eu,H1.has (.head _),fun z m=>rfl,bM h3 (by decide),fun q2 m2 l2 k2 g2=>?_⟩
 refine aG (aB8 (cA0 k2 (by rw [List.length_map];exact Nat.lt_of_le_of_lt h3 (by decide))) (aM fun q3 m3 l3 k3 g3=>?_))
 exact fin q3 m3 ((H1.tail.up l2).new l3 k3 g3) ((l1.trans l2).trans l3) (Nat.le_trans (Nat.le_trans l1.1 l2.1) g3)
end
end P12
end Mini
namespace Mini
open PySem
namespace P12
open C12
noncomputable abbrev rw0 (ns:List Int) (f c:Int) (ql qt p qc:Nat) (x7:Option V) (qh qr qn:Nat) (x11 x12 x13:Option V):Lo:=[some (.scr ns),some (.int f),some (.int c),some (.ref ql),some (.ref qt),some (.ref p),some (.ref qc),x7,some (.ref qh),some (.ref qr),some (.ref qn),x11,x12,x13]
inductive HI (ns:List Int) (f:Int) (ql qt p qc:Nat) (x7:Option V) (qh qr qn:Nat) (t:Tn) (L:List Int) (B:List (Nat×MObj)) (zs:List Int) (r:Lo) (m':MH):Prop
 | mk (x11 x12 x13:Option V) (er:r=rw0 ns f t.cnt ql qt p qc x7 qh qr qn x11 x12 x13) (H:Tw m' N p t B) (hz:∀ z∈zs,z∈eG t.cnt L)
noncomputable def bW5:List CS:=[
      (.ite (.val (.cmp (.smeth (.var 9) .get [(.bin .Add (.var 11) (.bin .Mult (.var 2) (.var 13))),(.cnst (Lt.str (Str.ofString "")))]) [.NotEq] [(.idx (.var 12) (.var 13))])) [
        (.ret (.cnst (Lt.bool false)))] [])]
noncomputable def cV4:List CS:=[
  (.ite (.all false [(.val (.cmp (.meth (.var 5) 5 [(.var 11)]) [.NotEq] [(.var 9)])),(.val (.cmp (.bi .sorted [(.comp (.idx (.var 14) (.cnst (Lt.int 0))) (.one 14) 1 .expr [(.meth (.var 5) 7 [(.var 11)])] [])]) [.NotEq] [(.var 10)]))]) [
   (.ret (.cnst (Lt.bool false)))] []),
  (.asg (.one (.one 12)) (.comp (.var 15) (.many [14,15]) 2 .expr [(.var 6)] [(.val (.cmp (.var 14) [.Eq] [(.var 11)]))])),
  (.for_ .range (.one 13) [(.bi .len [(.var 12)])] bW5)]
section
variable {m:MH} {L Ns:List Int} {p b:Nat} {t:Tn} {B:List (Nat×MObj)} {ns:List Int} {f:Int} {ql qt qc qh qr qn er:Nat} {x7:Option V} {s0 s1:Hs} {cs:List (Int×Str)}
theorem cP9 (n:Nat) {q4:Nat} {j:Nat} {Q:Fl×Lo->MH->Prop} (I:t.In L Ns b) (ez:t.lets=[]) (few:(L.length:Int) <= (t.cnt - 1) / 3) (cd:Cd t cs) (h0:s0∈t.hs) (h1:s1∈t.hs) (hr:m[qr]?=some (.dict (aX2 s0.rows) er)) (h4:m[q4]?=some (.list ((bU cs s1.own).map fun x=>V.str x.2))) (hj:j < (bU cs s1.own).length) (jl:j < 1000)
  (q:Q (.next,rw0 ns f t.cnt ql qt p qc x7 qh qr qn (some (.int s1.own)) (some (.ref q4)) (some (.int (0+(j:Int))))) m):Wp (exs sig (run sig n) bW5 (rw0 ns f t.cnt ql qt p qc x7 qh qr qn (some (.int s1.own)) (some (.ref q4)) (some (.int (0+(j:Int)))))) m Q nox:=by
 have hx:=List.getElem?_eq_getElem hj
 generalize (bU cs s1.own)[j]=x at hx
 rcases I.call_same ez few h1 h0 (cd.kn s1 h1 j x hx) with ⟨y,hy,e1,e2⟩
 have el:(bP (.int (s1.own+t.cnt * (0+(j:Int)))) (aX2 s0.rows)).getD (.str (Str.ofString ""))=.str x.2:=by
  rw [Int.zero_add,<- e1,cC6 (I.fine.hs s0 h0).ro hy,e2];rfl
 have c1:=I.ok.c1
 have c2:=I.ok.c2
 have em:ev sig (run sig n) (.bin .Add (.var 11) (.bin .Mult (.var 2) (.var 13))) (rw0 ns f t.cnt ql qt p qc x7 qh qr qn (some (.int s1.own)) (some (.ref q4)) (some (.int (0+(j:Int))))) m=.ok (.int (s1.own+t.cnt * (0+(j:Int)))) m:=aZ rfl (aZ rfl rfl (aD4 (.inl (aI4 c1 c2)))) rfl
 have ea:at_ ((bU cs s1.own).map fun x=>V.str x.2) (0+(j:Int))=some (.str x.2):=by
  unfold at_
  rw [Int.zero_add,if_pos (Int.natCast_nonneg j),Int.toNat_natCast,List.getElem?_map,hx];rfl
 refine aF9 (aG5 (aG6 (dL (aC rfl ⟨1,cZ4 hr,rfl,aE (aP em (aP rfl rfl)) (w_get hr (bB _ _ _ _) ?_)⟩))))
 refine aE (eF rfl rfl (bT2 h4 ea (Nat.lt_of_lt_of_le (by rw [Int.zero_add];exact jl) (by decide:1000 <= 2 ^ 60)))) (aE (a:=false) (m':=m) (aO7 ?_) (aC rfl (cU q)))
 show eqV ((bP (.int (s1.own+t.cnt * (0+(j:Int)))) (aX2 s0.rows)).getD (.str (Str.ofString ""))) (.str x.2) m=_
 rw [el,cZ0,beq_self_eq_true]
theorem bQ8 (n:Nat) {z:Int} {zs:List Int} {r:Lo} (I:t.In L Ns b) (ez:t.lets=[]) (few:(L.length:Int) <= (t.cnt - 1) / 3) (hl:L.length <= 3) (hn:Ns.length <= 8) (cd:Cd t cs) (cl:cs.length <= 8) (h0:s0∈t.hs) (hr:(qr,.dict (aX2 s0.rows) er)∈B) (hq:(qn,.list ((sortI (s0.named.map (·.1))).map V.int))∈B) (hc:(qc,.list (cs.map cW5))∈B) (J:HI ns f ql qt p qc x7 qh qr qn t L B (z::zs) r m) :
  Wp (aE1 (.one 11) (.int z) r) m (fun r' m'=>Wp (exs sig (run sig (n+9)) cV4 r') m' (fun p_1 m'=>match p_1.1 with | .ret v=>False | _=>HI ns f ql qt p qc x7 qh qr qn t L B zs p_1.2 m') nox) nox:=by
 rcases J with ⟨x11,x12,x13,er',H,hz⟩
 subst er'
 rcases I.honest (hz z (.head _)) with ⟨i,s1,hs1,eo⟩
 subst eo
 have h1:=List.mem_of_getElem? hs1
 have F0:=I.fine.hs s0 h0
 have F1:=I.fine.hs s1 h1
 have rl:s1.rows.length < 64:=Nat.lt_of_le_of_lt (Nat.le_trans (I.fine.rows h1 I.ok.c1) hn) (by decide)
 have le:aX2 s1.rows=aX2 s0.rows:=cC8 F1.ro F0.ro (fun x hx=>I.rows_same ez few h1 h0 hx) fun x hx=>I.rows_same ez few h0 h1 hx
 have ne:sortI (s1.named.map (·.1))=sortI (s0.named.map (·.1)):=aR6 F1.na F0.na fun x=>⟨fun h=>by
  rcases List.mem_map.mp h with ⟨y,hy,rfl⟩
  exact List.mem_map.mpr (I.names_same ez h1 h0 hy),fun h=>by
  rcases List.mem_map.mp h with ⟨y,hy,rfl⟩
  exact List.mem_map.mpr (I.names_same ez h0 h1 hy)⟩
 have qrl:=aS (H.has hr)
 refine aC rfl (aF9 (aL5 (cE (aG5 (aG6 (bJ tf H rfl rfl rfl (aC rfl (aU (aK6 tf (n+6) H I.ok hs1 rl F1.ro) fun u m1 z_=>?_))))))))
 rcases z_ with ⟨q1,e1,eu,H1,l1,g1⟩
 subst eu
 rw [le] at H1
 refine aC rfl (aE (aO7 (cF3 (H1.has (.head _)) (H1.has (.tail _ hr)) (Nat.ne_of_gt (Nat.lt_of_lt_of_le qrl g1)) rfl (bT1 _ _ _) (bT1 _ _ _) cC7)) (aC rfl (eA (cE (aG5 (aG6 (bD2 (n+6) H1 I hs1 hl rfl rfl rfl fun q2 m2 H2 l2 g2=>?_)))))))
 rw [ne] at H2
 refine aC rfl (aE (aO7 (eq_rf (fun x hx=>?_) (H2.has (.head _)) (H2.has (.tail _ (.tail _ hq))))) (aC rfl (eA (aC rfl ?_))))
 ·rcases List.mem_map.mp hx with ⟨k,y_,rfl⟩
  exact dA0 k
 have H2:=H2.tail.tail
 refine aW (cP7 (H2.has hc) (Nat.le_trans cl (by decide)) fun q4 m4 l4 k4 g4=>?_)
 have H4:=H2.up l4
 have ml:(bU cs s1.own).length <= 8:=Nat.le_trans (List.length_filter_le _ _) cl
 refine aG0 (List.range (bU cs s1.own).length) (fun (j:Nat)=>V.int (0+(j:Int))) (aF (aE ((aG4 rfl k4).trans (by rw [List.length_map])) (aG (aE (aN6 (Nat.lt_of_le_of_lt ml (by decide))) ⟨fun js r m'=>(∃ x13,r=rw0 ns f t.cnt ql qt p qc x7 qh qr qn (some (.int s1.own)) (some (.ref q4)) x13) /\ (∀ j∈js,j < (bU cs s1.own).length) /\ m'=m4,?_,⟨⟨_,rfl⟩,fun j hj=>List.mem_range.mp hj,rfl⟩,fun y_ y_ y_ y_=>rfl,?_,?_⟩))))
 ·rw [Int.toNat_natCast]
 ·rintro j js r m5 ⟨⟨x13,rfl⟩,hj,rfl⟩
  have jl:=hj j (.head _)
  exact aC rfl (cP9 (n+9) I ez few cd h0 h1 (H4.has hr) k4 jl (Nat.lt_of_lt_of_le jl (Nat.le_trans ml (by decide))) ⟨⟨_,rfl⟩,fun i hi=>hj i (.tail _ hi),rfl⟩)
 ·rintro r m5 ⟨⟨x13,rfl⟩,y_,rfl⟩
  exact cU ⟨_,_,_,rfl,H4,fun z hz'=>hz z (.tail _ hz')⟩
end
end P12
end Mini
namespace Mini
open PySem
namespace P12
open C12
theorem cU8 {α β:Type} (f:α->β) (l:List α) (lo hi:Option Int):cut (l.map f) lo hi=(cut l lo hi).map f:=by
 unfold cut
 dsimp only
 rw [List.length_map,List.map_drop,List.map_take]
theorem cU9 (ns:List Int):(cut ns (some 4) (some 12)).length <= 8:=by
 show ((ns.take (min 12 ns.length)).drop (min 4 ns.length)).length <= 8
 rw [List.length_drop,List.length_take]
 by_cases h:4 <= ns.length
 ·rw [Nat.min_eq_left h]
  exact Nat.sub_le_sub_right (Nat.le_trans (Nat.min_le_left _ _) (Nat.min_le_left _ _)) 4
 ·exact Nat.le_trans (Nat.sub_le _ _) (Nat.le_trans (Nat.min_le_right _ _) (Nat.le_trans (Nat.le_of_lt (Nat.not_le.mp h)) (by decide)))
theorem cN8 {c:Int} (c1:1 <= c) (c7:c <= 7):0 <= (c - 1) / 3 /\ (c - 1) / 3 <= c /\ (c - 1) / 3 <= 3:=by
 have h0:=Int.sub_nonneg_of_le c1
 exact ⟨Int.ediv_nonneg h0 (by decide),Int.le_trans (Int.ediv_le_self _ h0) (Int.sub_le_self _ (by decide)),Int.le_trans (Int.ediv_le_ediv (by decide) (Int.sub_le_sub_right c7 1)) (by decide)⟩
inductive MI (ns:List Int) (f:Int) (p ql qt qz:Nat) (L:List Int) (R:List Str) (c:Int) (zs0 zs:List Int) (r:Lo) (m':MH):Prop
 | mk (k:Nat) (t:Tn) (Ns:List Int) (B:List (Nat×MObj)) (cs:List (Int×Str)) (qc:Nat) (x7:Option V) (er:r=[some (.scr ns),some (.int f),some (.int c),some (.ref ql),some (.ref qt),some (.ref p),some (.ref qc),x7,none,none,none,none,none,none])
   (H:Tw m' N p t ((qc,.list (cs.map cW5))::B)) (K:Bs B L R ql qt) (hz:(qz,.list (zs0.map V.int))∈B) (I:t.In L Ns (k * 100000)) (ec:t.cnt=c) (nl:Ns.length <= k) (kl:k+zs.length <= 8) (cd:Cd t cs) (cl:cs.length <= k)
section
variable {m:MH} {L:List Int} {R:List Str} {p ql qt qz:Nat} {ns:List Int} {f c:Int} {zs0:List Int}
theorem bY7 (n:Nat) {z:Int} {zs:List Int} {r:Lo} (hL:∀ x∈L,0 <= x /\ x < c) (J:MI ns f p ql qt qz L R c zs0 (z::zs) r m) :
  Wp (aE1 (.one 7) (.int z) r) m (fun r' m'=>Wp (exs sig (run sig (n+9)) [
  (.asg (.one (.one 6)) (.bin .Add (.var 6) (.call 40 [(.var 5),(.var 2),(.var 3),(.bi .abs [(.var 7)]),(.var 4)])))] r') m' (fun p_1 m'=>match p_1.1 with | .ret v=>False | _=>MI ns f p ql qt qz L R c zs0 zs p_1.2 m') nox) nox:=by
 rcases J with ⟨k,t,Ns,B,cs,qc,x7,er,H,K,hz,I,ec,nl,kl,cd,cl⟩
 subst er
 subst ec
 rw [List.length_cons] at kl
 have kb:k <= 7:=Nat.le_of_succ_le_succ (Nat.le_trans (Nat.add_le_add_left (Nat.succ_le_succ (Nat.zero_le zs.length)) k) kl)
 have K2:Bs ((qc,.list (cs.map cW5))::B) L R ql qt:=⟨.tail _ K.li,.tail _ K.ro,K.len,K.row,K.ll⟩
 refine aC rfl (aW (aG7 (aC rfl (aC1 (aC rfl ?_)))))
 refine aU (cU7 tf dE0 cT4 f_lie n (cell:=if z < 0 then -z else z) H I K2 hL (dG5 z) (Nat.le_trans nl (Nat.le_trans kb (by decide))) (Nat.lt_of_le_of_lt (Nat.add_le_add_right (Nat.mul_le_mul_right 100000 kb) _) (by decide))) fun u m1 z1=>?_
 rcases z1 with ⟨q,cs',t',Ns',eu,H1,I1,D,nl1⟩
 subst eu
 have dl:cs'.length <= 1:=by cases D <;> exact Nat.le_of_ble_eq_true rfl
 refine aR0 (H1.has (.tail _ (.head _))) (H1.has (.head _)) ?_ fun q2 m2 l2 k2 g2=>?_
 ·rw [List.length_map,List.length_map]
  exact bM (k:=9) (Nat.le_trans (Nat.add_le_add (Nat.le_trans cl kb) dl) (by decide)) (by decide)
 ·rw [<- List.map_append] at k2
  refine cU ⟨k+1,t',Ns',B,cs++cs',q2,_,rfl,H1.tail.tail.new l2 k2 g2,K,hz,I1.mono (Nat.le_of_eq (Nat.succ_mul _ _).symm),D.cnt,Nat.le_trans nl1 (Nat.succ_le_succ nl),by rw [Nat.add_right_comm];exact kl,cd.dn I D,?_⟩
  rw [List.length_append];exact Nat.add_le_add cl dl
theorem dE4 (n:Nat) {r:Lo} (c1:1 <= c) (c7:c <= 7) (few:(L.length:Int) <= (c - 1) / 3) (ll:L.length <= 3) (J:MI ns f p ql qt qz L R c zs0 [] r m):Wp (exs sig (run sig (n+9)) (f_law.drop 8) r) m (bK6 fun v y_=>v=.bool true) nox:=by
 rcases J with ⟨k,t0,Ns,B,cs,qc,x7,er,H0,K,hz,I0,ec,nl,kl,cd,cl⟩
 subst er
 subst ec
 have e3:=fun m=>cG6 f_at (n+8) ns 3 (by decide) m
 refine aF9 (dA3 (aG5 (aC1 (aF (aC rfl (aF (aS4 (aF (aE (fO (vs:=[.scr ns,.int 3]) rfl (e3 _)) (aG (aC (a:=.int (if at0 ns 3 < 0 then -at0 ns 3 else at0 ns 3)) rfl (aG ?_))))))))))))
 rw [List.length_nil] at kl
 refine aU (cG2 n H0 I0 (Nat.le_trans nl kl) ll (Nat.mul_le_mul_right _ kl)) fun u m1 z_=>?_
 rcases z_ with ⟨rfl,t,b,H1,I,X,ez,bb⟩
 refine aC rfl ?_
 have ec:t.cnt=t0.cnt:=X.cnt
 have cd:=cd.ext X
 have hn:Ns.length <= 8:=Nat.le_trans nl kl
 rw [<- ec] at few c7 ⊢
 refine aW (bQ6 rfl rfl (fun y_=>rfl) (H1.has (.tail _ K.li)) I.ok.c1 I.ok.c2 fun qh m2 l2 k2 g2=>?_)
 have H2:=H1.new l2 k2 g2
 obtain ⟨o,os,eh⟩:∃ o os,eG t.cnt L=o::os:=by
  have:=bE8 t.cnt L
  cases h:eG t.cnt L with
  | nil=>
   rw [h,List.length_nil] at this
   have lt:(L.length:Int) < t.cnt:=Int.lt_of_le_of_lt (Int.le_trans few (Int.ediv_le_self _ (Int.sub_nonneg_of_le I.ok.c1))) (Int.sub_lt_self _ (by decide))
   exact absurd lt (Int.not_lt.mpr (Int.le_trans this (Int.le_of_eq (Int.zero_add _))))
  | cons o os=>exact ⟨o,os,rfl⟩
 rcases I.honest (h:=o) (by rw [eh];exact .head _) with ⟨i,s0,hs0,eo⟩
 have h0:=List.mem_of_getElem? hs0
 have F0:=I.fine.hs s0 h0
 subst eo
 have eat:at_ ((eG t.cnt L).map V.int) 0=some (.int s0.own):=by rw [eh];rfl
 have rl:s0.rows.length < 64:=Nat.lt_of_le_of_lt (Nat.le_trans (I.fine.rows h0 I.ok.c1) hn) (by decide)
 refine aW (bJ tf H2 rfl rfl rfl (aE (aP (eF rfl rfl (bT2 k2 eat (by decide))) rfl) (aU (aK6 tf (n+6) H2 I.ok hs0 rl F0.ro) fun u m3 z_=>?_)))
 rcases z_ with ⟨qr,er,eu,H3,l3,g3⟩
 subst eu
 have k3:=H3.has (.tail _ (.head _))
 refine aW (bD2 (n+6) H3 I hs0 ll rfl rfl (eF rfl rfl (bT2 k3 eat (by decide))) fun qn m4 H4 l4 g4=>?_)
 refine aG0 (eG t.cnt L) V.int (aF (aC rfl (aG (eI (H4.has (.tail _ (.tail _ (.head _)))) ⟨HI ns f ql qt p qc x7 qh qr qn t L _,rfl,⟨_,_,_,rfl,H4,fun z hz=>hz⟩,?_,?_,?_⟩))))
 ·rintro zs r m5 ⟨y_,y_,y_,y_,H,y_⟩
  exact cV (H.has (.tail _ (.tail _ (.head _))))
 ·intro z zs r m5 J
  refine wp_mono (bQ8 n I ez few ll hn cd (Nat.le_trans cl kl) h0 (.tail _ (.head _)) (.head _) (.tail _ (.tail _ (.tail _ (.head _)))) J) (fun r' m' q=>wp_mono q (fun p_1 m' q=>?_) fun y_ y_ q=>q) fun y_ y_ q=>q
  rcases p_1 with ⟨f,r1⟩
  cases f with
  | ret v=>exact q.elim
  | next=>exact q
  | cont=>exact q
 ·rintro r m5 ⟨y_,y_,y_,er,H,y_⟩
  subst er
  refine bG (aG6 (bJ tf H rfl rfl rfl (aC rfl (aU (aN5 tf (n+7) H I.ok bb) fun u m6 z_=>?_))))
  rcases z_ with ⟨q,eu,H6,l6,g6⟩
  subst eu
  rw [ez] at H6
  refine bF (aG (aM fun q' m7 l7 k7 g7=>aE (show aI9 .Eq _ _ _=_ from bU4 (xs:=[]) (fun x hx=>absurd hx List.not_mem_nil) (l7.has (H6.has (.head _))) k7) rfl))
theorem swap2 {t:Tn} {a a':Nat×MObj} {B:List (Nat×MObj)} (h:Tw m N p t (a::a'::B)):Tw m N p t (a'::a::B):=h.sub fun x hx=>by
 rcases List.mem_cons.mp hx with rfl | hx
 ·exact .tail _ (.head _)
 ·rcases List.mem_cons.mp hx with rfl | hx
  ·exact .head _
  ·exact .tail _ (.tail _ hx)
theorem dF5 (c:Int) (L:List Int):Cd (Tn.new c L) []:=by
 refine ⟨fun s hs=>?_,fun s hs k x hx=>by cases hx⟩
 rcases List.mem_map.mp hs with ⟨o,y_,rfl⟩
 show o=o+c * 0
 rw [Int.mul_zero,Int.add_zero]
theorem law_holds (n:Nat) (ns:List Int) (hl:ns.length <= 4000):Wp (run sig (n+10) 42 [.scr ns]) [] (fun v y_=>v=.bool true) nox:=by
 have e0:=fun m=>cG6 f_at (n+8) ns 0 (by decide) m
 have e1:=fun m=>cG6 f_at (n+8) ns 1 (by decide) m
 have e2:=fun m=>cG6 f_at (n+8) ns 2 (by decide) m
 refine cG8 rfl rfl (aW (aS4 (aF (aE (fO (vs:=[.scr ns,.int 0]) rfl (e0 _)) (aG (aC (a:=.int (if at0 ns 0 < 0 then -at0 ns 0 else at0 ns 0)) rfl ?_))))))
 generalize (if at0 ns 0 < 0 then -at0 ns 0 else at0 ns 0)=f
 refine aW (aS3 (bF (aC (a:=[.int 4,.int 4,.int (1+f / 9 % 5)]) rfl (aM fun q m1 l k g=>?_))))
 refine aC (a:=.int (f % 3)) rfl ?_
 rcases cL3 (is:=[4,4,1+f / 9 % 5]) (x:=f) (Nat.succ_pos _) with ⟨v,h1,h2⟩
 refine aE (bT2 k h1 (md60 (n:=3) (by decide) (by decide))) ?_
 have hv:1 <= v /\ v <= 7:=by
  simp only [List.mem_cons,List.not_mem_nil,or_false] at h2
  have a:0 <= f / 9 % 5:=md0 (by decide)
  have b:f / 9 % 5 < 5:=md1 (by decide)
  constructor <;> lia
 clear h1 h2
 refine bY (t:=(f % 9 == 4)) rfl ?_
 have main:∀ c:Int,1 <= c->c <= 7->Wp (exs sig (run sig (n+9)) (f_law.drop 3) [some (.scr ns),some (.int f),some (.int c),none,none,none,none,none,none,none,none,none,none,none]) m1 (bK6 fun v y_=>v=.bool true) nox:=by
  intro c c1 c7
  have c12:c <= 12:=Int.le_trans c7 (by decide)
  refine aW (aC1 (aF (aE (fO (vs:=[.scr ns,.int 1]) rfl (e1 _)) (aF (aC rfl (aF (aC (a:=.int ((c - 1) / 3)) rfl (aG (aU (bR9 cT5 (n+8) _ c _ c1 c12 (cN8 c1 c7).1 (cN8 c1 c7).2.1) fun u m2 z_=>?_)))))))))
  rcases z_ with ⟨ql,L,eu,kl,l2,g2,nd,hL,le⟩
  subst eu
  have few:(L.length:Int) <= (c - 1) / 3 /\ L.length <= 3:=⟨Int.le_of_eq le,Int.ofNat_le.mp (by rw [le];exact (cN8 c1 c7).2.2)⟩
  refine aW (bD3 (List.range 2) (fun (j:Nat)=>V.int (0+(j:Int))) (fun (j:Nat)=>V.str (row ((if at0 ns 2 < 0 then -at0 ns 2 else at0 ns 2) % 100003) (0+(j:Int)))) (fun m'=>Le m2 m') (aF (aC rfl (aG (aE (aN6 (n:=2) (by decide)) ⟨rfl,.refl _,fun y_ y_=>rfl,?_,by decide,?_⟩)))))
  ·intro j hj m' l
   refine aC rfl (aC1 (aF (aE (a:=.int ((if at0 ns 2 < 0 then -at0 ns 2 else at0 ns 2) % 100003)) (m':=m') ?_ (aF (aC rfl (aG (cM5 (cZ8 f_row (n+8) _ _ m') fun m'' l'=>⟨rfl,l.trans l'⟩)))))))
   refine aZ (x:=.int (if at0 ns 2 < 0 then -at0 ns 2 else at0 ns 2)) ?_ rfl (dM (by decide))
   show Res.bind (Res.bind (ev sig (run sig (n+9)) (.call 33 [(.var 0),(.cnst (Lt.int 2))]) _ m') _) _=_
   rw [fO (vs:=[.scr ns,.int 2]) rfl (e2 m')];rfl
  intro qt m3' m3 l3' l3 k3 g3
  generalize (if at0 ns 2 < 0 then -at0 ns 2 else at0 ns 2) % 100003=base at k3
  have l23:Le m2 m3:=l3'.trans l3
  have k3:m3[qt]?=some (.list ([row base 0,row base 1].map V.str)):=k3
  have kl3:=l23.has kl
  refine aW (cP6 tf (n:=n+5) (B:=[(ql,.list (L.map V.int)),(qt,.list ([row base 0,row base 1].map V.str))]) rfl rfl kl3 (dQ kl3 (dQ k3 bT9)) c1 c12 hL nd fun p m4 H4=>?_)
  refine aW (bF (aG (aM fun qc m5 l5 k5 g5=>?_)))
  have es:dT (.scr ns) (.int 4) (.int 12) .none m5=alloc (.list ((cut ns (some 4) (some 12)).map V.int)) m5:=by
   show (match cX (ns.map V.int) (.int 4) (.int 12) .none with | some l=>alloc (.list l) m5 | Option.none=>.bad)=_
   have:cX (ns.map V.int) (.int 4) (.int 12) .none=some ((cut ns (some 4) (some 12)).map V.int):=by
    show some (cut (ns.map V.int) (some 4) (some 12))=_
    rw [cU8]
   rw [this]
  refine aG0 (cut ns (some 4) (some 12)) V.int (aF (aI (aC rfl (aI (aC rfl (aI (aC rfl (aI (aC rfl (aB8 es (aM fun qz m6 l6 k6 g6=>aG (eI k6 ?_))))))))))))
  have H6:=swap2 ((H4.new l5 k5 g5).new l6 k6 g6)
  refine ⟨MI ns f p ql qt qz L [row base 0,row base 1] c (cut ns (some 4) (some 12)),rfl,⟨0,_,[],_,[],qc,none,rfl,H6,⟨.tail _ (.head _),.tail _ (.tail _ (.head _)),rfl,dQ (aG1 _ _) (dQ (aG1 _ _) bT9),Nat.le_trans few.2 (by decide)⟩,.head _,dB1 c1 c12,rfl,Nat.le_refl _,by rw [Nat.zero_add];exact cU9 ns,dF5 c L,Nat.le_refl _⟩,?_,?_,?_⟩
  ·rintro zs r m' ⟨k,t,Ns,B,cs,qc,x7,er,H,K,hz,y_⟩
   exact cV (H.has (.tail _ hz))
  ·intro z zs r m' J
   refine wp_mono (bY7 n hL J) (fun r' m' q=>wp_mono q (fun p_1 m' q=>?_) fun y_ y_ q=>q) fun y_ y_ q=>q
   rcases p_1 with ⟨f,r1⟩
   cases f with
   | ret v=>exact q.elim
   | next=>exact q
   | cont=>exact q
  ·exact fun r m' J=>dE4 n c1 c7 few.1 few.2 J
 cases f % 9 == 4 with
 | true=>exact aW (aC rfl (main 7 (by decide) (by decide)))
 | false=>exact main v hv.1 hv.2
end
end P12
end Mini
open PySem PySem.W PyProof.Rows
namespace Mini
noncomputable def keep12:List Nat:=[0,2,3,4,5,6,7,8,10,11,12,13,14,16,17,18,19,20,21,22,24,26,28,30,31,32,33,34,35,36,37,38,39]
noncomputable def as12:List Nat:=[3,20,21,30,31,43,44,55,56,67,68,79,80,91,92,103,104,112,113,119,120,126,127,133,134,140,141,147,148,154,155,161,162,175,176,182,183,187,188,194,195,199,200,206,207,213,214,220,221,227,228,230,231,248,249,255,256,262,263,267,268,270,271,288,289,295,296,302,303,309,310,316,317,323,324,330,331,337,338,344,345,351,352,358,359,361,362,372,373,379,380,384,385,391,392,398,399,403,404,410,411,415,416,420,421,425,426]
noncomputable def chk12 (K:Frag):Bool:=chkA C12.sig [] 36 K&&chkB C12.sig [] 36 42 K
theorem said12:PySem.Challenge.rw_uf030037_12.wellSaid=true:=by kernel_rfl
theorem run12a:∀ w os,(cH9 PySem.Challenge.rw_uf030037_12.prog 4000 w os).map (fun s=>staticsOk (importedModules PySem.Challenge.rw_uf030037_12.prog.main.body) (boot_heap w.params) s.abs.heap&&namesBound PySem.Challenge.rw_uf030037_12.prog s.abs.heap&&gensDone s.abs&&laidKept (boot_heap w.params) s.abs.heap)=some true:=by intro w os;kernel_rfl
theorem run12b:∀ w os,(cH9 PySem.Challenge.rw_uf030037_12.prog 4000 w os).map (fun s=>Fast.tw4187177175401517315 (view PySem.Challenge.rw_uf030037_12.prog keep12) [] (importedModules PySem.Challenge.rw_uf030037_12.prog.main.body) (xtOf (view PySem.Challenge.rw_uf030037_12.prog keep12) PySem.Challenge.rw_uf030037_12.row.records) true s.abs)=some (openGood (view PySem.Challenge.rw_uf030037_12.prog keep12) []):=by intro w os;kernel_rfl
theorem run12c:∀ w os,(cH9 PySem.Challenge.rw_uf030037_12.prog 4000 w os).map (fun s=>chkA C12.sig [] 36 (aH7 as12 s.abs.heap))=some true:=by intro w os;kernel_rfl
theorem run12d:∀ w os,(cH9 PySem.Challenge.rw_uf030037_12.prog 4000 w os).map (fun s=>chkB C12.sig [] 36 42 (aH7 as12 s.abs.heap))=some true:=by intro w os;kernel_rfl
theorem run12:∀ w os,(cH9 PySem.Challenge.rw_uf030037_12.prog 4000 w os).map (fun s=>bE1 PySem.Challenge.rw_uf030037_12.prog (view PySem.Challenge.rw_uf030037_12.prog keep12) PySem.Challenge.rw_uf030037_12.row.records (fun h=>chk12 (aH7 as12 h)) w s.abs)=some (true,openGood (view PySem.Challenge.rw_uf030037_12.prog keep12) [],true):=fun w os=>cA4 (run12a w os) (run12b w os) (run12c w os) (run12d w os) fun y_=>rfl
end Mini
open PySem PySem.W PyProof.Rows Mini
namespace Mini
set_option tactic.hygienic true in
theorem t12:PySem.Challenge.rw_uf030037_12.Holds:=by
 refine cB2 (keep:=keep12) (as:=as12) (chk:=chk12) (N:=4000) (d:=((defOf (view PySem.Challenge.rw_uf030037_12.prog keep12) PySem.Challenge.rw_uf030037_12.row.name).get (by kernel_rfl)).1) (kwd:=[]) said12 (by kernel_rfl) (by decide +kernel) (fun s=>rfl) run12 (by kernel_rfl) (by kernel_rfl) (by kernel_rfl) (by kernel_rfl) (by kernel_rfl) ⟨rfl,rfl,rfl,rfl,rfl,by kernel_rfl⟩ ⟨[.list []],by decide +kernel,by decide +kernel⟩ ?_
 intro w s₀ s₁ mg mb G Y fa o pm cd doc dV kV ho hd hcd hD hmg hg args vals as hpre hlay hrd hwl hlo
 rcases Y with ⟨K,KX,hck⟩
 refine Ground.open G ?_
 intro T B D TE TW
 have hmg':mg (Str.ofString "law")=some (.ref fa):=hmg
 clear hd hcd hD hmg ho
 wrow_args hpre hlay hrd hwl hlo
 rename_i ns _ _ _ _ _ _ _ l vs _ hL _ _ _ hI _ hlen _
 refine glue (S:=C12.sig) (qok:=[]) (k:=42) (n:=10) (d:=_) T (by kernel_rfl) KX hg (dF4 hck rfl) rfl hmg' hL hI (by lia) (by decide) (P12.law_holds 0 ns (by lia)) ?_ ?_
 ·intro cls;rfl
 ·wrow_post
end Mini
theorem PySem.Challenge.cw_uf030037_12_holds : PySem.Challenge.rw_uf030037_12.Holds :=
 Mini.t12
