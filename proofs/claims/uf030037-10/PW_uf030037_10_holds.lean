import PyProof.Rows.All
import PyProof.Meets
import PyProof.Ns1
import PyProof.ListIndex
import PyProof.ForAny
import PyProof.CallRoads
import PyProof.CallType
import PyProof.Cells
import PyProof.PlainList
import PyProof.StrWalks
import PyProof.CompFree
import PyProof.PureInt
import PyProof.MeetsSeq
import PyProof.DictKinds
import PyProof.MeetsDictList
import PyProof.DictStraight
import PyProof.TupleKey
import PyProof.DictWalks
import PyProof.EnumFor
import PyProof.EnumStmt
import PyProof.EnumMake
import PyProof.EqAt
import PyProof.EqKinds
import PyProof.P3Statements
import PyProof.ExcClass
import PyProof.ExcArgsOwn
import PyProof.ExcAttrAll.ValueError
import PyProof.RaisesMany
import PyProof.StationsW
import PyProof.StrBlockL
import PyProof.RangeIter
import PyProof.WalksMore
import PyProof.RangeFor
import PyProof.InstLoad
import PyProof.InstStoreFacts
import PyProof.IsiHeapPairs
import PyProof.IsiPairs
import PyProof.IsiSeqPairs
import PyProof.ListIndexNeg
import PyProof.NsDelKeeps
import PyProof.ObjNew
import PyProof.Rows.AttrNodeAny
import PyProof.RulesAssignMore
import PyProof.Rows.SortShell
import PyProof.Rows.SortWalk
import PyProof.Rows.Range3
import PyProof.Rows.SetFrom
import OpenK.KCall
import OpenK.KMake
import OpenK.TopRead
import OpenK.KWalk
import OpenK.KLine
import KE.KPop
import KE.KDictList
import KE.KDictSum
import KE.KEqDict
import OpenK.KOwn
import KE.KIsAll
import KE.KTryMore
import Wide.Txt2
import Wide.All
import OpenK.AllK
import Wide.FinOn
import PySem.Challenge.RW_uf030037_10
set_option Elab.async false
set_option maxRecDepth 100000
set_option maxHeartbeats 8000000
set_option autoImplicit false
set_option linter.all false
set_option genSizeOf false
set_option genInjectivity false
set_option bootstrap.genMatcherCode false
set_option compiler.extract_closed false
set_option tactic.hygienic false
namespace Mini.Internal
open PySem
inductive V where
 | none | bool (b:Bool) | int (i:Int) | str (s:Str) | tup (xs:List V) | ref (n:Nat) | fn (k:Nat) | exc (c:Nat) | scr (ns:List Int)
inductive Ky where
 | int (i:Int) | str (s:Str) | tup (ks:List (Sum Int Str))
 deriving DecidableEq
inductive MObj where
 | list (xs:List V)
 | dict (kvs:List (Ky×V)) (e:Nat)
 | inst (c:Nat) (fs:List (Nat×V))
noncomputable abbrev MH:=List MObj
inductive Res (α:Type) where
 | ok (a:α) (m:MH)
 | exc (c:Nat) (m:MH)
 | bad
noncomputable abbrev Mn (α:Type):=MH->Res α
noncomputable def Res.bind {α β:Type} (r:Res α) (f:α->Mn β):Res β:=match r with
 | .ok a m=>f a m
 | .exc c m=>.exc c m
 | .bad=>.bad
noncomputable def Res.nox {α:Type} (r:Res α):Res α:=match r with
 | .exc _ _=>.bad
 | r=>r
noncomputable def ret {α:Type} (a:α):Mn α:=fun m=>.ok a m
noncomputable def bad {α:Type}:Mn α:=fun y_=>.bad
noncomputable def bnd {α β:Type} (x:Mn α) (f:α->Mn β):Mn β:=fun m=>(x m).bind f
noncomputable def ofO {α:Type}:Option α->Mn α
 | some a=>ret a
 | Option.none=>bad
noncomputable def Ky.val:Ky->V
 | .int i=>.int i
 | .str s=>.str s
 | .tup ks=>.tup (ks.map fun x=>match x with | .inl i=>.int i | .inr s=>.str s)
noncomputable def Ky.sort:Ky->Nat
 | .int _=>0
 | .str _=>1
 | .tup _=>2
noncomputable def eS {α β:Type} (g:α->Option β):List α->Option (List β)
 | []=>some []
 | x::xs=>match g x,eS g xs with
  | some d,some ds=>some (d::ds)
  | _,_=>Option.none
noncomputable def rd:Nat->MH->V->Option PyData
 | 0,_,_=>Option.none
 | f+1,m,v=>match v with
  | .none=>some .none
  | .bool b=>some (.bool b)
  | .int i=>some (.int i)
  | .str s=>some (.str s)
  | .tup xs=>(eS (rd f m) xs).map .tuple
  | .ref n=>match m[n]? with
   | some (.list xs)=>(eS (rd f m) xs).map .list
   | _=>Option.none
  | _=>Option.none
noncomputable def atom:V->Option (Sum Int Str)
 | .int i=>some (.inl i)
 | .str s=>some (.inr s)
 | _=>Option.none
noncomputable def dQ:V->Option Ky
 | .int i=>some (.int i)
 | .tup xs=>(eS atom xs).map .tup
 | _=>Option.none
noncomputable def cP:Nat:=12
noncomputable def bX (k:Ky):List (Ky×V)->Option V
 | []=>Option.none
 | (k',v)::r=>if k'=k then some v else bX k r
noncomputable def aG2 (g:V->V->Option Bool):List V->List V->Option Bool
 | [],ys=>match ys with
  | []=>some true
  | _::_=>Option.none
 | x::xs,ys=>match ys with
  | []=>Option.none
  | y::ys=>match g x y with
   | some a=>match aG2 g xs ys with
    | some b=>some (a&&b)
    | Option.none=>Option.none
   | Option.none=>Option.none
noncomputable def aL2 (m:MH) (ls:List (Ky×V)):List (Ky×V)->Option Bool
 | []=>some true
 | (k,v)::r=>match bX k ls with
  | Option.none=>some false
  | some u=>match rd cP m v with
   | some x=>match rd cP m u with
    | some y=>match aL2 m ls r with
     | some b=>some (PyData.eqv x y&&b)
     | Option.none=>Option.none
    | Option.none=>Option.none
   | Option.none=>Option.none
noncomputable def aU8 (kvs:List (Ky×V)):Bool:=kvs.all fun p=>p.1.sort == 0
noncomputable def eqN (m:MH) (g:V->V->Option Bool) (a b:V):Option Bool:=match a with
 | .tup xs=>match b with
  | .tup ys=>if xs.length=ys.length then aG2 g xs ys else Option.none
  | _=>Option.none
 | .ref p=>match b with
  | .ref q=>match m[p]? with
   | some (.list xs)=>match m[q]? with
    | some (.list ys)=>if p≠q /\ xs.length=ys.length then aG2 g xs ys else Option.none
    | _=>Option.none
   | some (.dict ks _)=>match m[q]? with
    | some (.dict ls _)=>if p≠q /\ ks.length=ls.length /\ (aU8 ks&&aU8 ls)=true then aL2 m ls ks else Option.none
    | _=>Option.none
   | _=>Option.none
  | .int _=>match m[p]? with
   | some (.dict _ _)=>some false
   | _=>Option.none
  | _=>Option.none
 | _=>Option.none
noncomputable def eqX:Nat->MH->V->V->Option Bool
 | 0,_,_,_=>Option.none
 | f+1,m,a,b=>match rd cP m a,rd cP m b with
  | some x,some y=>some (PyData.eqv x y)
  | _,_=>eqN m (eqX f m) a b
noncomputable def eqV (a b:V):Mn Bool:=fun m=>match rd cP m a,rd cP m b with
 | some x,some y=>.ok (PyData.eqv x y) m
 | _,_=>match eqN m (eqX 8 m) a b with
  | some c=>.ok c m
  | Option.none=>.bad
noncomputable def at_ {α:Type} (xs:List α) (i:Int):Option α:=
 if 0 <= i then xs[i.toNat]? else Option.none
noncomputable def eZ (n:Nat) (i:Int):Nat:=if 0 <= i then min i.toNat n else (i+n).toNat
noncomputable def cut {α:Type} (xs:List α) (lo hi:Option Int):List α:=
 let a:=match lo with | some i=>eZ xs.length i | Option.none=>0
 let b:=match hi with | some i=>eZ xs.length i | Option.none=>xs.length
 (xs.take b).drop a
noncomputable def put (k:Ky) (v:V):List (Ky×V)->List (Ky×V)
 | []=>[(k,v)]
 | (k',v')::r=>if k'=k then (k',v)::r else (k',v')::put k v r
noncomputable def fM (k:Ky):List (Ky×V)->List (Ky×V)
 | []=>[]
 | (k',v')::r=>if k'=k then r else (k',v')::fM k r
noncomputable def aP (k:Ky) (kvs:List (Ky×V)):Bool:=kvs.all fun p=>p.1.sort == k.sort
noncomputable def aK5 (i:Nat):List (Nat×V)->Option V
 | []=>Option.none
 | (j,v)::r=>if j=i then some v else aK5 i r
noncomputable def fB (i:Nat) (v:V):List (Nat×V)->List (Nat×V)
 | []=>[(i,v)]
 | (j,v')::r=>if j=i then (j,v)::r else (j,v')::fB i v r
inductive Bi where
 | len | abs | int | str | list | tuple | dict | sorted | max2 | min2 | max1 | lenset
inductive Sm where
 | append | pop | clear | get | join | split | count | index
inductive Ty where
 | int | bool | str | list | tuple | dict | cls (c:Nat)
 deriving DecidableEq
inductive IK where
 | expr | range | enum
inductive CT where
 | one (i:Nat) | many (is:List Nat)
set_option genCtorIdx false in
inductive Lt where
 | none | bool (b:Bool) | int (i:Int) | str (s:Str)
noncomputable def Lt.val:Lt->V
 | .none=>.none
 | .bool b=>.bool b
 | .int i=>.int i
 | .str s=>.str s
set_option genCtorIdx false in
mutual
inductive CE where
 | cnst (v:Lt)
 | var (i:Nat)
 | glob (i:Nat)
 | fnv (k:Nat)
 | bin (op:Operator) (a b:CE)
 | neg (a:CE)
 | not (a:CE)
 | boolop (isAnd:Bool) (as:List CE)
 | cmp (a:CE) (ops:List CmpOp) (bs:List CE)
 | ite (c:CB) (a b:CE)
 | tup (as:List CE)
 | list (as:List CE)
 | dict (ks:List Str) (vs:List CE)
 | idx (a i:CE)
 | slice (a lo hi st:CE)
 | attr (a:CE) (n:Nat)
 | call (k:Nat) (as:List CE)
 | callv (f:CE) (as:List CE)
 | new (c:Nat) (as:List CE)
 | meth (o:CE) (n:Nat) (as:List CE)
 | smeth (o:CE) (n:Sm) (as:List CE)
 | bi (b:Bi) (as:List CE)
 | listrange (as:List CE)
 | isi (a:CE) (t:Ty)
 | comp (elt:CE) (t:CT) (nl:Nat) (k:IK) (src:List CE) (ifs:List CB)
inductive CB where
 | not (b:CB)
 | all (isAnd:Bool) (bs:List CB)
 | val (e:CE)
end
set_option genCtorIdx false in
inductive CTgt where
 | one (t:CT) | attr (o:CE) (n:Nat) | idx (o i:CE) | idx2 (o i o' i':CE)
set_option genCtorIdx false in
inductive CS where
 | asg (t:CTgt) (e:CE)
 | exp (e:CE)
 | ite (c:CB) (a b:List CS)
 | for_ (k:IK) (t:CT) (src:List CE) (body:List CS)
 | wh (c:CB) (body:List CS)
 | ret (e:CE)
 | rse (c:Nat) (msg:Str)
 | try_ (body:List CS) (c:Nat) (nm:Option Nat) (h:CE)
 | cont
 | pass
structure FnD where
 name:Str
 np:Nat
 names:List Str
 body:List CS
structure ClsD where
 name:Str
 init:Option Nat
 meths:List (Nat×Nat)
 exc:Bool
 supers:List Nat
structure Sig where
 fns:List FnD
 cls:List ClsD
 attrs:List Str
 globs:List (Str×Lt)
noncomputable abbrev Lo:=List (Option V)
noncomputable def lid:Nat:=4194304
noncomputable def fT (v:V):Mn Bool:=fun m=>match v with
 | .none=>.ok false m
 | .bool b=>.ok b m
 | .int i=>.ok (i != 0) m
 | .str s=>if s.length <= lid then .ok (s.length != 0) m else .bad
 | .tup xs=>if xs.length <= lid then .ok (!xs.isEmpty) m else .bad
 | .ref n=>match m[n]? with
  | some (.list xs)=>.ok (!xs.isEmpty) m
  | _=>.bad
 | _=>.bad
noncomputable def alloc (o:MObj):Mn V:=fun m=>.ok (.ref m.length) (m++[o])
noncomputable def bY8 (op:Operator) (a b:V):Mn V:=fun m=>match op,a,b with
 | .Add,.int i,.int j=>.ok (.int (i+j)) m
 | .Sub,.int i,.int j=>.ok (.int (i - j)) m
 | .Mult,.int i,.int j=>if i.natAbs < 1073741824 \/ j.natAbs < 1073741824 then .ok (.int (i * j)) m else .bad
 | .FloorDiv,.int i,.int j=>if 0 < j /\ j.natAbs < 1073741824 then .ok (.int (i / j)) m else .bad
 | .Mod,.int i,.int j=>if 0 < j then .ok (.int (i % j)) m else .bad
 | .Add,.str x,.str y=>if x.length+y.length <= lid then .ok (.str (x++y)) m else .bad
 | .Add,.ref p,.ref q=>match m[p]?,m[q]? with
  | some (.list x),some (.list y)=>if x.length+y.length <= lid then alloc (.list (x++y)) m else .bad
  | _,_=>.bad
 | _,_,_=>.bad
noncomputable def inV (x c:V):Mn Bool:=fun m=>match c with
 | .tup ys=>match eS (rd cP m) ys,rd cP m x with
  | some ds,some d=>.ok (ds.any fun e=>PyData.eqv e d) m
  | _,_=>.bad
 | .str y=>match x with
  | .str s=>match s.cps.toList with
   | [c]=>.ok (decide (c∈y.cps.toList)) m
   | _=>.bad
  | _=>.bad
 | .ref n=>match m[n]? with
  | some (.list ys)=>match eS (rd cP m) ys,rd cP m x with
   | some ds,some d=>.ok (ds.any fun e=>PyData.eqv e d) m
   | _,_=>.bad
  | some (.dict kvs _)=>match dQ x with
   | some k=>if aP k kvs then .ok (bX k kvs).isSome m else .bad
   | Option.none=>.bad
  | _=>.bad
 | _=>.bad
noncomputable def aF9 (op:CmpOp) (a b:V):Mn Bool:=match op with
 | .Eq=>eqV a b
 | .NotEq=>bnd (eqV a b) fun c=>ret (!c)
 | .In=>inV a b
 | .NotIn=>bnd (inV a b) fun c=>ret (!c)
 | .Is=>bad
 | .IsNot=>bad
 | .Lt=>match a,b with | .int i,.int j=>ret (decide (i < j)) | _,_=>bad
 | .LtE=>match a,b with | .int i,.int j=>ret (decide (i <= j)) | _,_=>bad
 | .Gt=>match a,b with | .int i,.int j=>ret (decide (i > j)) | _,_=>bad
 | .GtE=>match a,b with | .int i,.int j=>ret (decide (i ≥ j)) | _,_=>bad
noncomputable def aX8 (a i:V):Mn V:=fun m=>match a with
 | .tup xs=>match i with
  | .int k=>if k.natAbs < 2 ^ 60 then ofO (at_ xs k) m else .bad
  | _=>.bad
 | .str s=>match i with
  | .int k=>if k.natAbs < 2 ^ 60 then ofO ((at_ s.cps.toList k).map fun c=>.str ⟨#[c]⟩) m else .bad
  | _=>.bad
 | .ref n=>match m[n]? with
  | some (.list xs)=>match i with
   | .int k=>if k.natAbs < 2 ^ 60 then ofO (at_ xs k) m else .bad
   | _=>.bad
  | some (.dict kvs _)=>match dQ i with
   | some k=>if aP k kvs then ofO (bX k kvs) m else .bad
   | Option.none=>.bad
  | _=>.bad
 | .scr ns=>match i with
  | .int k=>if 0 <= k then ofO ((ns[k.toNat]?).map .int) m else .bad
  | _=>.bad
 | _=>.bad
noncomputable def aJ4 (v:V):Option (Option Int):=match v with
 | .none=>some Option.none
 | .int i=>if i.natAbs < 2 ^ 60 then some (some i) else Option.none
 | _=>Option.none
noncomputable def dM {α:Type} (xs:List α) (lo hi st:V):Option (List α):=
 match st with
 | .none=>match aJ4 lo,aJ4 hi with
  | some a,some b=>some (cut xs a b)
  | _,_=>Option.none
 | _=>Option.none
noncomputable def aB4 (a lo hi st:V):Mn V:=fun m=>match a with
 | .str s=>match st with
  | .none=>if s.length <= lid then ofO ((dM s.cps.toList lo hi .none).map fun l=>.str ⟨l.toArray⟩) m else .bad
  | _=>.bad
 | .ref n=>match m[n]? with
  | some (.list xs)=>match st with
   | .none=>match dM xs lo hi .none with
    | some l=>alloc (.list l) m
    | Option.none=>.bad
   | _=>.bad
  | _=>.bad
 | _=>.bad
noncomputable def aD2 (a:V) (n:Nat):Mn V:=fun m=>match a with
 | .ref p=>match m[p]? with
  | some (.inst _ fs)=>ofO (aK5 n fs) m
  | _=>.bad
 | _=>.bad
noncomputable def eY:List V->Option (List Int)
 | []=>some []
 | .int i::r=>(eY r).map (i::·)
 | _::_=>Option.none
noncomputable def fY:List (Ky×V)->Option (List Int)
 | []=>some []
 | (.int i,_)::r=>(fY r).map (i::·)
 | _::_=>Option.none
noncomputable def insI (i:Int):List Int->List Int
 | []=>[i]
 | j::r=>if i <= j then i::j::r else j::insI i r
noncomputable def sortI:List Int->List Int
 | []=>[]
 | i::r=>insI i (sortI r)
noncomputable def bE4 (lo hi:Int):List V:=(List.range (hi - lo).toNat).map fun (k:Nat)=>V.int (lo+k)
noncomputable def aB9:List V->Option (List V)
 | [.int n]=>if n.natAbs < 2 ^ 30 then some (bE4 0 n) else Option.none
 | _=>Option.none
noncomputable def cV8 (i:Int):Str:=Str.ofString (toString i)
noncomputable def bQ7 (c:Nat):List Nat->List (List Nat)
 | []=>[[]]
 | x::l=>if x=c then []::bQ7 c l else match bQ7 c l with
  | []=>[[x]]
  | p::ps=>(x::p)::ps
noncomputable def biV (b:Bi) (as:List V):Mn V:=fun m=>match b,as with
 | .len,[.str s]=>if s.length <= lid then .ok (.int s.length) m else .bad
 | .len,[.tup xs]=>if xs.length <= lid then .ok (.int xs.length) m else .bad
 | .len,[.scr ns]=>.ok (.int ns.length) m
 | .len,[.ref n]=>match m[n]? with
  | some (.list xs)=>.ok (.int xs.length) m
  | _=>.bad
 | .abs,[.int i]=>.ok (.int (if i < 0 then -i else i)) m
 | .int,[.bool c]=>.ok (.int (if c then 1 else 0)) m
 | .str,[.int i]=>if i.natAbs < 1000000 then .ok (.str (cV8 i)) m else .bad
 | .list,[.ref n]=>match m[n]? with
  | some (.list xs)=>alloc (.list xs) m
  | some (.dict kvs _)=>alloc (.list (kvs.map fun p=>p.1.val)) m
  | _=>.bad
 | .tuple,[.ref n]=>match m[n]? with
  | some (.list xs)=>.ok (.tup xs) m
  | _=>.bad
 | .dict,[.ref n]=>match m[n]? with
  | some (.dict kvs _)=>if aU8 kvs then alloc (.dict kvs 0) m else .bad
  | _=>.bad
 | .sorted,[.ref n]=>match m[n]? with
  | some (.dict kvs _)=>match fY kvs with
   | some is=>if is.length < 64 \/ is.Pairwise (· < ·) then alloc (.list ((sortI is).map .int)) m else .bad
   | Option.none=>.bad
  | _=>.bad
 | .max2,[.int i,.int j]=>.ok (.int (if j > i then j else i)) m
 | .min2,[.int i,.int j]=>.ok (.int (if j < i then j else i)) m
 | .max1,[.ref n]=>match m[n]? with
  | some (.list xs)=>match eY xs with
   | some is=>match is.max? with
    | some i=>.ok (.int i) m
    | Option.none=>.bad
   | Option.none=>.bad
  | _=>.bad
 | _,_=>.bad
noncomputable def eB (S:Sig) (a:V) (t:Ty):Mn Bool:=fun m=>match t,a with
 | .cls c,.exc d=>match S.cls[d]? with
  | some x=>if x.exc then .ok (x.supers.contains c) m else .bad
  | Option.none=>.bad
 | .cls _,_=>.bad
 | .int,.int _=>.ok true m
 | .int,.bool _=>.ok true m
 | .bool,.bool _=>.ok true m
 | .str,.str _=>.ok true m
 | .tuple,.tup _=>.ok true m
 | t,.ref n=>match m[n]? with
  | some (.list _)=>.ok (t == .list) m
  | some (.dict _ _)=>.ok (t == .dict) m
  | _=>.bad
 | _,.fn _=>.bad
 | _,.exc _=>.bad
 | _,.scr _=>.bad
 | _,_=>.ok false m
noncomputable def eC:List V->Option (List Str)
 | []=>some []
 | .str x::r=>(eC r).map (x::·)
 | _::_=>Option.none
noncomputable def bR:List V->Option (List Bool)
 | []=>some []
 | .bool x::r=>(bR r).map (x::·)
 | _::_=>Option.none
noncomputable def aK4 (sep:Str):List Str->Str
 | []=>Str.empty
 | x::r=>r.foldl (fun acc p=>acc++sep++p) x
noncomputable def fW (sep:Str) (l:List Str):Nat:=l.foldl (fun k x=>k+x.length+sep.length) 0
noncomputable def smK (o:V) (m:MH):Option Nat:=match o with
 | .ref p=>match m[p]? with
  | some (.list _)=>some 0
  | some (.dict _ _)=>some 1
  | _=>Option.none
 | .str _=>some 2
 | _=>Option.none
noncomputable def smH (k:Nat) (n:Sm):Bool:=match k,n with
 | 0,.append=>true
 | 0,.count=>true
 | 0,.index=>true
 | 1,.pop=>true
 | 2,.join=>true
 | _,_=>false
noncomputable def bK1 (p:Nat) (xs:List V) (n:Sm) (as:List V):Mn V:=fun m=>match n with
 | .append=>(match as with | [v]=>(if xs.length < lid then .ok .none (m.set p (.list (xs++[v]))) else .bad) | _=>.bad)
 | .pop=>(match as with
  | [i]=>(match i with
   | .int k=>if 0 <= k then (match xs[k.toNat]? with
     | some v=>if k.natAbs < 2 ^ 60 then .ok v (m.set p (.list (xs.eraseIdx k.toNat))) else .bad
     | Option.none=>.bad)
    else .bad
   | _=>.bad)
  | _=>.bad)
 | .clear=>(match as with | []=>.ok .none (m.set p (.list [])) | _=>.bad)
 | .count=>(match as with
  | [i]=>(match i with
   | .bool b=>(match bR xs with | some bs=>.ok (.int (bs.count b)) m | Option.none=>.bad)
   | _=>.bad)
  | _=>.bad)
 | .index=>(match as with
  | [i]=>(match i with
   | .bool b=>(match bR xs with | some bs=>if bs.contains b then .ok (.int (bs.idxOf b)) m else .bad | Option.none=>.bad)
   | _=>.bad)
  | _=>.bad)
 | _=>.bad
noncomputable def bL1 (p:Nat) (kvs:List (Ky×V)) (e:Nat) (n:Sm) (as:List V):Mn V:=fun m=>match n with
 | .get=>(match as with
  | [k,d]=>(match k with
   | .int i=>if aP (.int i) kvs then .ok ((bX (.int i) kvs).getD d) m else .bad
   | _=>.bad)
  | _=>.bad)
 | .pop=>(match as with
  | [k]=>(match k with
   | .int i=>if aP (.int i) kvs then (match bX (.int i) kvs with
     | some v=>.ok v (m.set p (.dict (fM (.int i) kvs) (e+1)))
     | Option.none=>.bad)
    else .bad
   | _=>.bad)
  | _=>.bad)
 | .clear=>(match as with | []=>(if aU8 kvs then .ok .none (m.set p (.dict [] (e+1))) else .bad) | _=>.bad)
 | _=>.bad
noncomputable def strM (s:Str) (n:Sm) (as:List V):Mn V:=fun m=>match n with
 | .join=>(match as with
  | [v]=>(match v with
   | .ref p=>(match m[p]? with
    | some (.list xs)=>(match eC xs with
     | some l=>if fW s l <= lid then .ok (.str (aK4 s l)) m else .bad
     | Option.none=>.bad)
    | _=>.bad)
   | _=>.bad)
  | _=>.bad)
 | .split=>(match as with
  | [v]=>(match v with
   | .str sep=>(match sep.cps.toList with
    | [c]=>if s.length <= 4000 then alloc (.list ((bQ7 c s.cps.toList).map fun l=>.str ⟨l.toArray⟩)) m else .bad
    | _=>.bad)
   | _=>.bad)
  | _=>.bad)
 | _=>.bad
noncomputable def dD (k:Nat) (o:V) (n:Sm) (as:List V):Mn V:=fun m=>match k with
 | 0=>(match o with
  | .ref p=>(match m[p]? with | some (.list xs)=>bK1 p xs n as m | _=>.bad)
  | _=>.bad)
 | 1=>(match o with
  | .ref p=>(match m[p]? with | some (.dict kvs e)=>bL1 p kvs e n as m | _=>.bad)
  | _=>.bad)
 | 2=>(match o with
  | .str s=>strM s n as m
  | _=>.bad)
 | _=>.bad
mutual
noncomputable def V.same:V->V->Bool
 | .none,y=>match y with | .none=>true | _=>false
 | .bool a,y=>match y with | .bool b=>a == b | _=>false
 | .int a,y=>match y with | .int b=>a == b | _=>false
 | .str a,y=>match y with | .str b=>a == b | _=>false
 | .tup xs,y=>match y with | .tup ys=>V.sames xs ys | _=>false
 | .ref a,y=>match y with | .ref b=>a == b | _=>false
 | .fn a,y=>match y with | .fn b=>a == b | _=>false
 | .exc a,y=>match y with | .exc b=>a == b | _=>false
 | .scr a,y=>match y with | .scr b=>a == b | _=>false
noncomputable def V.sames:List V->List V->Bool
 | [],ys=>ys.isEmpty
 | x::xs,ys=>match ys with
  | []=>false
  | y::ys=>V.same x y&&V.sames xs ys
end
mutual
theorem bR6:∀ v:V,V.same v v=true
 | .none=>rfl
 | .bool b=>beq_self_eq_true b
 | .int i=>beq_self_eq_true i
 | .str s=>beq_self_eq_true s
 | .tup xs=>fP xs
 | .ref n=>beq_self_eq_true n
 | .fn n=>beq_self_eq_true n
 | .exc n=>beq_self_eq_true n
 | .scr n=>beq_self_eq_true n
theorem fP:∀ xs:List V,V.sames xs xs=true
 | []=>rfl
 | x::xs=>by show (V.same x x&&V.sames xs xs)=true;rw [bR6 x,fP xs];rfl
end
set_option genCtorIdx false in
inductive Gd where
 | none | list (n:Nat) (xs:List V) | dict (n:Nat) (e:Nat)
noncomputable def Gd.stays (g:Gd) (m:MH):Bool:=match g with
 | .none=>true
 | .list n xs=>match m[n]? with
  | some (.list ys)=>V.sames xs ys
  | _=>false
 | .dict n e=>match m[n]? with
  | some (.dict _ e')=>e == e'
  | _=>false
noncomputable def eX (v:V):Mn (List V×Gd):=fun m=>match v with
 | .str s=>.ok (s.cps.toList.map fun c=>.str ⟨#[c]⟩,.none) m
 | .ref n=>match m[n]? with
  | some (.list xs)=>.ok (xs,.list n xs) m
  | some (.dict kvs e)=>.ok (kvs.map fun p=>p.1.val,.dict n e) m
  | _=>.bad
 | _=>.bad
noncomputable def dH3:Nat->List V->List V
 | _,[]=>[]
 | k,x::xs=>.tup [.int k,x]::dH3 (k+1) xs
noncomputable def enumV (v:V):Mn (List V×Gd):=fun m=>match v with
 | .ref n=>match m[n]? with
  | some (.list xs)=>.ok (dH3 0 xs,.list n xs) m
  | _=>.bad
 | _=>.bad
noncomputable def aB1 (k:IK) (vs:List V):Mn (List V×Gd):=match k,vs with
 | .expr,[v]=>eX v
 | .range,vs=>match aB9 vs with
  | some l=>ret (l,.none)
  | Option.none=>bad
 | .enum,[v]=>enumV v
 | _,_=>bad
noncomputable def cG:List Nat->List V->Lo->Option Lo
 | [],[],r=>some r
 | i::is,v::vs,r=>cG is vs (r.set i (some v))
 | _,_,_=>Option.none
noncomputable def aH5 (t:CT) (v:V) (r:Lo):Mn Lo:=fun m=>match t with
 | .one i=>.ok (r.set i (some v)) m
 | .many is=>match v with
  | .tup vs=>ofO (cG is vs r) m
  | _=>.bad
noncomputable def dT (o:V) (n:Nat) (v:V):Mn Unit:=fun m=>match o with
 | .ref p=>match m[p]? with
  | some (.inst c fs)=>.ok () (m.set p (.inst c (fB n v fs)))
  | _=>.bad
 | _=>.bad
noncomputable def dN (o i v:V):Mn Unit:=fun m=>match o with
 | .ref p=>match m[p]? with
  | some (.dict kvs e)=>match dQ i with
   | some k=>if aP k kvs&&kvs.length < lid then .ok () (m.set p (.dict (put k v kvs) (e+1))) else .bad
   | Option.none=>.bad
  | _=>.bad
 | _=>.bad
inductive Fl where
 | next | cont | ret (v:V)
noncomputable def aN2 (g:Gd) (step:V->Lo->Mn (Fl×Lo)):List V->Lo->Mn (Fl×Lo)
 | [],r=>fun m=>if g.stays m then .ok (.next,r) m else .bad
 | v::vs,r=>fun m=>if g.stays m then (step v r m).bind (fun p=>match p.1 with
   | .ret x=>ret (.ret x,p.2)
   | _=>aN2 g step vs p.2) else .bad
noncomputable def eP (o:Option V) (r:List V):List V:=match o with
 | some x=>x::r
 | Option.none=>r
noncomputable def bS (g:Gd) (step:V->Mn (Option V)):List V->Mn (List V)
 | []=>fun m=>if g.stays m then .ok [] m else .bad
 | v::vs=>fun m=>if g.stays m then (step v m).nox.bind (fun o=>bnd (bS g step vs) fun r=>ret (eP o r)) else .bad
noncomputable def cK6 (c:Lo->Mn Bool) (body:Lo->Mn (Fl×Lo)):Nat->Lo->Mn (Fl×Lo)
 | 0,_=>bad
 | n+1,r=>bnd (fun m=>(c r m).nox) fun b=>if b then bnd (fun m=>(body r m).nox) fun p=>match p.1 with
   | .ret x=>ret (.ret x,p.2)
   | _=>cK6 c body n p.2
  else ret (.next,r)
noncomputable def fuelW:Nat:=1000000
noncomputable abbrev Fns:=Nat->List V->Mn V
noncomputable def dI4 (F:Fns) (N:Nat) (as:Mn (List V)) (x:V):Mn V:=match x with
 | .fn k=>if k < N then bnd as fun vs=>F k vs else bad
 | _=>bad
noncomputable def dE5 (v u:V):Mn V:=match u with
 | .none=>ret v
 | _=>bad
noncomputable def cT9 (S:Sig) (F:Fns) (c:Nat) (vs:List V):Mn V:=match S.cls[c]? with
 | some d=>if d.exc then bad else match d.init with
  | some k=>bnd (alloc (.inst c [])) fun x=>bnd (F k (x::vs)) (dE5 x)
  | Option.none=>bad
 | Option.none=>bad
noncomputable def fU (S:Sig) (n:Nat) (x:V):Mn Nat:=fun m=>match x with
 | .ref p=>match m[p]? with
  | some (.inst c fs)=>match S.cls[c]? with
   | some d=>match aK5 n fs with
    | Option.none=>ofO (d.meths.lookup n) m
    | some y_=>.bad
   | Option.none=>.bad
  | _=>.bad
 | _=>.bad
mutual
noncomputable def ev (S:Sig) (F:Fns):CE->Lo->Mn V
 | .cnst v,_=>ret v.val
 | .var i,r=>match r[i]? with
  | some (some v)=>ret v
  | _=>bad
 | .glob i,_=>match S.globs[i]? with
  | some p=>ret p.2.val
  | Option.none=>bad
 | .fnv k,_=>ret (.fn k)
 | .bin op a b,r=>bnd (ev S F a r) fun x=>bnd (ev S F b r) fun y=>bY8 op x y
 | .neg a,r=>bnd (ev S F a r) fun x=>match x with
  | .int i=>ret (.int (-i))
  | _=>bad
 | .not a,r=>bnd (ev S F a r) fun x=>bnd (fT x) fun b=>ret (.bool (!b))
 | .boolop c as,r=>evB S F c as r
 | .cmp a ops bs,r=>bnd (ev S F a r) fun x=>evC S F x ops bs r
 | .ite c a b,r=>bnd (evT S F c r) fun t=>if t then ev S F a r else ev S F b r
 | .tup as,r=>bnd (evs S F as r) fun vs=>ret (.tup vs)
 | .list as,r=>bnd (evs S F as r) fun vs=>alloc (.list vs)
 | .dict ks vs,r=>bnd (evs S F vs r) fun us=>alloc (.dict ((ks.map Ky.str).zip us) 0)
 | .idx a i,r=>bnd (ev S F a r) fun x=>bnd (ev S F i r) fun y=>aX8 x y
 | .slice a lo hi st,r=>bnd (ev S F a r) fun x=>bnd (ev S F lo r) fun l=>bnd (ev S F hi r) fun h=>bnd (ev S F st r) fun t=>aB4 x l h t
 | .attr a n,r=>bnd (ev S F a r) fun x=>aD2 x n
 | .call k as,r=>bnd (evs S F as r) fun vs=>F k vs
 | .callv f as,r=>bnd (ev S F f r) fun x=>dI4 F S.fns.length (evs S F as r) x
 | .new c as,r=>bnd (evs S F as r) fun vs=>cT9 S F c vs
 | .meth o n as,r=>bnd (ev S F o r) fun x=>bnd (fU S n x) fun k=>bnd (evs S F as r) fun vs=>F k (x::vs)
 | .smeth o n as,r=>bnd (ev S F o r) fun x=>fun m=>match smK x m with
  | some k=>if smH k n then bnd (evs S F as r) (fun vs=>dD k x n vs) m else .bad
  | Option.none=>.bad
 | .bi b as,r=>bnd (evs S F as r) fun vs=>biV b vs
 | .listrange as,r=>bnd (evs S F as r) fun vs=>match aB9 vs with
  | some l=>if l.length <= lid then alloc (.list l) else bad
  | Option.none=>bad
 | .isi a t,r=>bnd (ev S F a r) fun x=>bnd (eB S x t) fun b=>ret (.bool b)
 | .comp elt t nl k src ifs,r=>bnd (evs S F src r) fun vs=>bnd (aB1 k vs) fun p=>
   bnd (bS p.2 (fun v=>bnd (aH5 t v (r++List.replicate nl Option.none)) fun r'=>bnd (bL9 S F ifs r') fun b=>
    if b then bnd (ev S F elt r') fun x=>ret (some x) else ret Option.none) p.1) fun l=>if l.length <= lid then alloc (.list l) else bad
noncomputable def evT (S:Sig) (F:Fns):CB->Lo->Mn Bool
 | .not a,r=>bnd (evT S F a r) fun b=>ret (!b)
 | .all c as,r=>aW1 S F c as r
 | .val e,r=>bnd (ev S F e r) fT
noncomputable def aW1 (S:Sig) (F:Fns) (c:Bool):List CB->Lo->Mn Bool
 | [],_=>ret c
 | a::as,r=>bnd (evT S F a r) fun b=>if b == c then aW1 S F c as r else ret b
noncomputable def bL9 (S:Sig) (F:Fns):List CB->Lo->Mn Bool
 | [],_=>ret true
 | a::as,r=>bnd (evT S F a r) fun b=>if b then bL9 S F as r else ret false
noncomputable def evs (S:Sig) (F:Fns):List CE->Lo->Mn (List V)
 | [],_=>ret []
 | a::as,r=>bnd (ev S F a r) fun x=>bnd (evs S F as r) fun xs=>ret (x::xs)
noncomputable def evB (S:Sig) (F:Fns) (c:Bool):List CE->Lo->Mn V
 | [],_=>bad
 | a::as,r=>match as with
  | []=>ev S F a r
  | _::_=>bnd (ev S F a r) fun x=>bnd (fT x) fun b=>if b == c then evB S F c as r else ret x
noncomputable def evC (S:Sig) (F:Fns) (x:V) (ops:List CmpOp):List CE->Lo->Mn V
 | [],_=>bad
 | a::as,r=>match ops with
  | []=>bad
  | op::ops'=>bnd (ev S F a r) fun y=>bnd (aF9 op x y) fun b=>match as with
   | []=>(match ops' with | []=>ret (.bool b) | _=>bad)
   | _::_=>if b then evC S F y ops' as r else ret (.bool false)
end
noncomputable def asgT (S:Sig) (F:Fns) (t:CTgt) (v:V) (r:Lo):Mn Lo:=match t with
 | .one t=>aH5 t v r
 | .attr o n=>bnd (ev S F o r) fun x=>bnd (dT x n v) fun y_=>ret r
 | .idx o i=>bnd (ev S F o r) fun x=>bnd (ev S F i r) fun y=>bnd (dN x y v) fun y_=>ret r
 | .idx2 o i o' i'=>match v with
  | .tup [a,b]=>bnd (ev S F o r) fun x=>bnd (ev S F i r) fun y=>bnd (dN x y a) fun y_=>
    bnd (ev S F o' r) fun x'=>bnd (ev S F i' r) fun y'=>bnd (dN x' y' b) fun y_=>ret r
  | _=>bad
noncomputable def exR (nm:Option Nat) (d:Nat) (r:Lo):Lo:=match nm with
 | some i=>r.set i (some (.exc d))
 | Option.none=>r
noncomputable def exN (nm:Option Nat) (r:Lo):Lo:=match nm with
 | some i=>r.set i Option.none
 | Option.none=>r
noncomputable def dB6 (S:Sig) (c:Nat) (nm:Option Nat) (h:Lo->Mn V) (r:Lo) (d:Nat):Mn (Fl×Lo):=fun m=>
 if ((S.cls[d]?).any fun k=>k.supers.contains c)=true then ((h (exR nm d r) m).nox).bind fun v=>ret (.ret v,exN nm r) else .bad
noncomputable def bP0 (S:Sig) (x:Mn (Fl×Lo)) (c:Nat) (nm:Option Nat) (h:Lo->Mn V) (r:Lo):Mn (Fl×Lo):=fun m=>match x m with
 | .ok a m'=>.ok a m'
 | .exc d m'=>dB6 S c nm h r d m'
 | .bad=>.bad
mutual
noncomputable def ex (S:Sig) (F:Fns):CS->Lo->Mn (Fl×Lo)
 | .asg t e,r=>bnd (ev S F e r) fun v=>bnd (asgT S F t v r) fun r'=>ret (.next,r')
 | .exp e,r=>bnd (ev S F e r) fun y_=>ret (.next,r)
 | .ite c a b,r=>bnd (evT S F c r) fun t=>if t then exs S F a r else exs S F b r
 | .for_ k t src body,r=>bnd (evs S F src r) fun vs=>bnd (aB1 k vs) fun p=>aN2 p.2 (fun v r'=>bnd (aH5 t v r') fun r''=>exs S F body r'') p.1 r
 | .wh c body,r=>cK6 (fun r'=>evT S F c r') (fun r'=>exs S F body r') fuelW r
 | .ret e,r=>bnd (ev S F e r) fun v=>ret (.ret v,r)
 | .rse c _,_=>fun m=>.exc c m
 | .try_ body c nm h,r=>bP0 S (exs S F body r) c nm (fun r'=>ev S F h r') r
 | .cont,r=>ret (.cont,r)
 | .pass,r=>ret (.next,r)
noncomputable def exs (S:Sig) (F:Fns):List CS->Lo->Mn (Fl×Lo)
 | [],r=>ret (.next,r)
 | s::ss,r=>bnd (ex S F s r) fun p=>match p.1 with
  | .next=>exs S F ss p.2
  | f=>ret (f,p.2)
end
noncomputable def finF (p:Fl×Lo):Mn V:=match p.1 with
 | .ret v=>ret v
 | .next=>ret .none
 | .cont=>bad
noncomputable def bC2 (S:Sig) (F:Fns) (k:Nat) (vs:List V):Mn V:=match S.fns[k]? with
 | some d=>if vs.length=d.np then bnd (exs S F d.body (vs.map some++List.replicate (d.names.length - d.np) Option.none)) finF else bad
 | Option.none=>bad
noncomputable def run (S:Sig):Nat->Fns
 | 0=>fun y_ y_=>bad
 | n+1=>bC2 S (run S n)
theorem dF3 {a b:Int} (h:Ky.int a=Ky.int b):a=b:=by injection h
theorem ky_t {a b:List (Sum Int Str)} (h:Ky.tup a=Ky.tup b):a=b:=by injection h
theorem aF {α:Type} {a b:α} {C:Prop} (h:some a=some b) (k:a=b->C):C:=k (Option.some.inj h)
theorem aC5 {α:Type} {a b:α} {m m':MH} {C:Prop} (h:Res.ok a m=Res.ok b m') (k:a=b->m=m'->C):C:=by injection h with e1 e2;exact k e1 e2
end Mini.Internal
namespace Mini.Internal
open PySem
theorem hide {C:Prop} (h:∀ G:Prop,(C->G)->G):C:=h C id
structure Wd where
 prog:Program
 w:World
 S:Sig
 fa:Nat->Addr
 ca:Nat->Addr
 base:Heap
noncomputable abbrev Io:=List (Addr×Addr)
noncomputable def dJ (io:Io) (b:Addr):Prop:=∃ p∈io,b=p.1 \/ b=p.2
theorem eK {io new:Io} {b:Addr} (x:dJ (io++new) b):dJ io b \/ dJ new b:=by
 refine hide fun G_ g_=>?_;rcases x with ⟨p,hp,e⟩;refine g_ ?_;clear g_ G_
 rcases List.mem_append.mp hp with h | h
 ·exact .inl ⟨p,h,e⟩
 ·exact .inr ⟨p,h,e⟩
noncomputable def IntsR:List Int->List Value->Prop
 | [],us=>us=[]
 | i::ns,us=>∃ t vs,us=.int i t::vs /\ IntsR ns vs
theorem IntsR.nil:IntsR [] []:=rfl
theorem IntsR.cons (i:Int) (t:Tok) {ns:List Int} {vs:List Value} (h:IntsR ns vs):IntsR (i::ns) (.int i t::vs):=⟨t,vs,rfl,h⟩
noncomputable abbrev cZ5 (vs:Array Value) (n:Nat):Obj:={ cls:=.type "tuple",data:=.seq vs n }
noncomputable abbrev fQ (vs:Array Value) (n:Nat):Obj:={ cls:=.type "list",data:=.seq vs n }
mutual
noncomputable def VR (W:Wd) (h:Heap) (io:Io):V->Value->Prop
 | .none,u=>u=.none
 | .bool b,u=>u=.bool b
 | .int i,u=>∃ t,u=.int i t
 | .str s,u=>∃ t,u=.str s t /\ PyData.strOk s=true
 | .tup xs,u=>∃ a vs n,u=.ref a /\ h.get? a=some (cZ5 vs n) /\ VRs W h io xs vs.toList
 | .ref n,u=>∃ a d,u=.ref a /\ io[n]?=some (a,d)
 | .fn k,u=>u=.ref (W.fa k)
 | .exc c,u=>∃ a o vs,u=.ref a /\ h.get? a=some o /\ o.cls=.ref (W.ca c) /\ o.data=.fields vs
 | .scr ns,u=>∃ l o vs n,u=.ref l /\ W.base.get? l=some o /\ o.cls=.type "list" /\ o.data=.seq vs n /\ IntsR ns vs.toList /\ ns.length <= lid
noncomputable def VRs (W:Wd) (h:Heap) (io:Io):List V->List Value->Prop
 | [],us=>us=[]
 | x::xs,us=>∃ v vs,us=v::vs /\ VR W h io x v /\ VRs W h io xs vs
end
section
variable {W:Wd} {h:Heap} {io:Io}
theorem VR.none:VR W h io .none .none:=rfl
theorem VR.bool (b:Bool):VR W h io (.bool b) (.bool b):=rfl
theorem VR.int (i:Int) (t:Tok):VR W h io (.int i) (.int i t):=⟨t,rfl⟩
theorem VR.str (s:Str) (t:Tok) (k:PyData.strOk s=true):VR W h io (.str s) (.str s t):=⟨t,rfl,k⟩
theorem VR.tup {a:Addr} {vs:Array Value} {n:Nat} {xs:List V} (h1:h.get? a=some (cZ5 vs n)) (h2:VRs W h io xs vs.toList):VR W h io (.tup xs) (.ref a):=⟨a,vs,n,rfl,h1,h2⟩
theorem VR.ref {n:Nat} {a d:Addr} (h1:io[n]?=some (a,d)):VR W h io (.ref n) (.ref a):=⟨a,d,rfl,h1⟩
theorem VR.fn (k:Nat):VR W h io (.fn k) (.ref (W.fa k)):=rfl
theorem VR.exc {c:Nat} {a:Addr} {o:Obj} {vs:Array Value} (h1:h.get? a=some o) (h2:o.cls=.ref (W.ca c)) (h3:o.data=.fields vs):VR W h io (.exc c) (.ref a):=⟨a,o,vs,rfl,h1,h2,h3⟩
theorem VR.scr {ns:List Int} {l:Addr} {o:Obj} {vs:Array Value} {n:Nat} (h1:W.base.get? l=some o) (h2:o.cls=.type "list") (h3:o.data=.seq vs n) (h4:IntsR ns vs.toList) (h5:ns.length <= lid):VR W h io (.scr ns) (.ref l):=⟨l,o,vs,n,rfl,h1,h2,h3,h4,h5⟩
theorem VRs.nil:VRs W h io [] []:=rfl
theorem VRs.cons {x:V} {v:Value} {xs:List V} {vs:List Value} (h1:VR W h io x v) (h2:VRs W h io xs vs):VRs W h io (x::xs) (v::vs):=⟨v,vs,rfl,h1,h2⟩
end
section
variable {W:Wd} {h:Heap} {io:Io} {u:Value} {C:Value->Prop}
@[elab_as_elim] theorem VR.dInt {i:Int} (k:VR W h io (.int i) u) (c:∀ t,C (.int i t)):C u:=by rcases k with ⟨t,rfl⟩;exact c t
@[elab_as_elim] theorem VR.dStr {s:Str} (k:VR W h io (.str s) u) (c:∀ t,PyData.strOk s=true->C (.str s t)):C u:=by rcases k with ⟨t,rfl,k⟩;exact c t k
@[elab_as_elim] theorem VR.dTup {xs:List V} (k:VR W h io (.tup xs) u) (c:∀ a vs n,h.get? a=some (cZ5 vs n)->VRs W h io xs vs.toList->C (.ref a)):C u:=by rcases k with ⟨a,vs,n,rfl,h1,h2⟩;exact c a vs n h1 h2
@[elab_as_elim] theorem VR.dRef {n:Nat} (k:VR W h io (.ref n) u) (c:∀ a d,io[n]?=some (a,d)->C (.ref a)):C u:=by rcases k with ⟨a,d,rfl,h1⟩;exact c a d h1
@[elab_as_elim] theorem VR.dScr {ns:List Int} (k:VR W h io (.scr ns) u) (c:∀ l o vs n,W.base.get? l=some o->o.cls=.type "list"->o.data=.seq vs n->IntsR ns vs.toList->ns.length <= lid->C (.ref l)):C u:=by rcases k with ⟨l,o,vs,n,rfl,h1,h2,h3,h4,h5⟩;exact c l o vs n h1 h2 h3 h4 h5
theorem VR.elim {C:(v:V)->(u:Value)->VR W h io v u->Prop} (none:C .none .none .none) (bool:∀ b,C (.bool b) (.bool b) (.bool b)) (int:∀ i t,C (.int i) (.int i t) (.int i t)) (str:∀ s t k,C (.str s) (.str s t) (.str s t k))
  (tup:∀ {a:Addr} {vs:Array Value} {n:Nat} {xs:List V} (h1:h.get? a=some (cZ5 vs n)) (h2:VRs W h io xs vs.toList),C (.tup xs) (.ref a) (.tup h1 h2)) (ref:∀ {n:Nat} {a d:Addr} (h1:io[n]?=some (a,d)),C (.ref n) (.ref a) (.ref h1)) (fn:∀ k,C (.fn k) (.ref (W.fa k)) (.fn k))
  (exc:∀ {c:Nat} {a:Addr} {o:Obj} {vs:Array Value} (h1:h.get? a=some o) (h2:o.cls=.ref (W.ca c)) (h3:o.data=.fields vs),C (.exc c) (.ref a) (.exc h1 h2 h3))
  (scr:∀ {ns:List Int} {l:Addr} {o:Obj} {vs:Array Value} {n:Nat} (h1:W.base.get? l=some o) (h2:o.cls=.type "list") (h3:o.data=.seq vs n) (h4:IntsR ns vs.toList) (h5:ns.length <= lid),C (.scr ns) (.ref l) (.scr h1 h2 h3 h4 h5))
  {v:V} {u:Value} (k:VR W h io v u):C v u k:=by
 cases v with
 | none=>obtain rfl:u=.none:=k;exact none
 | bool b=>obtain rfl:u=.bool b:=k;exact bool b
 | int i=>rcases k with ⟨t,rfl⟩;exact int i t
 | str s=>rcases k with ⟨t,rfl,k⟩;exact str s t k
 | tup xs=>rcases k with ⟨a,vs,n,rfl,h1,h2⟩;exact tup h1 h2
 | ref n=>rcases k with ⟨a,d,rfl,h1⟩;exact ref h1
 | fn n=>obtain rfl:u=.ref (W.fa n):=k;exact fn n
 | exc c=>rcases k with ⟨a,o,vs,rfl,h1,h2,h3⟩;exact exc h1 h2 h3
 | scr ns=>rcases k with ⟨l,o,vs,n,rfl,h1,h2,h3,h4,h5⟩;exact scr h1 h2 h3 h4 h5
theorem VRs.cc {x:V} {v:Value} {xs:List V} {vs:List Value} (k:VRs W h io (x::xs) (v::vs)):VR W h io x v /\ VRs W h io xs vs:=by rcases k with ⟨y_,y_,e,h1,h2⟩;injection e with e1 e2;subst e1;subst e2;exact ⟨h1,h2⟩
theorem VRs.elim {C:(xs:List V)->(us:List Value)->VRs W h io xs us->Prop} (nil:C [] [] .nil) (cons:∀ {x:V} {v:Value} {xs:List V} {vs:List Value} (h1:VR W h io x v) (h2:VRs W h io xs vs),C (x::xs) (v::vs) (.cons h1 h2)) {xs:List V} {us:List Value} (k:VRs W h io xs us):C xs us k:=by
 cases xs with
 | nil=>obtain rfl:us=[]:=k;exact nil
 | cons x xs=>rcases k with ⟨v,vs,rfl,h1,h2⟩;exact cons h1 h2
variable {us:List Value} {D:List Value->Prop}
@[elab_as_elim] theorem VRs.dNil (k:VRs W h io [] us) (c:D []):D us:=Eq.symm (show us=_ from k)▸c
@[elab_as_elim] theorem VRs.dCons {x:V} {xs:List V} (k:VRs W h io (x::xs) us) (c:∀ v vs,VR W h io x v->VRs W h io xs vs->D (v::vs)):D us:=by rcases k with ⟨v,vs,rfl,h1,h2⟩;exact c v vs h1 h2
@[elab_as_elim] theorem VRs.d1 {x:V} (k:VRs W h io [x] us) (c:∀ v,VR W h io x v->D [v]):D us:=VRs.dCons k fun v y_ h1 h2=>VRs.dNil h2 (c v h1)
end
end Mini.Internal
namespace Mini.Internal
open PySem
noncomputable def bZ6 (w:World):Sum Int Str->Int
 | .inl i=>hashInt i
 | .inr s=>hashStr w s
noncomputable def bG0 (w:World):Ky->Int
 | .int i=>hashInt i
 | .str s=>hashStr w s
 | .tup ks=>reduceHash (Builtin.Tuple.tupleHashOf (ks.map (bZ6 w)))
noncomputable def ERs (W:Wd) (h:Heap) (io:Io):List (Ky×V)->List DictEntry->Prop
 | [],es=>es=[]
 | p::kvs,es=>∃ key u es',es=⟨bG0 W.w p.1,key,u⟩::es' /\ VR W h io p.1.val key /\ VR W h io p.2 u /\ ERs W h io kvs es'
theorem ERs.nil {W:Wd} {h:Heap} {io:Io}:ERs W h io [] []:=rfl
theorem ERs.cons {W:Wd} {h:Heap} {io:Io} {k:Ky} {v:V} {key u:Value} {kvs:List (Ky×V)} {es:List DictEntry} (h1:VR W h io k.val key) (h2:VR W h io v u) (h3:ERs W h io kvs es):ERs W h io ((k,v)::kvs) (⟨bG0 W.w k,key,u⟩::es):=⟨key,u,es,rfl,h1,h2,h3⟩
theorem ERs.ind {W:Wd} {h:Heap} {io:Io} {C:(kvs:List (Ky×V))->(es:List DictEntry)->ERs W h io kvs es->Prop} (nil:C [] [] .nil)
  (cons:∀ {k:Ky} {v:V} {key u:Value} {kvs:List (Ky×V)} {es:List DictEntry} (h1:VR W h io k.val key) (h2:VR W h io v u) (h3:ERs W h io kvs es),C kvs es h3->C ((k,v)::kvs) (⟨bG0 W.w k,key,u⟩::es) (.cons h1 h2 h3)) {kvs:List (Ky×V)} {es:List DictEntry} (x:ERs W h io kvs es):C kvs es x:=by
 induction kvs generalizing es with
 | nil=>obtain rfl:es=[]:=x;exact nil
 | cons p kvs ih=>rcases x with ⟨key,u,es',rfl,h1,h2,h3⟩;exact cons h1 h2 h3 (ih h3)
noncomputable def FEs (W:Wd) (h:Heap) (io:Io) (fs:List (Nat×V)) (mA:Str->Option Value):Prop:=
 (∀ x u,mA x=some u->∃ i v,W.S.attrs[i]?=some x /\ aK5 i fs=some v /\ VR W h io v u) /\ (∀ i v,aK5 i fs=some v->∃ x u,W.S.attrs[i]?=some x /\ mA x=some u /\ VR W h io v u)
structure ClsOk (W:Wd) (c:Nat) (D:ClsD) (N:Addr) (mN:Str->Option Value):Prop where
 dat:W.S.cls[c]?=some D
 exc:D.exc=false
 obj:∃ nm q bs sn sub col dd k0 k1 k2 k3 k5,W.base.get? (W.ca c)=some (excClassObj nm q (W.ca c) N bs [.type "object"] true sn sub false col dd k0 k1 k2 k3 k5 "object.__new__")
 ns:W.base.Ns N mN
 ga:mN "__getattribute__"=none
 gh:mN "__getattr__"=none
 sa:mN "__setattr__"=none
 has:∀ (i:Nat) (x:Str),W.S.attrs[i]?=some x->mN x=(D.meths.lookup i).map fun k=>.ref (W.fa k)
 low:∀ (i:Nat) (x:Str),W.S.attrs[i]?=some x->typeLookup (.type "object") x=pure none
 uniq:∀ (i j:Nat) (x:Str),W.S.attrs[i]?=some x->W.S.attrs[j]?=some x->i=j
 few:W.S.attrs.length <= 1000
 mlt:∀ (i k:Nat),D.meths.lookup i=some k->k < W.S.fns.length
noncomputable abbrev cV9 (C dx:Addr):Obj:={ cls:=.ref C,dict:=some dx,data:=.plain }
noncomputable abbrev dH9 (es:List DictEntry) (n:Nat):Obj:={ cls:=.type "dict",data:=.dict es.toArray n }
inductive ORl (W:Wd) (h:Heap) (io:Io) (a d:Addr) (xs:List V):Prop
 | mk (e:a=d) (vs:Array Value) (n:Nat) (h1:h.get? a=some (fQ vs n)) (h2:VRs W h io xs vs.toList) (h3:xs.length <= lid)
inductive ORd (W:Wd) (h:Heap) (io:Io) (a d:Addr) (kvs:List (Ky×V)):Prop
 | mk (e:a=d) (o:Obj) (es:Array DictEntry) (n:Nat) (h1:h.get? a=some o) (h2:o.ExactDict) (h3:o.data=.dict es n) (h4:ERs W h io kvs es.toList) (h5:(kvs.map (·.1)).Nodup /\ kvs.length <= lid)
inductive ORi (W:Wd) (h:Heap) (io:Io) (a d:Addr) (c:Nat) (fs:List (Nat×V)):Prop
 | mk (e:a≠d) (mA:Str->Option Value) (h1:h.get? a=some (cV9 (W.ca c) d)) (h2:h.Ns1 d mA) (h3:FEs W h io fs mA) (h4:∃ D N mN,ClsOk W c D N mN)
noncomputable def OR (W:Wd) (h:Heap) (io:Io) (a d:Addr):MObj->Prop
 | .list xs=>ORl W h io a d xs
 | .dict kvs _=>ORd W h io a d kvs
 | .inst c fs=>ORi W h io a d c fs
structure HR (W:Wd) (h:Heap) (io:Io) (m:MH):Prop where
 keep:W.base.StaysIn h
 len:io.length=m.length
 obj:∀ (n:Nat) (p:Addr×Addr) (o:MObj),io[n]?=some p->m[n]?=some o->OR W h io p.1 p.2 o
 fresh:∀ b,dJ io b->W.base.get? b=none
 apart:∀ (i j:Nat) (p q:Addr×Addr),i≠j->io[i]?=some p->io[j]?=some q->p.1≠q.1 /\ p.1≠q.2 /\ p.2≠q.2
noncomputable def cX (o:Obj):Prop:=(o.cls=.type "tuple" /\ ∃ vs n,o.data=.seq vs n) \/ (∃ C vs,o.cls=.ref C /\ o.data=.fields vs)
structure Step (own fr:List Addr) (h:Heap) (io:Io) (m:MH) (h':Heap) (io':Io) (m':MH):Prop where
 alive:∀ b o,h.get? b=some o->∃ o',h'.get? b=some o'
 solid:∀ b o,h.get? b=some o->cX o->h'.get? b=some o
 keep:∀ b o,h.get? b=some o->¬ dJ io b->b∉own->b∉fr->h'.get? b=some o
 slots:∀ b o,h.get? b=some o->¬ dJ io b->b∉own->∃ sl,h'.get? b=some { o with slots:=sl }
 grow:∃ new,io'=io++new /\ ∀ p∈new,h.get? p.1=none /\ h.get? p.2=none
 dicts:∀ (n:Nat) (p:Addr×Addr) (kvs:List (Ky×V)) (e:Nat),io[n]?=some p->m[n]?=some (.dict kvs e)->∃ (kvs':List (Ky×V)) (e':Nat),m'[n]?=some (.dict kvs' e') /\ e <= e' /\ (e'=e->h'.get? p.1=h.get? p.1 /\ kvs'=kvs)
section
variable {W:Wd} {h h' h'':Heap} {io io' io'':Io} {m m' m'':MH} {own fr:List Addr}
theorem Step.refl:Step own fr h io m h io m where
 alive:=fun y_ o e=>⟨o,e⟩
 solid:=fun y_ y_ e y_=>e
 keep:=fun y_ y_ e y_ y_ y_=>e
 slots:=fun y_ o e y_ y_=>⟨o.slots,e⟩
 grow:=⟨[],by simp,fun y_ hp=>nomatch hp⟩
 dicts:=fun y_ y_ kvs e y_ hm=>⟨kvs,e,hm,Nat.le_refl _,fun y_=>⟨rfl,rfl⟩⟩
theorem Step.nofoot (x:Step own fr h io m h' io' m') {b:Addr} {o:Obj} (hb:h.get? b=some o) (hf:¬ dJ io b):¬ dJ io' b:=by
 refine hide fun G_ g_=>?_;rcases x.grow with ⟨new,rfl,hn⟩;refine g_ ?_;clear g_ G_
 intro q
 rcases eK q with q | ⟨p,hp,e⟩
 ·exact hf q
 ·rcases e with e | e
  ·rw [e,(hn p hp).1] at hb;injection hb
  ·rw [e,(hn p hp).2] at hb;injection hb
theorem Step.trans (x:Step own fr h io m h' io' m') (y:Step own fr h' io' m' h'' io'' m''):Step own fr h io m h'' io'' m'' where
 alive:=fun b o e=>let ⟨o',e'⟩:=x.alive b o e;y.alive b o' e'
 solid:=fun b o e s=>y.solid b o (x.solid b o e s) s
 keep:=fun b o e f1 f2 f3=>y.keep b o (x.keep b o e f1 f2 f3) (x.nofoot e f1) f2 f3
 slots:=fun b o e f1 f2=>by
  rcases x.slots b o e f1 f2 with ⟨sl,e'⟩
  rcases y.slots b _ e' (x.nofoot e f1) f2 with ⟨sl',e''⟩
  exact ⟨sl',e''⟩
 grow:=by
  refine hide fun G_ g_=>?_
  rcases x.grow with ⟨n1,rfl,h1⟩
  rcases y.grow with ⟨n2,rfl,h2⟩
  refine g_ ?_
  clear g_ G_
  refine ⟨n1++n2,by simp,fun p hp=>?_⟩
  rcases List.mem_append.mp hp with hp | hp
  ·exact h1 p hp
  ·have back:∀ b,h'.get? b=none->h.get? b=none:=fun b e=>by
    cases q:h.get? b with
    | none=>rfl
    | some o=>rcases x.alive b o q with ⟨o',e'⟩;rw [e] at e';injection e'
   exact ⟨back _ (h2 p hp).1,back _ (h2 p hp).2⟩
 dicts:=fun n p kvs e hi hm=>by
  refine hide fun G_ g_=>?_
  rcases x.dicts n p kvs e hi hm with ⟨k1,e1,hm1,l1,s1⟩
  have hi':io'[n]?=some p:=by
   refine hide fun G_ g_=>?_;rcases x.grow with ⟨new,rfl,y_⟩;refine g_ ?_;clear g_ G_
   rw [List.getElem?_append_left (by exact (List.getElem?_eq_some_iff.mp hi).1)];exact hi
  rcases y.dicts n p k1 e1 hi' hm1 with ⟨k2,e2,hm2,l2,s2⟩
  refine g_ ?_
  clear g_ G_
  refine ⟨k2,e2,hm2,Nat.le_trans l1 l2,fun q=>?_⟩
  have q1:e1=e:=by lia
  have q2:e2=e1:=by lia
  exact ⟨(s2 q2).1.trans (s1 q1).1,(s2 q2).2.trans (s1 q1).2⟩
theorem Step.io_get (x:Step own fr h io m h' io' m') {n:Nat} {p:Addr×Addr} (hi:io[n]?=some p):io'[n]?=some p:=by
 refine hide fun G_ g_=>?_;rcases x.grow with ⟨new,rfl,y_⟩;refine g_ ?_;clear g_ G_
 rw [List.getElem?_append_left (List.getElem?_eq_some_iff.mp hi).1];exact hi
theorem VR.both (x:∀ b o,h.get? b=some o->cX o->h'.get? b=some o) (y:∀ (n:Nat) (p:Addr×Addr),io[n]?=some p->io'[n]?=some p):(∀ (v:V) (u:Value),VR W h io v u->VR W h' io' v u) /\ (∀ (v:List V) (u:List Value),VRs W h io v u->VRs W h' io' v u):=by
 have key:∀ v:V,∀ u:Value,VR W h io v u->VR W h' io' v u:=fun v=>V.rec (motive_1:=fun v=>∀ u,VR W h io v u->VR W h' io' v u) (motive_2:=fun v=>∀ u,VRs W h io v u->VRs W h' io' v u) (fun y_ k=>k) (fun y_ y_ k=>k) (fun y_ y_ k=>k) (fun y_ y_ k=>k)
  (fun y_ ih y_ k=>k.imp fun y_ k=>k.imp fun y_ k=>k.imp fun y_ k=>⟨k.1,x _ _ k.2.1 (.inl ⟨rfl,_,_,rfl⟩),ih _ k.2.2⟩) (fun y_ y_ k=>k.imp fun y_ k=>k.imp fun y_ k=>⟨k.1,y _ _ k.2⟩) (fun y_ y_ k=>k)
  (fun y_ y_ k=>k.imp fun y_ k=>k.imp fun y_ k=>k.imp fun y_ k=>⟨k.1,x _ _ k.2.1 (.inr ⟨_,_,k.2.2.1,k.2.2.2⟩),k.2.2⟩) (fun y_ y_ k=>k) (fun y_ k=>k) (fun y_ y_ i1 i2 y_ k=>k.imp fun y_ k=>k.imp fun y_ k=>⟨k.1,i1 _ k.2.1,i2 _ k.2.2⟩) v
 exact ⟨key,fun v=>List.rec (motive:=fun v=>∀ u,VRs W h io v u->VRs W h' io' v u) (fun y_ k=>k) (fun a y_ ih y_ k=>k.imp fun y_ k=>k.imp fun y_ k=>⟨k.1,key a _ k.2.1,ih _ k.2.2⟩) v⟩
theorem VR.mono (x:∀ b o,h.get? b=some o->cX o->h'.get? b=some o) (y:∀ (n:Nat) (p:Addr×Addr),io[n]?=some p->io'[n]?=some p) {v:V} {u:Value} (k:VR W h io v u):VR W h' io' v u:=(VR.both x y).1 v u k
theorem VRs.mono (x:∀ b o,h.get? b=some o->cX o->h'.get? b=some o) (y:∀ (n:Nat) (p:Addr×Addr),io[n]?=some p->io'[n]?=some p) {v:List V} {u:List Value} (k:VRs W h io v u):VRs W h' io' v u:=(VR.both x y).2 v u k
theorem ERs.mono (x:∀ b o,h.get? b=some o->cX o->h'.get? b=some o) (y:∀ (n:Nat) (p:Addr×Addr),io[n]?=some p->io'[n]?=some p) {kvs:List (Ky×V)} {es:List DictEntry} (e:ERs W h io kvs es):ERs W h' io' kvs es:=
 List.rec (motive:=fun kvs=>∀ es,ERs W h io kvs es->ERs W h' io' kvs es) (fun y_ k=>k) (fun y_ y_ ih y_ k=>k.imp fun y_ k=>k.imp fun y_ k=>k.imp fun y_ k=>⟨k.1,k.2.1.mono x y,k.2.2.1.mono x y,ih _ k.2.2.2⟩) kvs es e
theorem FEs.mono (x:∀ b o,h.get? b=some o->cX o->h'.get? b=some o) (y:∀ (n:Nat) (p:Addr×Addr),io[n]?=some p->io'[n]?=some p) {fs:List (Nat×V)} {mA:Str->Option Value} (e:FEs W h io fs mA):FEs W h' io' fs mA:=
 ⟨fun z u q=>(e.1 z u q).imp fun y_ q=>q.imp fun y_ q=>⟨q.1,q.2.1,q.2.2.mono x y⟩,fun i v q=>(e.2 i v q).imp fun y_ q=>q.imp fun y_ q=>⟨q.1,q.2.1,q.2.2.mono x y⟩⟩
theorem VR.step (x:Step own fr h io m h' io' m') {v:V} {u:Value} (k:VR W h io v u):VR W h' io' v u:=k.mono x.solid fun y_ y_=>x.io_get
theorem VRs.step (x:Step own fr h io m h' io' m') {v:List V} {u:List Value} (k:VRs W h io v u):VRs W h' io' v u:=k.mono x.solid fun y_ y_=>x.io_get
theorem ERs.step (x:Step own fr h io m h' io' m') {kvs:List (Ky×V)} {es:List DictEntry} (e:ERs W h io kvs es):ERs W h' io' kvs es:=e.mono x.solid fun y_ y_=>x.io_get
theorem FEs.step (x:Step own fr h io m h' io' m') {fs:List (Nat×V)} {mA:Str->Option Value} (e:FEs W h io fs mA):FEs W h' io' fs mA:=e.mono x.solid fun y_ y_=>x.io_get
theorem VRs.length {xs:List V} {vs:List Value} (x:VRs W h io xs vs):vs.length=xs.length:=by
 induction xs generalizing vs with
 | nil=>rw [x];rfl
 | cons y ys ih=>rcases x with ⟨y_,y_,rfl,y_,r⟩;exact congrArg Nat.succ (ih r)
theorem VRs.get {xs:List V} {vs:List Value} (x:VRs W h io xs vs) {k:Nat} {v:V} (hk:xs[k]?=some v):∃ u,vs[k]?=some u /\ VR W h io v u:=by
 induction xs generalizing vs k with
 | nil=>injection hk
 | cons y ys ih=>
  rcases x with ⟨y_,y_,rfl,h1,r⟩
  cases k with
  | zero=>(refine aF hk fun z1=>?_;clear hk;subst z1);exact ⟨_,rfl,h1⟩
  | succ k=>exact ih r hk
theorem VRs.append {xs ys:List V} {vs us:List Value} (x:VRs W h io xs vs) (y:VRs W h io ys us):VRs W h io (xs++ys) (vs++us):=by
 induction xs generalizing vs with
 | nil=>rw [x];exact y
 | cons z zs ih=>rcases x with ⟨y_,y_,rfl,h1,r⟩;exact .cons h1 (ih r)
theorem VRs.snoc {xs:List V} {vs:List Value} {v:V} {u:Value} (x:VRs W h io xs vs) (y:VR W h io v u):VRs W h io (xs++[v]) (vs++[u]):=x.append (.cons y .nil)
theorem VRs.take {xs:List V} {vs:List Value} (x:VRs W h io xs vs) (k:Nat):VRs W h io (xs.take k) (vs.take k):=by
 induction xs generalizing vs k with
 | nil=>rw [x,List.take_nil,List.take_nil];exact .nil
 | cons z zs ih=>rcases x with ⟨y_,y_,rfl,h1,r⟩;cases k with
  | zero=>exact .nil
  | succ k=>exact .cons h1 (ih r k)
theorem VRs.drop {xs:List V} {vs:List Value} (x:VRs W h io xs vs) (k:Nat):VRs W h io (xs.drop k) (vs.drop k):=by
 induction xs generalizing vs k with
 | nil=>rw [x,List.drop_nil,List.drop_nil];exact .nil
 | cons z zs ih=>rcases x with ⟨y_,y_,rfl,h1,r⟩;cases k with
  | zero=>exact .cons h1 r
  | succ k=>exact ih r k
theorem IntsR.length {ns:List Int} {vs:List Value} (x:IntsR ns vs):vs.length=ns.length:=by
 induction ns generalizing vs with
 | nil=>rw [x];rfl
 | cons i ns ih=>rcases x with ⟨y_,y_,rfl,r⟩;exact congrArg Nat.succ (ih r)
theorem IntsR.vrs {ns:List Int} {vs:List Value} (x:IntsR ns vs):VRs W h io (ns.map .int) vs:=by
 induction ns generalizing vs with
 | nil=>exact x
 | cons i ns ih=>rcases x with ⟨t,y_,rfl,r⟩;exact .cons (.int i t) (ih r)
theorem OR.step_same (x:Step own fr h io m h' io' m') {a d:Addr} {o:MObj} (k:OR W h io a d o) (ha:∀ o,h.get? a=some o->h'.get? a=some o) (hd:∀ o,h.get? d=some o->h'.get? d=some o):OR W h' io' a d o:=by
 cases o with
 | list xs=>
  refine hide fun G_ g_=>?_;rcases k with ⟨e,vs,n,h1,h4,h5⟩;refine g_ ?_;clear g_ G_
  exact ⟨e,vs,n,ha _ h1,h4.step x,h5⟩
 | dict kvs ep=>
  refine hide fun G_ g_=>?_;rcases k with ⟨e,o,es,n,h1,h2,h3,h4,h5⟩;refine g_ ?_;clear g_ G_
  exact ⟨e,o,es,n,ha _ h1,h2,h3,h4.step x,h5⟩
 | inst c fs=>
  refine hide fun G_ g_=>?_;rcases k with ⟨e,mA,h1,h2,h3,h4⟩;refine g_ ?_;clear g_ G_
  exact ⟨e,mA,ha _ h1,h2.at hd,h3.step x,h4⟩
theorem HR.foot {b:Addr} (x:HR W h io m) (f:dJ io b):∃ o,h.get? b=some o /\ ¬ cX o /\ (∀ v,o.data≠.cell v) /\ (∀ vs,o.data≠.fields vs) /\ (∀ f,o.data≠.func f):=by
 refine hide fun G_ g_=>?_;rcases f with ⟨p,hp,e⟩;refine g_ ?_;clear g_ G_
 rcases List.getElem?_of_mem hp with ⟨n,hn⟩
 have hlt:n < m.length:=by rw [<- x.len];exact (List.getElem?_eq_some_iff.mp hn).1
 have hm:m[n]?=some m[n]:=List.getElem?_eq_getElem hlt
 have k:=x.obj n p _ hn hm
 have sd:∀ o:Obj,o.ExactDict->∀ es ep,o.data=.dict es ep->¬ cX o:=by
  rintro o hx es ep hd (⟨hc,vs,n,hs⟩ | ⟨C,vs,hc,hs⟩)
  ·rw [hd] at hs;injection hs
  ·rw [hd] at hs;injection hs
 cases hq:m[n] with
 | list xs=>
  rw [hq] at k
  refine hide fun G_ g_=>?_;rcases k with ⟨e',vs,n',h1,y_⟩;refine g_ ?_;clear g_ G_
  refine ⟨fQ vs n',?_,?_,?_,?_,?_⟩
  ·rcases e with e | e
   ·rw [e];exact h1
   ·rw [e,<- e'];exact h1
  ·rintro (⟨hc,y_⟩ | ⟨C,ws,hc,hs⟩)
   ·simp at hc
   ·injection hs
  all_goals (intro v q;injection q)
 | dict kvs ep=>
  rw [hq] at k
  refine hide fun G_ g_=>?_;rcases k with ⟨e',o,es,n',h1,h2,h3,y_⟩;refine g_ ?_;clear g_ G_
  refine ⟨o,?_,sd o h2 _ _ h3,?_,?_,?_⟩
  ·rcases e with e | e
   ·rw [e];exact h1
   ·rw [e,<- e'];exact h1
  ·intro v q;rw [h3] at q;injection q
  ·intro v q;rw [h3] at q;injection q
  ·intro v q;rw [h3] at q;injection q
 | inst c fs=>
  rw [hq] at k
  refine hide fun G_ g_=>?_;rcases k with ⟨e',mA,h1,⟨od,es,n',h2,h3,y_⟩,y_⟩;refine g_ ?_;clear g_ G_
  rcases e with e | e
  ·refine ⟨_,by rw [e];exact h1,?_,?_,?_,?_⟩
   ·rintro (⟨hc,y_⟩ | ⟨C,ws,hc,hs⟩)
    ·injection hc
    ·injection hs
   all_goals (intro v q;injection q)
  ·refine ⟨_,by rw [e];exact h2,?_,?_,?_,?_⟩
   ·rintro (⟨y_,vs,n,hs⟩ | ⟨C,vs,hc,hs⟩)
    ·rw [h3] at hs;injection hs
    ·rw [h3] at hs;injection hs
   all_goals (intro v q;rw [h3] at q;injection q)
theorem HR.nofoot_of_solid {b:Addr} {o:Obj} (x:HR W h io m) (hb:h.get? b=some o) (hs:cX o):¬ dJ io b:=fun f=>by
 refine hide fun G_ g_=>?_;rcases x.foot f with ⟨o',h1,h2,y_⟩;refine g_ ?_;clear g_ G_
 rw [hb] at h1;(refine aF h1 fun z1=>?_;clear h1;subst z1);exact h2 hs
theorem HR.nofoot_of_cell {b:Addr} {o:Obj} {v:Option Value} (x:HR W h io m) (hb:h.get? b=some o) (hs:o.data=.cell v):¬ dJ io b:=fun f=>by
 refine hide fun G_ g_=>?_;rcases x.foot f with ⟨o',h1,y_,h2,y_⟩;refine g_ ?_;clear g_ G_
 rw [hb] at h1;(refine aF h1 fun z1=>?_;clear h1;subst z1);exact h2 _ hs
theorem HR.there {n:Nat} {p:Addr×Addr} (x:HR W h io m) (hn:io[n]?=some p):∃ o,h.get? p.1=some o:=by
 refine hide fun G_ g_=>?_;rcases x.foot ⟨p,List.mem_of_getElem? hn,.inl rfl⟩ with ⟨o,ho,y_⟩;refine g_ ?_;clear g_ G_
 exact ⟨o,ho⟩
theorem Step.of_keeps (x:HR W h io m) (hk:∀ b o,h.get? b=some o->h'.get? b=some o):Step own fr h io m h' io m where
 alive:=fun b o e=>⟨o,hk b o e⟩
 solid:=fun b o e y_=>hk b o e
 keep:=fun b o e y_ y_ y_=>hk b o e
 slots:=fun b o e y_ y_=>⟨o.slots,hk b o e⟩
 grow:=⟨[],by simp,fun y_ hp=>nomatch hp⟩
 dicts:=fun n p kvs e hi hm=>⟨kvs,e,hm,Nat.le_refl _,fun y_=>⟨by
  rcases x.there hi with ⟨o,ho⟩
  rw [ho];exact hk _ _ ho,rfl⟩⟩
theorem HR.of_keeps (x:HR W h io m) (hk:∀ b o,h.get? b=some o->h'.get? b=some o):HR W h' io m where
 keep:=fun b o e=>hk b o (x.keep b o e)
 len:=x.len
 obj:=fun n p o hi hm=>(x.obj n p o hi hm).step_same (Step.of_keeps (own:=[]) (fr:=[]) x hk) (hk _) (hk _)
 fresh:=x.fresh
 apart:=x.apart
theorem HR.of_foot (x:HR W h io m) (st:Step own fr h io m h' io m) (hf:∀ b o,dJ io b->h.get? b=some o->h'.get? b=some o) (hb:W.base.StaysIn h'):HR W h' io m where
 keep:=hb
 len:=x.len
 obj:=fun n p o hi hm=>(x.obj n p o hi hm).step_same st (fun o e=>hf _ o ⟨p,List.mem_of_getElem? hi,.inl rfl⟩ e) (fun o e=>hf _ o ⟨p,List.mem_of_getElem? hi,.inr rfl⟩ e)
 fresh:=x.fresh
 apart:=x.apart
theorem fN {L:Addr} (x:HR W h io m) (hL:L∈own) (hk:∀ b o,b≠L->h.get? b=some o->h'.get? b=some o) (hs:∀ o,h.get? L=some o->¬ cX o /\ ∃ o',h'.get? L=some o') (hf:¬ dJ io L) :
  Step own fr h io m h' io m where
 alive:=fun b o e=>by
  by_cases q:b=L
  ·subst q;exact (hs o e).2
  ·exact ⟨o,hk b o q e⟩
 solid:=fun b o e so=>by
  by_cases q:b=L
  ·subst q;exact absurd so (hs o e).1
  ·exact hk b o q e
 keep:=fun b o e y_ ho y_=>hk b o (fun q=>ho (q▸hL)) e
 slots:=fun b o e y_ ho=>⟨o.slots,hk b o (fun q=>ho (q▸hL)) e⟩
 grow:=⟨[],by simp,fun y_ hp=>nomatch hp⟩
 dicts:=fun n p kvs e hi hm=>⟨kvs,e,hm,Nat.le_refl _,fun y_=>⟨by
  rcases x.there hi with ⟨o,ho⟩
  rw [ho];exact hk _ _ (fun q=>hf ⟨p,List.mem_of_getElem? hi,.inl q.symm⟩) ho,rfl⟩⟩
theorem HR.ofOwn {L:Addr} (x:HR W h io m) (hL:L∈own) (hk:∀ b o,b≠L->h.get? b=some o->h'.get? b=some o) (hs:∀ o,h.get? L=some o->¬ cX o /\ ∃ o',h'.get? L=some o') (hf:¬ dJ io L) (hb:W.base.get? L=none) :
  HR W h' io m:=x.of_foot (fr:=[]) (fN x hL hk hs hf) (fun b o f e=>hk b o (fun q=>hf (q▸f)) e) fun b o e=>hk b o (fun q=>by rw [q,hb] at e;injection e) (x.keep b o e)
theorem fO (x:HR W h io m) {a d:Addr} {o:MObj} (hk:∀ b o,h.get? b=some o->h'.get? b=some o) (ha:h.get? a=none) (hd:h.get? d=none) :
  Step own fr h io m h' (io++[(a,d)]) (m++[o]) where
 alive:=fun b o e=>⟨o,hk b o e⟩
 solid:=fun b o e y_=>hk b o e
 keep:=fun b o e y_ y_ y_=>hk b o e
 slots:=fun b o e y_ y_=>⟨o.slots,hk b o e⟩
 grow:=⟨[(a,d)],rfl,fun p hp=>by rw [List.mem_singleton.mp hp];exact ⟨ha,hd⟩⟩
 dicts:=fun n p kvs e hi hm=>⟨kvs,e,by rw [List.getElem?_append_left (List.getElem?_eq_some_iff.mp hm).1];exact hm,Nat.le_refl _,fun y_=>⟨by
  rcases x.there hi with ⟨o,ho⟩
  rw [ho];exact hk _ _ ho,rfl⟩⟩
theorem HR.alloc (x:HR W h io m) {a d:Addr} {o:MObj} (hk:∀ b o,h.get? b=some o->h'.get? b=some o) (ha:h.get? a=none) (hd:h.get? d=none)
  (k:OR W h' (io++[(a,d)]) a d o):HR W h' (io++[(a,d)]) (m++[o]) where
 keep:=fun b o e=>hk b o (x.keep b o e)
 len:=by simp [x.len]
 obj:=fun n p o' hi hm=>by
  by_cases q:n < io.length
  ·rw [List.getElem?_append_left q] at hi
   rw [List.getElem?_append_left (x.len▸q)] at hm
   exact (x.obj n p o' hi hm).step_same (fO (own:=[]) (fr:=[]) (o:=o) x hk ha hd) (hk _) (hk _)
  ·have q1:n=io.length:=by
    have:=(List.getElem?_eq_some_iff.mp hi).1
    simp at this;lia
   subst q1
   rw [List.getElem?_append_right (Nat.le_refl _)] at hi
   rw [x.len,List.getElem?_append_right (Nat.le_refl _)] at hm
   simp at hi hm
   subst hi hm
   exact k
 fresh:=fun b f=>by
  rcases eK f with f | ⟨p,hp,e⟩
  ·exact x.fresh b f
  ·rw [List.mem_singleton.mp hp] at e
   cases q:W.base.get? b with
   | none=>rfl
   | some o=>
    have:=x.keep b o q
    rcases e with e | e <;> subst e
    ·rw [ha] at this;injection this
    ·rw [hd] at this;injection this
 apart:=fun i j p q hij hi hj=>by
  have lo:∀ (n:Nat) (p:Addr×Addr),(io++[(a,d)])[n]?=some p->(n < io.length /\ io[n]?=some p) \/ (n=io.length /\ p=(a,d)):=fun n p hn=>by
   by_cases q:n < io.length
   ·rw [List.getElem?_append_left q] at hn;exact .inl ⟨q,hn⟩
   ·have q1:n=io.length:=by
     have:=(List.getElem?_eq_some_iff.mp hn).1
     simp at this;lia
    subst q1
    rw [List.getElem?_append_right (Nat.le_refl _)] at hn
    simp at hn
    exact .inr ⟨rfl,hn.symm⟩
  have off:∀ (n:Nat) (p:Addr×Addr),io[n]?=some p->p.1≠a /\ p.1≠d /\ p.2≠a /\ p.2≠d:=fun n p hn=>by
   refine hide fun G_ g_=>?_
   rcases x.foot ⟨p,List.mem_of_getElem? hn,.inl rfl⟩ with ⟨o1,h1,y_⟩
   rcases x.foot ⟨p,List.mem_of_getElem? hn,.inr rfl⟩ with ⟨o2,h2,y_⟩
   refine g_ ?_
   clear g_ G_
   refine ⟨fun e=>?_,fun e=>?_,fun e=>?_,fun e=>?_⟩
   ·rw [e,ha] at h1;injection h1
   ·rw [e,hd] at h1;injection h1
   ·rw [e,ha] at h2;injection h2
   ·rw [e,hd] at h2;injection h2
  rcases lo i p hi with ⟨_,hi⟩ | ⟨ei,rfl⟩ <;> rcases lo j q hj with ⟨_,hj⟩ | ⟨ej,rfl⟩
  ·exact x.apart i j p q hij hi hj
  ·refine hide fun G_ g_=>?_;rcases off i p hi with ⟨h1,h2,h3,h4⟩;refine g_ ?_;clear g_ G_
   exact ⟨h1,h2,h4⟩
  ·refine hide fun G_ g_=>?_;rcases off j q hj with ⟨h1,h2,h3,h4⟩;refine g_ ?_;clear g_ G_
   exact ⟨Ne.symm h1,Ne.symm h3,Ne.symm h4⟩
  ·exact absurd (ei.trans ej.symm) hij
theorem aF1 (x:HR W h io m) {n:Nat} {p:Addr×Addr} {o o1:MObj} (hi:io[n]?=some p) (hm:m[n]?=some o) (hk:∀ b o,b≠p.1->b≠p.2->h.get? b=some o->h'.get? b=some o)
  (h1:∃ o',h'.get? p.1=some o') (h2:∃ o',h'.get? p.2=some o') (hd:∀ kvs e,o=.dict kvs e->∃ kvs' e',o1=.dict kvs' e' /\ e < e'):Step own fr h io m h' io (m.set n o1) where
 alive:=fun b o e=>by
  by_cases q:b=p.1
  ·subst q;exact h1
  ·by_cases q2:b=p.2
   ·subst q2;exact h2
   ·exact ⟨o,hk b o q q2 e⟩
 solid:=fun b o e s=>hk b o (fun q=>x.nofoot_of_solid e s ⟨p,List.mem_of_getElem? hi,.inl q⟩) (fun q=>x.nofoot_of_solid e s ⟨p,List.mem_of_getElem? hi,.inr q⟩) e
 keep:=fun b o e f y_ y_=>hk b o (fun q=>f ⟨p,List.mem_of_getElem? hi,.inl q⟩) (fun q=>f ⟨p,List.mem_of_getElem? hi,.inr q⟩) e
 slots:=fun b o e f y_=>⟨o.slots,hk b o (fun q=>f ⟨p,List.mem_of_getElem? hi,.inl q⟩) (fun q=>f ⟨p,List.mem_of_getElem? hi,.inr q⟩) e⟩
 grow:=⟨[],by simp,fun y_ hp=>nomatch hp⟩
 dicts:=fun k q kvs e hq hmk=>by
  by_cases z:k=n
  ·subst z
   rw [hm] at hmk;(refine aF hmk fun z1=>?_;clear hmk;subst z1)
   refine hide fun G_ g_=>?_;rcases hd kvs e rfl with ⟨kvs',e',rfl,hlt⟩;refine g_ ?_;clear g_ G_
   refine ⟨kvs',e',List.getElem?_set_self (List.getElem?_eq_some_iff.mp hm).1,Nat.le_of_lt hlt,fun w=>absurd w (Nat.ne_of_gt hlt)⟩
  ·refine ⟨kvs,e,by rw [List.getElem?_set_ne (Ne.symm z)];exact hmk,Nat.le_refl _,fun y_=>⟨?_,rfl⟩⟩
   rcases x.there hq with ⟨o,ho⟩
   refine hide fun G_ g_=>?_;rcases x.apart k n q p z hq hi with ⟨a1,a2,a3⟩;refine g_ ?_;clear g_ G_
   rw [ho];exact hk _ _ a1 a2 ho
theorem HR.set (x:HR W h io m) {n:Nat} {p:Addr×Addr} {o o1:MObj} (hi:io[n]?=some p) (hm:m[n]?=some o) (hk:∀ b o,b≠p.1->b≠p.2->h.get? b=some o->h'.get? b=some o)
  (hd:∀ kvs e,o=.dict kvs e->∃ kvs' e',o1=.dict kvs' e' /\ e < e') (h1:∃ o',h'.get? p.1=some o') (h2:∃ o',h'.get? p.2=some o') (k:OR W h' io p.1 p.2 o1):HR W h' io (m.set n o1) where
 keep:=fun b o e=>hk b o (fun q=>by rw [x.fresh b ⟨p,List.mem_of_getElem? hi,.inl q⟩] at e;injection e) (fun q=>by rw [x.fresh b ⟨p,List.mem_of_getElem? hi,.inr q⟩] at e;injection e) (x.keep b o e)
 len:=by simp [x.len]
 obj:=fun j q o' hj hmj=>by
  by_cases z:j=n
  ·subst z
   rw [hi] at hj;(refine aF hj fun z1=>?_;clear hj;subst z1)
   rw [List.getElem?_set_self (List.getElem?_eq_some_iff.mp hm).1] at hmj;(refine aF hmj fun z1=>?_;clear hmj;subst z1)
   exact k
  ·rw [List.getElem?_set_ne (Ne.symm z)] at hmj
   refine hide fun G_ g_=>?_
   rcases x.apart j n q p z hj hi with ⟨a1,a2,a3⟩
   rcases x.apart n j p q (Ne.symm z) hi hj with ⟨b1,b2,b3⟩
   refine g_ ?_
   clear g_ G_
   exact (x.obj j q o' hj hmj).step_same (aF1 (own:=[]) (fr:=[]) x hi hm hk h1 h2 hd) (fun o e=>hk _ o a1 a2 e) (fun o e=>hk _ o (Ne.symm b2) a3 e)
 fresh:=x.fresh
 apart:=x.apart
end
end Mini.Internal
namespace Mini.Internal
open PySem PySem.Calls
section
variable {prog:Program} {w:World} {A:Around} {E:Value->Shared->Prop} {s:Shared}
end
end Mini.Internal
namespace Mini.Internal
open PySem
noncomputable def frs (fs:List Env):List Addr:=fs.filterMap (·.frame)
structure FR (W:Wd) (h:Heap) (io:Io) (env:Env) (vis:List (Option Str)) (r:Lo):Prop where
 kind:env.scope.kind=.function
 glob:env.globals=mainGlobals
 blt:env.builtins=builtinsNs
 nofoot:¬ dJ io env.locals
 fresh:W.base.get? env.locals=none
 loc:∃ mp,h.Ns env.locals mp /\ ∀ (i:Nat) (x:Str) (v:V),vis[i]?=some (some x)->r[i]?=some (some v)->env.kindOf x=some .local->∃ u,mp x=some u /\ VR W h io v u
 cel:∀ (i:Nat) (x:Str) (v:V),vis[i]?=some (some x)->r[i]?=some (some v)->(env.kindOf x=some .cell \/ env.kindOf x=some .free)->∃ c u,env.cells.lookup x=some c /\ h.IsCell c (some u) /\ VR W h io v u
 cells:∀ (x:Str) (c:Addr),env.cells.lookup x=some c->(∃ o,h.IsCell c o) /\ W.base.get? c=none /\ c≠env.locals
 celex:∀ (i:Nat) (x:Str),vis[i]?=some (some x)->(env.kindOf x=some .cell \/ env.kindOf x=some .free)->∃ c,env.cells.lookup x=some c
 apart:∀ (x y:Str) (c:Addr),env.cells.lookup x=some c->env.cells.lookup y=some c->x=y
 inj:∀ (i j:Nat) (x:Str),vis[i]?=some (some x)->vis[j]?=some (some x)->i=j
 len:r.length=vis.length
noncomputable def FF (W:Wd) (h:Heap) (io:Io) (fs:List Env):Prop:=
 ∀ env∈fs,env.scope.kind≠.module /\ ∃ L o es n,env.frame=some L /\ W.base.get? L=none /\ ¬ dJ io L /\ h.get? L=some o /\ o.data=.dict es n
structure AR (A:Around) (fs:List Env) (n:Nat):Prop where
 frames:A.frames=some fs
 depth:A.depth+4 * n <= 900
 units:A.units+40 * n+400 <= 9000
noncomputable def Same (s s':Shared):Prop:=s'.gens=s.gens /\ s'.os=s.os
theorem Same.refl (s:Shared):Same s s:=⟨rfl,rfl⟩
theorem Same.trans {a b c:Shared} (x:Same a b) (y:Same b c):Same a c:=⟨y.1.trans x.1,y.2.trans x.2⟩
inductive NP (W:Wd) (own fr:List Addr) (s:Shared) (io:Io) (m:MH) {α β:Type} (P:Heap->Io->α->β->Prop) (R:Res α) (u:β) (s':Shared):Prop
 | mk (v:α) (m':MH) (io':Io) (e:R=.ok v m') (st:Step own fr s.heap io m s'.heap io' m') (hr:HR W s'.heap io' m') (p:P s'.heap io' v u) (sm:Same s s')
noncomputable def Kp (W:Wd) (h0:Heap) (io:Io) (fs:List Env) (g B:Heap):Prop:=
 ∀ b o,g.get? b=some o->(dJ io b \/ cX o \/ W.base.get? b=some o \/ ((∃ o',h0.get? b=some o') /\ b∉frs fs))->B.get? b=some o
noncomputable def Fly (W:Wd) (fs:List Env) (h0:Heap) (io:Io) (g:Heap) (a:Addr) (c:Nat) (h':Heap):Prop:=
 ∃ B,Kp W h0 io fs g B /\ ((∃ a0,Heap.FlyingW B fs a (.ref (W.ca c)) a0 h' /\ g.UpToSlots h') \/ (∃ a0 L env,fs.head?=some env /\ env.frame=some L /\ Heap.HeldW B fs a (.ref (W.ca c)) a0 L h' /\ g.UpToSlots h') \/ (∃ args,B.StaysIn g /\ g.FunFrames B fs /\ Heap.MadeExcOf g h' a (.ref (W.ca c)) args))
inductive XP (W:Wd) (own:List Addr) (fs:List Env) (s:Shared) (io:Io) (m:MH) {α:Type} (R:Res α) (e:Value) (s':Shared):Prop
 | mk (c:Nat) (m':MH) (io':Io) (a:Addr) (g:Heap) (er:R=.exc c m') (ee:e=.ref a) (st:Step own (frs fs) s.heap io m g io' m') (hr:HR W g io' m') (fl:Fly W fs s.heap io' g a c s'.heap) (sm:Same s s')
noncomputable abbrev VP (W:Wd):Heap->Io->V->Value->Prop:=fun h io v u=>VR W h io v u
noncomputable abbrev VsP (W:Wd):Heap->Io->List V->List Value->Prop:=fun h io v u=>VRs W h io v u
noncomputable abbrev BP:Heap->Io->Bool->Bool->Prop:=fun y_ y_ b c=>b=c
section
variable {W:Wd} {h h':Heap} {io io':Io} {m m':MH} {own fr:List Addr} {env:Env} {vis:List (Option Str)} {r:Lo} {fs:List Env} {s s':Shared}
theorem cF0 {h h':Heap} {L:Addr} {mp:Str->Option Value} (x:h.Ns L mp) (k:∀ o,h.get? L=some o->∃ sl,h'.get? L=some { o with slots:=sl }):h'.Ns L mp:=by
 refine hide fun G_ g_=>?_;rcases x with ⟨o,es,ep,ho,hd,r⟩;refine g_ ?_;clear g_ G_
 rcases k o ho with ⟨sl,e⟩
 exact ⟨_,es,ep,e,hd,r⟩
theorem aN6 {h h':Heap} {c:Addr} {v:Option Value} (x:h.IsCell c v) (k:∀ o,h.get? c=some o->∃ sl,h'.get? c=some { o with slots:=sl }):h'.IsCell c v:=by
 refine hide fun G_ g_=>?_;rcases x with ⟨o,ho,hd⟩;refine g_ ?_;clear g_ G_
 rcases k o ho with ⟨sl,e⟩
 exact ⟨_,e,hd⟩
theorem FR.step (F:FR W h io env vis r) (H:HR W h io m) (x:Step own fr h io m h' io' m') (hL:env.locals∉own) (hc:∀ y c,env.cells.lookup y=some c->c∉own):FR W h' io' env vis r:=by
 have sc:∀ y c,env.cells.lookup y=some c->∀ o,h.get? c=some o->∃ sl,h'.get? c=some { o with slots:=sl }:=fun y c hy o ho=>by
  refine hide fun G_ g_=>?_;rcases F.cells y c hy with ⟨⟨v,oc,hoc,hd⟩,y_⟩;refine g_ ?_;clear g_ G_
  refine x.slots c o ho ?_ (hc y c hy)
  exact H.nofoot_of_cell hoc hd
 refine hide fun G_ g_=>?_
 rcases F.loc with ⟨mp,hn,hl⟩
 rcases id hn with ⟨oL,y_,y_,hoL,y_⟩
 refine g_ ?_
 clear g_ G_
 refine ⟨F.kind,F.glob,F.blt,x.nofoot hoL F.nofoot,F.fresh,⟨mp,cF0 hn fun o ho=>x.slots _ o ho F.nofoot hL,fun i y v h1 h2 h3=>?_⟩,fun i y v h1 h2 h3=>?_,fun y c hy=>?_,F.celex,F.apart,F.inj,F.len⟩
 ·refine hide fun G_ g_=>?_;rcases hl i y v h1 h2 h3 with ⟨u,e,k⟩;refine g_ ?_;clear g_ G_
  exact ⟨u,e,k.step x⟩
 ·refine hide fun G_ g_=>?_;rcases F.cel i y v h1 h2 h3 with ⟨c,u,e,k1,k2⟩;refine g_ ?_;clear g_ G_
  exact ⟨c,u,e,aN6 k1 (sc y c e),k2.step x⟩
 ·refine hide fun G_ g_=>?_;rcases F.cells y c hy with ⟨⟨o,k1⟩,k2,k3⟩;refine g_ ?_;clear g_ G_
  exact ⟨⟨o,aN6 k1 (sc y c hy)⟩,k2,k3⟩
theorem FR.step0 (F:FR W h io env vis r) (H:HR W h io m) (x:Step [] fr h io m h' io' m'):FR W h' io' env vis r:=F.step H x (fun q=>nomatch q) fun y_ y_ y_ q=>nomatch q
theorem FF.step (F:FF W h io fs) (x:Step own fr h io m h' io' m') (ho:∀ L∈frs fs,L∉own):FF W h' io' fs:=by
 intro env he
 refine hide fun G_ g_=>?_;rcases F env he with ⟨hk,L,o,es,n,h1,h2,h3,h4,h5⟩;refine g_ ?_;clear g_ G_
 rcases x.slots L o h4 h3 (ho L (List.mem_filterMap.mpr ⟨env,he,h1⟩)) with ⟨sl,e⟩
 exact ⟨hk,L,_,es,n,h1,h2,x.nofoot h4 h3,e,h5⟩
theorem FF.step0 (F:FF W h io fs) (x:Step [] fr h io m h' io' m'):FF W h' io' fs:=F.step x fun y_ y_ q=>nomatch q
theorem FF.funFrames (F:FF W h io fs):h.FunFrames W.base fs:=by
 induction fs with
 | nil=>trivial
 | cons env fs ih=>
  refine hide fun G_ g_=>?_;rcases F env (.head _) with ⟨hk,L,o,es,n,h1,h2,h3,h4,h5⟩;refine g_ ?_;clear g_ G_
  exact ⟨hk,⟨L,o,h1,h2,h4,fun vs q=>by rw [h5] at q;cases q⟩,ih fun e he=>F e (.tail _ he)⟩
theorem AR.cline {A:Around} {n:Nat} (x:AR A fs n):A.units+400 < cLine:=Nat.lt_of_le_of_lt (Nat.le_trans (Nat.add_le_add_right (Nat.le_add_right _ _) 400) x.units) (by decide)
theorem XP.bind {α β:Type} {R:Res α} {f:α->Mn β} {e:Value} {s₁:Shared} {io₁:Io} {m₁:MH} (x:XP W own fs s₁ io₁ m₁ R e s') (st:Step own (frs fs) s.heap io m s₁.heap io₁ m₁) (sm:Same s s₁):XP W own fs s io m (R.bind f) e s':=by
 refine hide fun G_ g_=>?_;rcases x with ⟨c,m',io',a,g,rfl,h2,h3,h4,⟨B,h5,h6⟩,h7⟩;refine g_ ?_;clear g_ G_
 exact ⟨c,m',io',a,g,rfl,h2,st.trans h3,h4,⟨B,fun b o e q=>h5 b o e (q.imp id (Or.imp id (Or.imp id fun ⟨⟨o',e'⟩,q⟩=>⟨st.alive b o' e',q⟩))),h6⟩,sm.trans h7⟩
theorem XP.mono {α:Type} {R:Res α} {e:Value} {s₁:Shared} {io₁:Io} {m₁:MH} (x:XP W own fs s₁ io₁ m₁ R e s') (st:Step own (frs fs) s.heap io m s₁.heap io₁ m₁) (sm:Same s s₁):XP W own fs s io m R e s':=by
 refine hide fun G_ g_=>?_;rcases x with ⟨c,m',io',a,g,rfl,h2,h3,h4,⟨B,h5,h6⟩,h7⟩;refine g_ ?_;clear g_ G_
 exact ⟨c,m',io',a,g,rfl,h2,st.trans h3,h4,⟨B,fun b o e q=>h5 b o e (q.imp id (Or.imp id (Or.imp id fun ⟨⟨o',e'⟩,q⟩=>⟨st.alive b o' e',q⟩))),h6⟩,sm.trans h7⟩
theorem NP.mono {α β:Type} {P:Heap->Io->α->β->Prop} {R:Res α} {u:β} {s₁:Shared} {io₁:Io} {m₁:MH} (x:NP W own fr s₁ io₁ m₁ P R u s') (st:Step own fr s.heap io m s₁.heap io₁ m₁) (sm:Same s s₁):NP W own fr s io m P R u s':=by
 refine hide fun G_ g_=>?_;rcases x with ⟨v,m',io',rfl,h2,h3,h4,h5⟩;refine g_ ?_;clear g_ G_
 exact ⟨v,m',io',rfl,st.trans h2,h3,h4,sm.trans h5⟩
noncomputable def Si (W:Wd) (own:List Addr) (A:Around) (fs:List Env) {α β:Type} (P:Heap->Io->α->β->Prop) (t:Sem β) (s:Shared) (io:Io) (m:MH) (R:Res α):Prop:=
 R≠.bad->wpAny (model W.prog W.w) A t (NP W own (frs fs) s io m P R) (XP W own fs s io m R) s
section
variable {α α' β β' γ:Type} {A:Around} {P:Heap->Io->α->β->Prop} {P':Heap->Io->α'->β'->Prop}
theorem Res.bind_ne {R:Res α} {f:α->Mn α'} (h:R.bind f≠.bad):R≠.bad:=fun q=>h (by rw [q];rfl)
theorem Si.bind {t:Sem β} {k:β->Sem β'} {R:Res α} {f:α->Mn α'} (x:Si W own A fs P t s io m R)
  (y:∀ u s₁ io₁ m₁ v,R=.ok v m₁->Step own (frs fs) s.heap io m s₁.heap io₁ m₁->HR W s₁.heap io₁ m₁->P s₁.heap io₁ v u->Same s s₁->Si W own A fs P' (k u) s₁ io₁ m₁ (f v m₁)) :
  Si W own A fs P' (t >>= k) s io m (R.bind f):=by
 intro hne
 refine wpAny_bind (wpAny_mono (x (Res.bind_ne hne)) (fun u s₁ hp=>?_) fun e s₁ hp=>hp.bind .refl (.refl _))
 refine hide fun G_ g_=>?_;rcases hp with ⟨v,m₁,io₁,rfl,st,hr,hp,sm⟩;refine g_ ?_;clear g_ G_
 exact wpAny_mono (y u s₁ io₁ m₁ v rfl st hr hp sm hne) (fun y_ y_ z=>z.mono st sm) fun y_ y_ z=>z.mono st sm
theorem Si.pure {u:β} {v:α} (H:HR W s.heap io m) (p:P s.heap io v u):Si W own A fs P (Pure.pure u) s io m (.ok v m):=
 fun y_=>wpAny_pure ⟨v,m,io,rfl,.refl,H,p,.refl _⟩
theorem Si.bad {t:Sem β}:Si W own A fs P t s io m .bad:=fun h=>absurd rfl h
theorem Si.standAt {pos:Pos} {k:Unit->Sem β} {R:Res α} (x:Si W own A fs P (k ()) s io m R):Si W own A fs P (PySem.standAt pos >>= k) s io m R:=
 fun h=>wpAny_bind (wpAny_standAt (x h))
theorem Si.holding {vs:List Value} {t:Sem β} {R:Res α} (x:Si W own A fs P t s io m R):Si W own A fs P (holding vs t) s io m R:=fun h=>wpAny_holding (x h)
theorem aO1 {M:Model} {A:Around} {E:Value->Shared->Prop} {s:Shared} {vs:List Value} {t:Sem Value} {Q:Value->Shared->Prop} (h:wpAny M A t Q E s):wpAny M A (operate vs t) Q E s:=
 fun Γ p hΓ=>by rw [Sem.wp_operate];exact h Γ p hΓ
theorem Si.operate {vs:List Value} {t:Sem Value} {P:Heap->Io->α->Value->Prop} {R:Res α} (x:Si W own A fs P t s io m R):Si W own A fs P (operate vs t) s io m R:=fun h=>aO1 (x h)
end
end
end Mini.Internal
namespace Mini.Internal
open PySem
section
variable {M:Model} {A:Around} {E:Value->Shared->Prop} {s:Shared} {W:Wd} {fs:List Env} {env:Env}
theorem bK0 {base h:Heap} {outer:List Env} {L e:Addr} {cls:Value} {args:List Value} {Q:Unit->Shared->Prop}
  (hfr:A.frames=some (env::outer)) (hf:env.frame=some L) (hkb:base.StaysIn h) (hl:h.FunFrames base (env::outer)) (hx:Heap.MadeExcOf h s.heap e cls args)
  (hQ:∀ h' t,Heap.HeldW base (env::outer) e cls (.ref t) L h'->s.heap.UpToSlots h'->Q () { s with heap:=h' }):wpAny M A (noteFrame (.ref e) env) Q E s:=by
 refine hide fun G_ g_=>?_;rcases hx.there with ⟨t,he,htn,ht⟩;refine g_ ?_;clear g_ G_
 have fresh:∀ b,h.get? b=none->base.get? b=none:=fun b hb=>by
  cases hq:base.get? b with
  | none=>rfl
  | some o'=>have:=hkb b o' hq;rw [hb] at this;injection this
 unfold noteFrame
 simp only [hf]
 refine wpAny_bind (wpAny_field (x:=.none) he rfl rfl ?_)
 rw [if_neg (by decide)]
 refine wpAny_entryW (a0:=.ref t) hfr (hl.of_keeps fun b o hb y_=>⟨o,hx.keeps b o hb,rfl⟩) hf he (fun b o hb=>hx.keeps b o (hkb b o hb)) (fresh e hx.new) rfl (show 1 < 6 by decide) rfl fun h' hN=>?_
 refine hide fun G_ g_=>?_;rcases hN with ⟨k1,k2,k3,k4⟩;refine g_ ?_;clear g_ G_
 exact hQ h' t ⟨k1,fresh e hx.new,k2,k3⟩ k4
theorem aJ9 {base:Heap} {l:List Env} {e L L':Addr} {cls a0:Value} {Q:Unit->Shared->Prop} (R:Heap.HeldW base l e cls a0 L' s.heap)
  (h:∀ h',Heap.HeldW base l e cls a0 L h'->s.heap.UpToSlots h'->Q () { s with heap:=h' }):wpAny M A (setFlight (.ref e) (some L)) Q E s:=by
 refine hide fun G_ g_=>?_;rcases R with ⟨hkb,hen,hl,oe,vs,T,oT,ts,he,hcls,hd,h1,hnT,hTe,hT,hdT,h3⟩;refine g_ ?_;clear g_ G_
 have hsz3:3 < ts.size:=(Array.getElem?_eq_some_iff.mp h3).1
 have other:∀ b,b≠T->(s.heap.update T (Obj.mapFields (·.setIfInBounds 3 ((some L).elim Value.none fun f=>rawInt f)))).get? b=s.heap.get? b:=
  fun b hb=>Heap.get?_update_other _ _ (Ne.symm hb)
 have noRecord:∀ b o,s.heap.get? b=some o->(∀ vs,o.data≠.fields vs)->b≠T:=fun b o hb hnf q=>by
  rw [q,hT] at hb;injection hb with hb;subst hb;exact hnf ts hdT
 unfold setFlight
 refine wpAny_bind (wpAny_field he hd h1 ?_)
 rw [if_pos (show (Value.ref T != Value.none)=true from by simp)]
 refine wpAny_setField hT hdT hsz3 (h _ ⟨fun b o hbo=>(other b fun q=>by rw [q,hnT] at hbo;injection hbo).trans (hkb b o hbo),hen,
  hl.of_keeps fun b o hb hnf=>⟨o,(other b (noRecord b o hb hnf)).trans hb,rfl⟩,?_⟩ fun b o hb hnf=>⟨o.slots,(other b (noRecord b o hb hnf)).trans hb⟩)
 exact ⟨oe,vs,T,_,_,(other e (Ne.symm hTe)).trans he,hcls,hd,h1,hnT,hTe,Heap.get?_update_self _ hT (Obj.isFreed_of_fields (Obj.data_mapFields hdT _)),Obj.data_mapFields hdT _,by simp [hsz3]⟩
theorem bF0 {h0:Heap} {io:Io} {g:Heap} {a c:Nat} {Q:Unit->Shared->Prop} {L:Addr} (hA:A.frames=some (env::fs)) (hf:env.frame=some L) (x:Fly W (env::fs) h0 io g a c s.heap)
  (k:∀ B h' a0,Kp W h0 io (env::fs) g B->Heap.HeldW B (env::fs) a (.ref (W.ca c)) a0 L h'->g.UpToSlots h'->Q () { s with heap:=h' }):wpAny M A (noteFrame (.ref a) env) Q E s:=by
 refine hide fun G_ g_=>?_;rcases x with ⟨B,kp,fly⟩;refine g_ ?_;clear g_ G_
 rcases fly with ⟨a0,f1,f2⟩ | ⟨a0,L',env',f0,f0',f1,f2⟩ | ⟨args,f1,f2,f3⟩
 ·exact wpAny_looks_onW hA hf f1 fun h' q1 q2=>k B h' a0 kp q1 (f2.trans q2)
 ·(refine aF f0 fun z1=>?_;clear f0;subst z1)
  rw [hf] at f0';(refine aF f0' fun z1=>?_;clear f0';subst z1)
  exact wpAny_noteFrame_againW hf f1.2.2.2 (k B _ a0 kp f1 f2)
 ·exact bK0 hA hf f1 f2 f3 fun h' t q1 q2=>k B h' _ kp q1 ((Heap.UpToSlots.of_keeps f3.keeps).trans q2)
theorem aM4 {io:Io} {m:MH} {own:List Addr} {α:Type} {R:Res α} {e:Value} {s₀:Shared} {L:Addr} (hA:A.frames=some (env::fs)) (hf:env.frame=some L) (x:XP W own (env::fs) s₀ io m R e s) :
  notedBy M A env (cameBackBy M A env (XP W own (env::fs) s₀ io m R)) e s:=by
 refine hide fun G_ g_=>?_;rcases x with ⟨c,m',io',a,g,h1,rfl,st,Hg,fly,sm⟩;refine g_ ?_;clear g_ G_
 refine bF0 hA hf fly fun B h' a0 kp hh up=>?_
 refine hide fun G_ g_=>?_;rcases id hh.2.2.2 with ⟨oe,vs,T,oT,ts,he,hcls,hd,hv,y_⟩;refine g_ ?_;clear g_ G_
 unfold cameBackBy
 refine wpAny_bind (wpAny_field he hd hv ?_)
 rw [if_neg (show ¬ ((Value.ref T == Value.none)=true) from by simp)]
 rw [hf]
 first
  | refine wpAny_bind (wpAny_pure ?_)
  | skip
 refine aJ9 (L:=L) hh fun h₂ hh₂ up₂=>?_
 exact ⟨c,m',io',a,g,h1,rfl,st,Hg,⟨B,kp,.inr (.inl ⟨a0,L,env,rfl,hf,hh₂,up.trans up₂⟩)⟩,sm⟩
end
end Mini.Internal
namespace Mini.Internal
open PySem
theorem bF9:lid=4194304:=rfl
section
variable {W:Wd} {own:List Addr} {A:Around} {fs:List Env} {s:Shared} {io:Io} {m:MH} {n:Nat}
theorem aX5 {α β:Type} {g:α->Option β} {x:α} {xs:List α} {ds:List β} (h:eS g (x::xs)=some ds):∃ d r,ds=d::r /\ g x=some d /\ eS g xs=some r:=by
 have h:(match g x,eS g xs with | some d,some ds=>some (d::ds) | _,_=>none)=some ds:=h
 cases h1:g x with
 | none=>rw [h1] at h;injection h
 | some d=>
  cases h2:eS g xs with
  | none=>rw [h1,h2] at h;injection h
  | some r=>rw [h1,h2] at h;(refine aF h fun z1=>?_;clear h;subst z1);exact ⟨d,r,rfl,rfl,rfl⟩
theorem dF {f:Nat} (one:∀ (v:V) (u:Value) (d:PyData),rd f m v=some d->VR W s.heap io v u->(∃ as,Reads s.heap u d as) /\ d.canLay0=true /\ d.depth <= f):∀ (xs:List V) (us:List Value) (ds:List PyData),eS (rd f m) xs=some ds->VRs W s.heap io xs us->(∃ as,ReadsAll s.heap us ds as) /\ PyData.canLayAll0 ds=true /\ PyData.depthAll ds <= f
 | [],us,ds,h,k=>by
  subst k
  have h:some []=some ds:=h
  (refine aF h fun z1=>?_;clear h;subst z1)
  exact ⟨⟨_,.nil⟩,rfl,by simp [PyData.depthAll]⟩
 | x::xs,us,ds,h,k=>by
  refine hide fun G_ g_=>?_;rcases aX5 h with ⟨d,r,rfl,h1,h2⟩;refine g_ ?_;clear g_ G_
  refine VRs.dCons k fun y_ y_ k1 k2=>?_
  ·
   refine hide fun G_ g_=>?_
   rcases one x _ d h1 k1 with ⟨⟨as,r1⟩,c1,d1⟩
   rcases dF one xs _ r h2 k2 with ⟨⟨bs,r2⟩,c2,d2⟩
   refine g_ ?_
   clear g_ G_
   exact ⟨⟨_,.cons r1 r2⟩,by simp [PyData.canLayAll0,c1,c2],by simp only [PyData.depthAll];exact Nat.max_le.mpr ⟨d1,d2⟩⟩
set_option tactic.hygienic true in
theorem bP (H:HR W s.heap io m):∀ (f:Nat) (v:V) (u:Value) (d:PyData),rd f m v=some d->VR W s.heap io v u->(∃ as,Reads s.heap u d as) /\ d.canLay0=true /\ d.depth <= f
 | 0,_,_,_,h,_=>nomatch (show none=some _ from h)
 | f+1,v,u,d,h,k=>by
  induction k using VR.elim with
  | none=>have h:some PyData.none=some d:=h;(refine aF h fun z1=>?_;clear h;subst z1);exact ⟨⟨_,.none⟩,rfl,by simp [PyData.depth]⟩
  | bool b=>have h:some (PyData.bool b)=some d:=h;(refine aF h fun z1=>?_;clear h;subst z1);exact ⟨⟨_,.bool b⟩,rfl,by simp [PyData.depth]⟩
  | int i t=>have h:some (PyData.int i)=some d:=h;(refine aF h fun z1=>?_;clear h;subst z1);exact ⟨⟨_,.int i t⟩,rfl,by simp [PyData.depth]⟩
  | str x t ok=>have h:some (PyData.str x)=some d:=h;(refine aF h fun z1=>?_;clear h;subst z1);exact ⟨⟨_,.str x t⟩,by simpa [PyData.canLay0] using ok,by simp [PyData.depth]⟩
  | tup h1 h4=>
   have h:=Option.map_eq_some_iff.mp (show (eS (rd f m) _).map PyData.tuple=some d from h)
   refine hide fun G_ g_=>?_
   rcases h with ⟨ds,hds,rfl⟩
   rcases dF (bP H f) _ _ ds hds h4 with ⟨⟨as,hr⟩,hc,hd⟩
   refine g_ ?_
   clear g_ G_
   exact ⟨⟨_,.tuple h1 rfl rfl hr⟩,by simpa [PyData.canLay0] using hc,by simp only [PyData.depth];lia⟩
  | ref h1=>
   rename_i k a d'
   have h:(match m[k]? with | some (.list xs)=>(eS (rd f m) xs).map PyData.list | _=>none)=some d:=h
   cases hx:m[k]? with
   | none=>rw [hx] at h;injection h
   | some ob=>
    rw [hx] at h
    cases ob with
    | list xs=>
     have h:=Option.map_eq_some_iff.mp (show (eS (rd f m) xs).map PyData.list=some d from h)
     refine hide fun G_ g_=>?_
     rcases h with ⟨ds,hds,rfl⟩
     rcases H.obj _ _ _ h1 hx with ⟨y_,vs,n',g1,g4,y_⟩
     rcases dF (bP H f) _ _ ds hds g4 with ⟨⟨as,hr⟩,hc,hd⟩
     refine g_ ?_
     clear g_ G_
     exact ⟨⟨_,.list g1 rfl rfl hr⟩,by simpa [PyData.canLay0] using hc,by simp only [PyData.depth];lia⟩
    | _=>injection h
  | fn k=>exact nomatch (show none=some d from h)
  | exc y_ y_ y_=>exact nomatch (show none=some d from h)
  | scr y_ y_ y_ y_ y_=>exact nomatch (show none=some d from h)
noncomputable abbrev BV:Heap->Io->Bool->Value->Prop:=fun y_ y_ b u=>u=.bool b
theorem aZ7 (k:Nat):((k:Int) != 0)=(k != 0):=by
 rw [Bool.eq_iff_iff];simp
theorem bH1 {xs:List V} {vs:Array Value} (e:vs.toList.length=xs.length):(!vs.isEmpty)=!xs.isEmpty:=by
 rw [Array.length_toList] at e
 cases xs with
 | nil=>have:vs=#[]:=Array.eq_empty_of_size_eq_zero e;subst this;rfl
 | cons x xs=>
  have:vs.isEmpty=false:=by
   rw [Array.isEmpty_eq_false_iff];intro q;subst q;simp at e
  rw [this];rfl
set_option tactic.hygienic true in
theorem aG6 (H:HR W s.heap io m) {v:V} {u:Value} (k:VR W s.heap io v u):Si W own A fs BP (truthy u) s io m (fT v m):=by
 induction k using VR.elim with
 | none=>exact fun y_=>wpAny_pure (a:=false) ⟨false,m,io,rfl,.refl,H,rfl,.refl _⟩
 | bool b=>exact fun y_=>wpAny_truthy_bool ⟨b,m,io,rfl,.refl,H,rfl,.refl _⟩
 | int i t=>exact fun y_=>P.truthy_int ⟨_,m,io,rfl,.refl,H,rfl,.refl _⟩
 | str x t ok=>
  simp only [fT]
  split
  ·rename_i hl
   exact fun y_=>P.truthy_str (by rw [bF9] at hl;lia) ⟨_,m,io,rfl,.refl,H,(aZ7 _).symm,rfl,rfl⟩
  ·exact Si.bad
 | tup h1 h4=>
  simp only [fT]
  split
  ·rename_i hl
   have e:=h4.length
   exact fun y_=>PyProof.Rows.truthy_tuple ⟨_,h1,rfl,_,rfl⟩ (by rw [bF9] at hl;rw [Array.length_toList] at e;lia) ⟨_,m,io,rfl,.refl,H,(bH1 e).symm,rfl,rfl⟩
  ·exact Si.bad
 | ref h1=>
  simp only [fT]
  split
  ·rename_i xs hx
   refine hide fun G_ g_=>?_;rcases H.obj _ _ _ h1 hx with ⟨y_,vs,n',g1,g4,g5⟩;refine g_ ?_;clear g_ G_
   have e:=g4.length
   exact fun y_=>wpAny_truthy_list ⟨_,g1,rfl,_,rfl⟩ (by rw [bF9] at g5;rw [Array.length_toList] at e;lia) ⟨_,m,io,rfl,.refl,H,(bH1 e).symm,rfl,rfl⟩
  ·exact Si.bad
 | fn k=>exact Si.bad
 | exc y_ y_ y_=>exact Si.bad
 | scr y_ y_ y_ y_ y_=>exact Si.bad
theorem aQ {h:Heap} (o:Obj):∀ b o',h.get? b=some o'->(h.push o).get? b=some o':=fun y_ y_ e=>Heap.get?_push_of_some o e
theorem aZ (h:Heap):h.get? h.objs.size=none:=by
 cases q:h.get? h.objs.size with
 | none=>rfl
 | some o=>exact absurd (Heap.lt_size q) (Nat.lt_irrefl _)
theorem aZ5 {fr:List Addr} (H:HR W s.heap io m) {vs:Array Value} {xs:List V} {k tk:Nat} (hv:VRs W s.heap io xs vs.toList) (hl:xs.length <= lid) :
  NP W own fr s io m (VP W) (alloc (.list xs) m) (.ref s.heap.objs.size) { s with heap:=s.heap.push (fQ vs k),toks:=tk }:=by
 have st:Step own fr s.heap io m (s.heap.push (fQ vs k)) (io++[(s.heap.objs.size,s.heap.objs.size)]) (m++[.list xs]):=fO H (aQ _) (aZ _) (aZ _)
 refine ⟨_,_,_,rfl,st,H.alloc (aQ _) (aZ _) (aZ _) ⟨rfl,vs,k,Heap.get?_push_size _ rfl,hv.step st,hl⟩,.ref (d:=s.heap.objs.size) ?_,rfl,rfl⟩
 rw [<- H.len];simp
theorem dE3 {fr:List Addr} (H:HR W s.heap io m) {vs:Array Value} {xs:List V} {k tk:Nat} (hv:VRs W s.heap io xs vs.toList) :
  NP W own fr s io m (VP W) (.ok (.tup xs) m) (.ref s.heap.objs.size) { s with heap:=s.heap.push (cZ5 vs k),toks:=tk }:=by
 have st:Step own fr s.heap io m (s.heap.push (cZ5 vs k)) io m:=.of_keeps H (aQ _)
 exact ⟨_,_,_,rfl,st,H.of_keeps (aQ _),.tup (Heap.get?_push_size _ rfl) (hv.step st),rfl,rfl⟩
theorem bO {fr:List Addr} (H:HR W s.heap io m) {v:V} {u:Value} {tk:Nat} (hv:VR W s.heap io v u):NP W own fr s io m (VP W) (.ok v m) u { s with toks:=tk }:=
 ⟨v,m,io,rfl,.refl,H,hv,rfl,rfl⟩
theorem cT4 {fr:List Addr} (H:HR W s.heap io m) {k tk:Nat} :
  NP W own fr s io m (VP W) (alloc (.dict [] 0) m) (.ref s.heap.objs.size) { s with heap:=s.heap.push (dH9 [] k),toks:=tk }:=by
 have st:Step own fr s.heap io m (s.heap.push (dH9 [] k)) (io++[(s.heap.objs.size,s.heap.objs.size)]) (m++[.dict [] 0]):=fO H (aQ _) (aZ _) (aZ _)
 refine ⟨_,_,_,rfl,st,H.alloc (aQ _) (aZ _) (aZ _) ⟨rfl,_,_,k,Heap.get?_push_size _ rfl,⟨rfl,rfl,rfl⟩,rfl,.nil,.nil,by simp [lid]⟩,.ref (d:=s.heap.objs.size) ?_,rfl,rfl⟩
 rw [<- H.len];simp
theorem fE {x y:Str} (hx:PyData.strOk x=true) (hy:PyData.strOk y=true):PyData.strOk (x++y)=true:=by
 unfold PyData.strOk at *
 rw [Str.cps_append]
 simp only [Array.all_append,hx,hy,Bool.and_self]
theorem aR {k:Nat} (h:k <= lid):k <= sizeLine:=by rw [bF9] at h;show k <= 2 ^ 24;lia
set_option tactic.hygienic true in
theorem aN7 {i:Int} (h:i.natAbs < 1073741824):Builtin.Int.intBits i <= 64:=by
 unfold Builtin.Int.intBits
 split
 ·lia
 ·rename_i h0
  have h1:i.natAbs≠0:=by
   intro q
   have:i=0:=by lia
   subst this;simp at h0
  have:=(Nat.log2_lt h1 (k:=30)).mpr (by lia)
  lia
theorem bY7 {Pr:Operator->V->V->Prop} (a1:∀ i j,Pr .Add (.int i) (.int j)) (a2:∀ i j,Pr .Sub (.int i) (.int j)) (a3:∀ i j,Pr .Mult (.int i) (.int j)) (a4:∀ i j,Pr .FloorDiv (.int i) (.int j)) (a5:∀ i j,Pr .Mod (.int i) (.int j))
  (a6:∀ x y,Pr .Add (.str x) (.str y)) (a8:∀ p q,Pr .Add (.ref p) (.ref q)) (bad:∀ op a b,bY8 op a b=(fun y_=>.bad)->Pr op a b) (op:Operator) (a b:V):Pr op a b:=by
 cases (op) <;> first | (exact bad _ _ _ rfl) | skip
 all_goals cases (a) <;> first | (exact bad _ _ _ rfl) | skip
 all_goals cases (b) <;> first | (exact a1 _ _) | (exact a2 _ _) | (exact a3 _ _) | (exact a4 _ _) | (exact a5 _ _) | (exact a6 _ _) | (exact a8 _ _) | (exact bad _ _ _ rfl)
set_option tactic.hygienic true in
theorem cY4 (H:HR W s.heap io m) {op:Operator} {v x:V} {u y:Value} (k:VR W s.heap io v u) (l:VR W s.heap io x y) :
  Si W own A fs (VP W) (binaryOp op u y) s io m (bY8 op v x m):=by
 revert k l
 refine bY7 (Pr:=fun op v x=>VR W s.heap io v u->VR W s.heap io x y->Si W own A fs (VP W) (binaryOp op u y) s io m (bY8 op v x m)) ?_ ?_ ?_ ?_ ?_ ?_ ?_ ?_ op v x
 ·intro i j k l;refine VR.dInt k fun y_=>?_;refine VR.dInt l fun y_=>?_;exact fun y_=>P.add_int (bO H (.int _ _))
 ·intro i j k l;refine VR.dInt k fun y_=>?_;refine VR.dInt l fun y_=>?_;exact fun y_=>P.sub_int (bO H (.int _ _))
 ·intro i j k l;refine VR.dInt k fun y_=>?_;refine VR.dInt l fun y_=>?_
  show Si W own A fs (VP W) _ s io m (if i.natAbs < 1073741824 \/ j.natAbs < 1073741824 then .ok (.int (i * j)) m else .bad)
  split
  ·rename_i hc
   intro y_
   refine P.mul_int (bO H (.int _ _)) ?_
   rcases hc with hc | hc
   ·exact IntMulOk.of_left (aN7 hc)
   ·exact IntMulOk.of_right (aN7 hc)
  ·exact Si.bad
 ·intro i j k l;refine VR.dInt k fun y_=>?_;refine VR.dInt l fun y_=>?_
  show Si W own A fs (VP W) _ s io m (if 0 < j /\ j.natAbs < 1073741824 then .ok (.int (i / j)) m else .bad)
  split
  ·rename_i hj
   rw [<- Int.fdiv_eq_ediv_of_nonneg _ (Int.le_of_lt hj.1)]
   exact fun y_=>PyProof.Rows.floordiv_int (Int.ne_of_gt hj.1) (bO H (.int _ _)) (.inl (PyProof.noPylong_small hj.2))
  ·exact Si.bad
 ·intro i j k l;refine VR.dInt k fun y_=>?_;refine VR.dInt l fun y_=>?_
  show Si W own A fs (VP W) _ s io m (if 0 < j then .ok (.int (i % j)) m else .bad)
  split
  ·rename_i hj
   rw [<- Int.fmod_eq_emod_of_nonneg _ (Int.le_of_lt hj)]
   exact fun y_=>PyProof.Rows.mod_int (Int.ne_of_gt hj) (bO H (.int _ _))
  ·exact Si.bad
 ·intro x y k l
  refine VR.dStr k fun y_ k1=>?_;refine VR.dStr l fun y_ l1=>?_
  show Si W own A fs (VP W) _ s io m (if x.length+y.length <= lid then .ok (.str (x++y)) m else .bad)
  split
  ·rename_i hl
   exact fun y_=>PyProof.Rows.add_str (fun t' tk=>bO H (.str _ _ (fE k1 l1))) (aR hl)
  ·exact Si.bad
 ·intro p q k l
  refine VR.dRef k fun y_ y_ h1=>?_;refine VR.dRef l fun y_ y_ g1=>?_
  show Si W own A fs (VP W) _ s io m (match m[p]?,m[q]? with | some (.list x),some (.list y)=>if x.length+y.length <= lid then alloc (.list (x++y)) m else .bad | _,_=>.bad)
  split
  ·rename_i x y hx hy
   refine hide fun G_ g_=>?_
   rcases H.obj _ _ _ h1 hx with ⟨y_,vs,n',a1,a4,a5⟩
   rcases H.obj _ _ _ g1 hy with ⟨y_,ws,n2,b1,b4,b5⟩
   refine g_ ?_
   clear g_ G_
   split
   ·rename_i hl
    have e1:=a4.length
    have e2:=b4.length
    rw [Array.length_toList] at e1 e2
    exact fun y_=>P.add_list a1 b1 (aZ5 H (by rw [Array.toList_append];exact a4.append b4) (by simpa using hl)) (aR (by lia))
   ·exact Si.bad
  ·exact Si.bad
 ·intro op a b e k l;rw [e];exact Si.bad
theorem aA3 {fr:List Addr} (H:HR W s.heap io m) {b:Bool} {tk:Nat}:NP W own fr s io m BV (.ok b m) (.bool b) { s with toks:=tk }:=⟨b,m,io,rfl,.refl,H,rfl,rfl,rfl⟩
theorem aZ6 {M:Model} {A:Around} {E:Value->Shared->Prop} {s:Shared} {a b:Value} {Q:Value->Shared->Prop} (h:wpAny M A (compareOp .In a b) (fun v s'=>∃ c,v=.bool c /\ Q (.bool (!c)) s') E s) :
  wpAny M A (compareOp .NotIn a b) Q E s:=by
 intro Γ p hΓ
 have h1:=h Γ p hΓ
 show Sem.wp M Γ (contains b a >>= fun c=>pure (Value.bool (!c))) _ _ p s
 have h2:Sem.wp M Γ (contains b a >>= fun c=>pure (Value.bool c)) (fun v y_ s'=>∃ c,v=.bool c /\ Q (.bool (!c)) s') (fun e y_ s'=>E e s') p s:=h1
 rw [Sem.wp_bind'] at h2 ⊢
 refine Sem.wp_mono M Γ _ (fun c p' s' h'=>?_) (fun y_ y_ y_ x=>x) p s h2
 refine hide fun G_ g_=>?_;rcases h' with ⟨c',e,q⟩;refine g_ ?_;clear g_ G_
 cases (e)
 exact q
theorem Si.not {t t':Sem Value} {R:Res Bool} (x:Si W own A fs BV t s io m R)
  (k:∀ (E:Value->Shared->Prop) (Q:Value->Shared->Prop),wpAny (model W.prog W.w) A t (fun v s'=>∃ c,v=.bool c /\ Q (.bool (!c)) s') E s->wpAny (model W.prog W.w) A t' Q E s):Si W own A fs BV t' s io m (R.bind fun c=>ret (!c)):=by
 intro hne
 refine k _ _ (wpAny_mono (x (Res.bind_ne hne)) (fun u s' p=>?_) fun e s' p=>p.bind .refl (.refl _))
 refine hide fun G_ g_=>?_;rcases p with ⟨v,m',io',rfl,a1,a2,a3,a4⟩;refine g_ ?_;clear g_ G_
 exact ⟨v,a3,_,m',io',rfl,a1,a2,rfl,a4⟩
end
end Mini.Internal
namespace Mini.Internal
open PySem
noncomputable def aE8:Sum Int Str->Value->Bool
 | .inl i,v=>Value.isInt i v
 | .inr x,v=>Value.isStrOf x v
theorem bZ {k:Sum Int Str} {v:Value} (h:aE8 k v=true):(∃ i t,k=.inl i /\ v=.int i t) \/ (∃ x t,k=.inr x /\ v=.str x t):=by
 cases k with
 | inl j=>rcases Value.isInt_shape (k:=j) (v:=v) h with ⟨u,e⟩;exact .inl ⟨j,u,rfl,e⟩
 | inr x=>rcases Value.isStrOf_shape (x:=x) (v:=v) h with ⟨u,e⟩;exact .inr ⟨x,u,rfl,e⟩
theorem bJ8 {prog:Program} {w:World} {A:Around} {E:Value->Shared->Prop} {s:Shared} {a b:Sum Int Str} {u v:Value} {Q:Bool->Shared->Prop} (hu:aE8 a u=true) (hv:aE8 b v=true) (h:Q (decide (a=b)) s) :
  wpAny (model prog w) A (PySem.eqBool u v) Q E s:=by
 rcases bZ hu with ⟨i,t,rfl,rfl⟩ | ⟨x,t,rfl,rfl⟩ <;> rcases bZ hv with ⟨j,t',rfl,rfl⟩ | ⟨y,t',rfl,rfl⟩
 ·have e:decide (Sum.inl (β:=Str) i=.inl j)=(i == j):=by
   by_cases q:i=j <;> simp [q]
  rw [e] at h
  exact wpAny_eqBool_int h
 ·have e:decide (Sum.inl (β:=Str) i=.inr y)=false:=by simp
  rw [e] at h
  unfold eqBool
  show wpAny _ _ (richCompare .Eq (Value.int i t) (Value.str y t') >>= truthOfDropped) Q E s
  exact wpAny_bind (EqMixed.eq_int_str (wpAny_truthy_bool h))
 ·have e:decide (Sum.inr (α:=Int) x=.inl j)=false:=by simp
  rw [e] at h
  unfold eqBool
  show wpAny _ _ (richCompare .Eq (Value.str x t) (Value.int j t') >>= truthOfDropped) Q E s
  exact wpAny_bind (EqMixed.eq_str_int (wpAny_truthy_bool h))
 ·have e:decide (Sum.inr (α:=Int) x=.inr y)=decide (x=y):=by
   by_cases q:x=y <;> simp [q]
  rw [e] at h
  exact wpAny_eqBool_str h
theorem cF5 {prog:Program} {w:World} {A:Around} {E:Value->Shared->Prop} {s:Shared} {k:Sum Int Str} {v:Value} {Q:Int->Shared->Prop} (hv:aE8 k v=true) (h:Q (bZ6 w k) { s with toks:=s.toks+1 }) :
  wpAny (model prog w) A (PySem.pyHash v) Q E s:=by
 rcases bZ hv with ⟨i,t,rfl,rfl⟩ | ⟨x,t,rfl,rfl⟩
 ·exact wpAny_pyHash_int h
 ·exact wpAny_pyHash_str h
theorem cU1 (v:Value) (a b:Sum Int Str) (ha:aE8 a v=true) (hb:aE8 b v=true):a=b:=by
 rcases bZ ha with ⟨i,t,rfl,rfl⟩ | ⟨x,t,rfl,rfl⟩ <;> rcases bZ hb with ⟨j,u,rfl,e⟩ | ⟨y,u,rfl,e⟩ <;> (first|(injection e;done)|cases (e)) <;> rfl
theorem aZ8 (k:Sum Int Str) (v:Value) (h:aE8 k v=true):carriedByValue v=true:=by
 rcases bZ h with ⟨i,t,rfl,rfl⟩ | ⟨x,t,rfl,rfl⟩ <;> rfl
theorem cF4 (k:Sum Int Str) (x:Str) (t:Tok) (v:Value) (h:aE8 k (.str x t)=true):aE8 k v=v.isStr x:=by
 rcases bZ h with ⟨i,u,rfl,e⟩ | ⟨y,u,rfl,e⟩
 ·injection e
 ·cases (e);cases (v) <;> rfl
noncomputable def aI2 (prog:Program) (w:World):KeyKind prog w (Sum Int Str) where
 is:=aE8
 hash:=bZ6 w
 inj:=cU1
 byValue:=aZ8
 pyHash:=cF5
 eqBool:=bJ8
 «strs»:=cF4
section
variable {W:Wd} {h:Heap} {io:Io}
theorem bA2 {ks:List (Sum Int Str)} {vs:List Value} (x:VRs W h io (ks.map fun x=>match x with | .inl i=>V.int i | .inr s=>V.str s) vs):ItemsAre (aI2 W.prog W.w) ks vs:=by
 induction ks generalizing vs with
 | nil=>subst x;exact .nil
 | cons k ks ih=>
  refine VRs.dCons x fun y_ y_ h1 r=>?_
  ·
   refine .cons ?_ (ih r)
   cases k with
   | inl i=>refine VR.dInt h1 fun y_=>?_;simp [aI2,aE8,Value.isInt]
   | inr s=>refine VR.dStr h1 fun y_ y_=>?_;simp [aI2,aE8,Value.isStrOf]
theorem aA8 {ks:List (Sum Int Str)} {u:Value} (x:VR W h io (Ky.tup ks).val u):∃ a,u=.ref a /\ IsTupleKey (aI2 W.prog W.w) h ks a:=by
 refine VR.dTup x fun y_ y_ y_ h1 h2=>?_
 ·exact ⟨_,rfl,_,_,_,h1,rfl,rfl,bA2 h2⟩
section
variable {K:Type} [DecidableEq K] (knd:KeyKind W.prog W.w K) (emb:K->Ky)
structure Emb:Prop where
 inj:∀ a b,emb a=emb b->a=b
 is:∀ {h:Heap} {io:Io} k u,VR W h io (emb k).val u->knd.is k u=true
 hash:∀ k,bG0 W.w (emb k)=knd.hash k
 back:∀ {h h':Heap} {io:Io} k u,VR W h io (emb k).val u->VR W h' io (emb k).val u
variable {knd emb}
theorem ERs.keysOf (E:Emb knd emb) {kvs:List (Ky×V)} {es:List DictEntry} (x:ERs W h io kvs es) (hk:∀ p∈kvs,∃ k,p.1=emb k):∀ e∈es,∃ k,knd.is k e.key=true /\ e.hash=knd.hash k:=by
 induction x using ERs.ind with
 | nil=>intro e he;cases (he)
 | cons h1 h2 y_ ih=>
  intro e he
  cases he with
  | head=>
   rcases hk _ (.head _) with ⟨k,e⟩
   simp only at e
   subst e
   exact ⟨k,E.is k _ h1,E.hash k⟩
  | tail y_ he=>exact ih (fun p hp=>hk p (.tail _ hp)) e he
theorem ERs.find (E:Emb knd emb) {kvs:List (Ky×V)} {es:List DictEntry} (x:ERs W h io kvs es) (hk:∀ p∈kvs,∃ k,p.1=emb k) (k:K) :
  (∃ v u,bX (emb k) kvs=some v /\ (es.find? fun e=>knd.is k e.key).map (·.val)=some u /\ VR W h io v u) \/ (bX (emb k) kvs=none /\ (es.find? fun e=>knd.is k e.key).map (·.val)=none):=by
 induction x using ERs.ind with
 | nil=>exact .inr ⟨rfl,rfl⟩
 | @cons k' v key u kvs es h1 h2 y_ ih=>
  rcases hk _ (.head _) with ⟨j,e⟩
  simp only at e
  subst e
  have hj:=E.is j _ h1
  by_cases q:j=k
  ·subst q
   exact .inl ⟨v,u,by simp [bX],by simp [List.find?,hj],h2⟩
  ·have n1:¬ emb j=emb k:=fun z=>q (E.inj _ _ z)
   have n2:knd.is k key=false:=by
    cases z:knd.is k key with
    | false=>rfl
    | true=>exact absurd (knd.inj _ _ _ hj z) q
   simp only [bX,n1,if_false,List.find?_cons,n2]
   exact ih fun p hp=>hk p (.tail _ hp)
theorem ERs.mapOf (E:Emb knd emb) {kvs:List (Ky×V)} {a:Addr} {o:Obj} {es:Array DictEntry} {n:Nat} (h1:h.get? a=some o) (h2:o.ExactDict) (h3:o.data=.dict es n) (x:ERs W h io kvs es.toList) (hk:∀ p∈kvs,∃ k,p.1=emb k) :
  h.MapOf knd a (findBy knd.is es):=⟨o,es,n,h1,h2,h3,fun e he=>x.keysOf E hk e (Array.mem_toList_iff.mpr he),fun y_=>rfl⟩
theorem ERs.findBy (E:Emb knd emb) {kvs:List (Ky×V)} {es:Array DictEntry} (x:ERs W h io kvs es.toList) (hk:∀ p∈kvs,∃ k,p.1=emb k) (k:K) :
  (∃ v u,bX (emb k) kvs=some v /\ findBy knd.is es k=some u /\ VR W h io v u) \/ (bX (emb k) kvs=none /\ PySem.findBy knd.is es k=none):=by
 have:=x.find E hk k
 unfold PySem.findBy
 rcases es with ⟨l⟩
 rw [List.find?_toArray]
 exact this
theorem ERs.pairs (E:Emb knd emb) {kvs:List (Ky×V)} {es:List DictEntry} (x:ERs W h io kvs es) (hk:∀ p∈kvs,∃ k,p.1=emb k) :
  ∃ l:List (K×Value),Pairs knd es l /\ l.map (fun p=>emb p.1)=kvs.map (·.1) /\ VRs W h io (kvs.map (·.2)) (l.map (·.2)):=by
 induction x using ERs.ind with
 | nil=>exact ⟨[],.nil,rfl,.nil⟩
 | @cons k' v key u kvs es h1 h2 y_ ih=>
  rcases hk _ (.head _) with ⟨j,e⟩
  simp only at e
  subst e
  refine hide fun G_ g_=>?_;rcases ih fun p hp=>hk p (.tail _ hp) with ⟨l,p1,p2,p3⟩;refine g_ ?_;clear g_ G_
  exact ⟨(j,u)::l,.cons (E.is j _ h1) rfl p1,by simp [p2],.cons h2 p3⟩
end
set_option tactic.hygienic true in
theorem dB {k:Ky} {v:V}:∀ {kvs:List (Ky×V)},bX k kvs=none->put k v kvs=kvs++[(k,v)]
 | [],_=>rfl
 | (k',v')::r,h=>by
  simp only [bX] at h
  split at h
  ·injection h
  ·rename_i q
   simp only [put,q,if_false,List.cons_append,dB h]
set_option tactic.hygienic true in
theorem aU0 {k:Ky}:∀ {kvs:List (Ky×V)},bX k kvs=none->∀ p∈kvs,p.1≠k
 | [],_,_,hp=>nomatch hp
 | (k',v')::r,h,p,hp=>by
  simp only [bX] at h
  split at h
  ·injection h
  ·rename_i q
   cases hp with
   | head=>exact q
   | tail y_ hp=>exact aU0 h p hp
set_option tactic.hygienic true in
theorem dA {k:Ky} {v:V}:∀ {kvs:List (Ky×V)} {u:V},bX k kvs=some u->(kvs.map (·.1)).Nodup->put k v kvs=kvs.map fun p=>if p.1=k then (p.1,v) else p
 | [],_,h,_=>by simp [bX] at h
 | (k',v')::r,u,h,hn=>by
  simp only [List.map_cons,List.nodup_cons] at hn
  simp only [bX] at h
  split at h
  ·rename_i q
   subst q
   simp only [put,if_true,List.map_cons]
   congr 1
   have e:∀ p∈r,(if p.1=k' then (p.1,v) else p)=p:=fun p hp=>by
    rw [if_neg];intro z;exact hn.1 (z▸List.mem_map_of_mem hp)
   rw [List.map_congr_left e,List.map_id']
  ·rename_i q
   simp only [put,q,if_false,List.map_cons,dA h hn.2]
theorem bE6 {k:Ky} {v:V} {kvs:List (Ky×V)} (hn:(kvs.map (·.1)).Nodup):((put k v kvs).map (·.1)).Nodup:=by
 cases h:bX k kvs with
 | none=>
  rw [dB h,List.map_append]
  refine List.nodup_append.mpr ⟨hn,by simp,?_⟩
  intro x hx y hy e
  refine hide fun G_ g_=>?_;rcases List.mem_map.mp hx with ⟨p,hp,rfl⟩;refine g_ ?_;clear g_ G_
  simp at hy
  subst hy
  exact aU0 h p hp e
 | some u=>
  rw [dA h hn,List.map_map]
  have e:((fun x:Ky×V=>x.1) ∘ fun p:Ky×V=>if p.1=k then (p.1,v) else p)=fun p=>p.1:=by
   funext p;simp only [Function.comp];split <;> rfl
  rw [e];exact hn
theorem aM2 {k:Ky} {v:V}:∀ (kvs:List (Ky×V)),(put k v kvs).length <= kvs.length+1
 | []=>by simp [put]
 | (k',v')::r=>by
  simp only [put]
  split
  ·simp
  ·simpa using aM2 r
theorem aG8 {x:V} {k:Ky} (h:dQ x=some k):k.val=x:=by
 cases x with
 | int i=>simp [dQ] at h;subst h;rfl
 | tup xs=>
  simp only [dQ,Option.map_eq_some_iff] at h
  refine hide fun G_ g_=>?_;rcases h with ⟨ks,hks,rfl⟩;refine g_ ?_;clear g_ G_
  refine congrArg V.tup ?_
  induction xs generalizing ks with
  | nil=>have hks:some []=some _:=hks;(refine aF hks fun z1=>?_;clear hks;subst z1);rfl
  | cons x xs ih=>
   refine hide fun G_ g_=>?_;rcases aX5 hks with ⟨d,r,rfl,h1,h2⟩;refine g_ ?_;clear g_ G_
   simp only [List.map_cons,List.cons.injEq]
   refine ⟨?_,ih r h2⟩
   cases (x) <;> simp [atom] at h1 <;> subst h1 <;> rfl
 | _=>simp [dQ] at h
theorem aH3 {k:Ky} {kvs:List (Ky×V)} (h:aP k kvs=true):∀ p∈kvs,p.1.sort=k.sort:=fun p hp=>by
 have:=List.all_eq_true.mp h p hp
 simpa using this
theorem intEmb:Emb (W:=W) (intKind W.prog W.w) Ky.int where
 inj:=fun a b e=>dF3 e
 is:=fun k u x=>by refine VR.dInt x fun y_=>?_;simp [intKind,Value.isInt]
 hash:=fun y_=>rfl
 back:=fun k u x=>by refine VR.dInt x fun y_=>?_;exact .int _ _
theorem aB2 {kvs:List (Ky×V)} {i:Int} (h:aP (.int i) kvs=true):∀ p∈kvs,∃ k,p.1=Ky.int k:=fun p hp=>by
 have:=aH3 h p hp
 cases q:p.1 with
 | int k=>exact ⟨k,rfl⟩
 | _=>rw [q] at this;simp [Ky.sort] at this
theorem aO6 {kvs:List (Ky×V)} {i:List (Sum Int Str)} (h:aP (.tup i) kvs=true):∀ p∈kvs,∃ k,p.1=Ky.tup k:=fun p hp=>by
 have:=aH3 h p hp
 cases q:p.1 with
 | tup k=>exact ⟨k,rfl⟩
 | _=>rw [q] at this;simp [Ky.sort] at this
noncomputable abbrev TK:=List (Sum Int Str)×Addr×Value
noncomputable abbrev tkd (W:Wd):=tupleKind (aI2 W.prog W.w)
theorem ERs.heapKeys {kvs:List (Ky×V)} {es:List DictEntry} (x:ERs W h io kvs es) (hk:∀ p∈kvs,∃ k,p.1=Ky.tup k) :
  ∃ l:List TK,es=l.map (entryOfKey (tkd W)) /\ (∀ y∈l,(tkd W).is h y.1 y.2.1) /\ l.map (fun p=>Ky.tup p.1)=kvs.map (·.1) /\ VRs W h io (kvs.map (·.2)) (l.map (·.2.2)) /\ (∀ y∈l,VR W h io (Ky.tup y.1).val (.ref y.2.1)):=by
 induction x using ERs.ind with
 | nil=>exact ⟨[],rfl,(fun y_ h=>nomatch h),rfl,.nil,fun y_ h=>nomatch h⟩
 | @cons k' v key u kvs es h1 h2 y_ ih=>
  rcases hk _ (.head _) with ⟨j,e⟩
  simp only at e
  subst e
  refine hide fun G_ g_=>?_
  rcases ih fun p hp=>hk p (.tail _ hp) with ⟨l,p1,p2,p3,p4,p5⟩
  rcases aA8 h1 with ⟨a,rfl,ka⟩
  refine g_ ?_
  clear g_ G_
  refine ⟨(j,a,u)::l,by rw [p1];rfl,fun y hy=>?_,by simp [p3],.cons h2 p4,fun y hy=>?_⟩
  ·cases hy with
   | head=>exact ka
   | tail y_ hy=>exact p2 y hy
  ·cases hy with
   | head=>exact h1
   | tail y_ hy=>exact p5 y hy
theorem fS {k:List (Sum Int Str)}:∀ {l:List TK} {kvs:List (Ky×V)},l.map (fun p=>Ky.tup p.1)=kvs.map (·.1)->VRs W h io (kvs.map (·.2)) (l.map (·.2.2)) ->
  (∃ v a u,bX (.tup k) kvs=some v /\ atKey l k=some (a,u) /\ VR W h io v u) \/ (bX (.tup k) kvs=none /\ atKey l k=none)
 | [],kvs,e,_=>by
  have:kvs=[]:=by cases kvs with | nil=>rfl | cons=>simp at e
  subst this
  exact .inr ⟨rfl,rfl⟩
 | (j,a,u)::l,kvs,e,x=>by
  cases kvs with
  | nil=>simp at e
  | cons q kvs=>
   rcases q with ⟨k',v⟩
   simp only [List.map_cons,List.cons.injEq] at e
   rcases e with ⟨e1,e2⟩
   subst e1
   rcases VRs.cc x with ⟨x1,x2⟩
   ·
    by_cases z:j=k
    ·subst z
     exact .inl ⟨v,a,u,by simp [bX],by simp [atKey],x1⟩
    ·have z':¬ Ky.tup j=Ky.tup k:=fun w=>z (ky_t w)
     simp only [bX,z',if_false]
     have:atKey ((j,a,u)::l) k=atKey l k:=by simp [atKey,z]
     rw [this]
     exact fS e2 x2
theorem fH {l:List TK} {kvs:List (Ky×V)} (e:l.map (fun p=>Ky.tup p.1)=kvs.map (·.1)) (hn:(kvs.map (·.1)).Nodup):(l.map (·.1)).Nodup:=by
 rw [<- e] at hn
 have:(l.map (·.1)).map Ky.tup=l.map fun p=>Ky.tup p.1:=by rw [List.map_map];rfl
 rw [<- this] at hn
 exact List.Pairwise.of_map Ky.tup (fun a b h e=>h (congrArg _ e)) hn
end
structure WOk (W:Wd):Prop where
 sys:∃ o,W.base.get? sysModules=some o
 nolimit:W.base.NoLimit
section
variable {W:Wd} {own:List Addr} {A:Around} {fs:List Env} {s:Shared} {io:Io} {m:MH} {n:Nat}
theorem HR.notSys (ok:WOk W) (H:HR W s.heap io m) {b:Addr} (f:dJ io b):(b == sysModules)=false:=by
 have h1:=H.fresh b f
 rcases ok.sys with ⟨o,ho⟩
 cases q:b == sysModules with
 | false=>rfl
 | true=>rw [beq_iff_eq.mp q,ho] at h1;injection h1
theorem cW2 {E:Value->Shared->Prop} {Q:Value->Shared->Prop} (ok:WOk W) (H:HR W s.heap io m) (R:AR A fs n) {i:Nat} {p:Addr×Addr} {kvs:List (Ky×V)} {e:Nat} (hi:io[i]?=some p) (hm:m[i]?=some (.dict kvs e)) {x:V} {u:Value} (hx:VR W s.heap io x u) {k:Ky} (hk:dQ x=some k) (hs:aP k kvs=true)
  (h:∀ tk,Q (.bool (bX k kvs).isSome) { s with toks:=tk }):wpAny (model W.prog W.w) A (compareOp .In u (.ref p.1)) Q E s:=by
 refine hide fun G_ g_=>?_;rcases H.obj _ _ _ hi hm with ⟨y_,o,es,n',g1,g2,g3,g4,g5,y_⟩;refine g_ ?_;clear g_ G_
 have ns:=H.notSys ok ⟨p,List.mem_of_getElem? hi,.inl rfl⟩
 have hv:=aG8 hk
 subst hv
 cases k with
 | int j=>
  have hh:=aB2 hs
  refine wpAny_in_of (intEmb.is j u hx) ns (g4.mapOf intEmb g1 g2 g3 hh) ?_
  rcases g4.findBy intEmb hh j with ⟨v,u',e1,e2,_⟩ | ⟨e1,e2⟩
  ·rw [e2];have:=h (s.toks+1);rw [e1] at this;exact this
  ·rw [e2];have:=h (s.toks+1);rw [e1] at this;exact this
 | str j=>injection hk
 | tup j=>
  have hh:=aO6 hs
  refine hide fun G_ g_=>?_
  rcases g4.heapKeys hh with ⟨l,p1,p2,p3,p4,p5⟩
  rcases aA8 hx with ⟨a,rfl,ka⟩
  refine g_ ?_
  clear g_ G_
  refine wpAny_in_heap (knd:=tkd W) (xs:=l) (k:=j) (show A.in1.units < cLine by have:=R.cline;simp only [Around.in1_units];lia) ka ns ⟨o,es,n',g1,g2,g3,p1,p2,fH p3 g5⟩ ?_
  rcases fS (k:=j) p3 p4 with ⟨v,a',u',e1,e2,_⟩ | ⟨e1,e2⟩
  ·rw [e2];have:=h (s.toks+(tkd W).draws j);rw [e1] at this;exact this
  ·rw [e2];have:=h (s.toks+(tkd W).draws j);rw [e1] at this;exact this
theorem cH8 {E:Value->Shared->Prop} {Q:Value->Shared->Prop} (H:HR W s.heap io m) (R:AR A fs n) {i:Nat} {p:Addr×Addr} {kvs:List (Ky×V)} {e:Nat} (hi:io[i]?=some p) (hm:m[i]?=some (.dict kvs e)) {x:V} {u:Value} (hx:VR W s.heap io x u) {k:Ky} (hk:dQ x=some k) (hs:aP k kvs=true) {v:V} (hl:bX k kvs=some v)
  (h:∀ u' tk,VR W s.heap io v u'->Q u' { s with toks:=tk }):wpAny (model W.prog W.w) A (getItem (.ref p.1) u) Q E s:=by
 refine hide fun G_ g_=>?_;rcases H.obj _ _ _ hi hm with ⟨y_,o,es,n',g1,g2,g3,g4,g5,y_⟩;refine g_ ?_;clear g_ G_
 have hv:=aG8 hk
 subst hv
 cases k with
 | int j=>
  have hh:=aB2 hs
  rcases g4.findBy intEmb hh j with ⟨v',u',e1,e2,e3⟩ | ⟨e1,e2⟩
  ·rw [hl] at e1;(refine aF e1 fun z1=>?_;clear e1;subst z1)
   exact wpAny_getItem_of (intEmb.is j u hx) (g4.mapOf intEmb g1 g2 g3 hh) e2 (h _ _ e3)
  ·rw [hl] at e1;injection e1
 | str j=>injection hk
 | tup j=>
  have hh:=aO6 hs
  refine hide fun G_ g_=>?_
  rcases g4.heapKeys hh with ⟨l,p1,p2,p3,p4,p5⟩
  rcases aA8 hx with ⟨a,rfl,ka⟩
  refine g_ ?_
  clear g_ G_
  rcases fS (k:=j) p3 p4 with ⟨v',a',u',e1,e2,e3⟩ | ⟨e1,e2⟩
  ·rw [hl] at e1;(refine aF e1 fun z1=>?_;clear e1;subst z1)
   exact wpAny_getItem_heap (knd:=tkd W) (xs:=l) (k:=j) (show A.in1.units < cLine by have:=R.cline;simp only [Around.in1_units];lia) ka ⟨o,es,n',g1,g2,g3,p1,p2,fH p3 g5⟩ e2 (h _ _ e3)
  ·rw [hl] at e1;injection e1
section
variable {h:Heap} {K:Type} [DecidableEq K] {knd:KeyKind W.prog W.w K} {emb:K->Ky}
theorem ERs.of_pairs (E:Emb knd emb) {es:List DictEntry} {l:List (K×Value)} {kvs:List (Ky×V)} (hk:∀ e∈es,∃ k,knd.is k e.key=true /\ e.hash=knd.hash k) (hp:Pairs knd es l) (e:kvs.map (·.1)=l.map (fun p=>emb p.1))
  (x:VRs W h io (kvs.map (·.2)) (l.map (·.2))) (hv:∀ k u,emb k∈kvs.map (·.1)->knd.is k u=true->VR W h io (emb k).val u):ERs W h io kvs es:=by
 induction hp generalizing kvs with
 | nil=>
  have:kvs=[]:=by cases kvs with | nil=>rfl | cons=>simp at e
  subst this;exact .nil
 | @cons en kv es l p1 p2 p3 ih=>
  cases kvs with
  | nil=>simp at e
  | cons q kvs=>
   rcases q with ⟨k',v⟩
   simp only [List.map_cons,List.cons.injEq] at e
   rcases e with ⟨e1,e2⟩
   refine hide fun G_ g_=>?_;rcases hk en (.head _) with ⟨j,j1,j2⟩;refine g_ ?_;clear g_ G_
   have:j=kv.1:=knd.inj _ _ _ j1 p1
   subst this
   rcases VRs.cc x with ⟨x1,x2⟩
   ·
    refine hide fun G_ g_=>?_;rcases en with ⟨hs,ky,vl⟩;refine g_ ?_;clear g_ G_
    simp only at j1 j2 p1 p2
    subst j2 p2
    subst e1
    rw [<- E.hash]
    exact .cons (hv _ _ (by simp) p1) x1 (ih (fun e he=>hk e (.tail _ he)) e2 x2 fun k u hm hi=>hv k u (by simp only [List.map_cons,List.mem_cons];exact .inr hm) hi)
theorem cZ0 {l:List (K×Value)} {kvs:List (Ky×V)} (E:Emb knd emb) (e:kvs.map (·.1)=l.map fun p=>emb p.1) (k:K):l.any (fun kv=>decide (kv.1=k))=(bX (emb k) kvs).isSome:=by
 induction l generalizing kvs with
 | nil=>
  have:kvs=[]:=by cases kvs with | nil=>rfl | cons=>simp at e
  subst this;rfl
 | cons p l ih=>
  cases kvs with
  | nil=>simp at e
  | cons q kvs=>
   rcases q with ⟨k',v⟩
   simp only [List.map_cons,List.cons.injEq] at e
   rcases e with ⟨e1,e2⟩
   subst e1
   by_cases z:p.1=k
   ·simp [z,bX]
   ·have z':¬ emb p.1=emb k:=fun w=>z (E.inj _ _ w)
    simp only [List.any_cons,z,decide_false,Bool.false_or,bX,z',if_false]
    exact ih e2
theorem bJ2 (E:Emb knd emb) {l:List (K×Value)} {kvs:List (Ky×V)} (e:kvs.map (·.1)=l.map fun p=>emb p.1) (x:VRs W h io (kvs.map (·.2)) (l.map (·.2))) (hn:(kvs.map (·.1)).Nodup) (k:K) {v:V} {u:Value} (y:VR W h io v u) :
  (put (emb k) v kvs).map (·.1)=(stored l k u).map (fun p=>emb p.1) /\ VRs W h io ((put (emb k) v kvs).map (·.2)) ((stored l k u).map (·.2)):=by
 unfold stored
 rw [cZ0 E e k]
 cases q:bX (emb k) kvs with
 | none=>
  rw [dB q,if_neg (by simp)]
  exact ⟨by simp [e],by simp only [List.map_append,List.map_cons,List.map_nil];exact x.snoc y⟩
 | some z=>
  rw [dA q hn,if_pos (by rfl)]
  clear q hn
  induction l generalizing kvs with
  | nil=>
   have:kvs=[]:=by cases kvs with | nil=>rfl | cons=>simp at e
   subst this;exact ⟨rfl,.nil⟩
  | cons p l ih=>
   cases kvs with
   | nil=>simp at e
   | cons q kvs=>
    rcases q with ⟨k',v'⟩
    simp only [List.map_cons,List.cons.injEq] at e
    rcases e with ⟨e1,e2⟩
    subst e1
    rcases VRs.cc x with ⟨x1,x2⟩
    ·
     rcases ih e2 x2 with ⟨i1,i2⟩
     by_cases w:p.1=k
     ·have w':emb p.1=emb k:=by rw [w]
      simp only [List.map_cons,w,w',if_true]
      exact ⟨by rw [i1],.cons y i2⟩
     ·have w':¬ emb p.1=emb k:=fun c=>w (E.inj _ _ c)
      simp only [List.map_cons,w,w',if_false]
      exact ⟨by rw [i1],.cons x1 i2⟩
end
theorem aB6 {h h':Heap} {d:Addr} (hs:Heap.SameBut d h h'):∀ b o,b≠d->h.get? b=some o->h'.get? b=some o:=fun b y_ hb e=>(hs.2 b hb).trans e
theorem aD4 {fr:List Addr} (H:HR W s.heap io m) {i:Nat} {p:Addr×Addr} {kvs kvs':List (Ky×V)} {e:Nat} (hi:io[i]?=some p) (hm:m[i]?=some (.dict kvs e)) {h':Heap} {tk:Nat} (hs:Heap.SameBut p.1 s.heap h')
  {o':Obj} {es':Array DictEntry} {n':Nat} (h1:h'.get? p.1=some o') (h2:o'.ExactDict) (h3:o'.data=.dict es' n') (h4:Step own fr s.heap io m h' io (m.set i (.dict kvs' (e+1)))->ERs W h' io kvs' es'.toList) (h5:(kvs'.map (·.1)).Nodup) (h6:kvs'.length <= lid) :
  NP W own fr s io m (fun y_ y_ (_ _:Unit)=>True) (.ok () (m.set i (.dict kvs' (e+1)))) () { s with heap:=h',toks:=tk }:=by
 rcases H.obj _ _ _ hi hm with ⟨hpp,y_⟩
 have hk:∀ b o,b≠p.1->b≠p.2->s.heap.get? b=some o->h'.get? b=some o:=fun b o q y_ ho=>aB6 hs b o q ho
 have hd:∀ kv ep,MObj.dict kvs e=.dict kv ep->∃ kvs2 e2,MObj.dict kvs' (e+1)=.dict kvs2 e2 /\ ep < e2:=fun kv ep q=>by cases (q);exact ⟨kvs',e+1,rfl,by lia⟩
 have st:Step own fr s.heap io m h' io (m.set i (.dict kvs' (e+1))):=aF1 H hi hm hk ⟨_,h1⟩ ⟨_,hpp▸h1⟩ hd
 exact ⟨(),_,io,rfl,st,H.set hi hm hk hd ⟨_,h1⟩ ⟨_,hpp▸h1⟩ ⟨hpp,o',es',n',h1,h2,h3,h4 st,h5,h6⟩,trivial,rfl,rfl⟩
theorem bM7 {h:Heap} {j:List (Sum Int Str)} {v:V} {y:Value} (hv:VR W h io v y):∀ {l:List TK} {kvs:List (Ky×V)},l.map (fun p=>Ky.tup p.1)=kvs.map (·.1)->VRs W h io (kvs.map (·.2)) (l.map (·.2.2)) ->
  VRs W h io ((kvs.map fun p=>if p.1=Ky.tup j then (p.1,v) else p).map (·.2)) ((l.map (putAt j y)).map (·.2.2)):=by
 intro l
 induction l with
 | nil=>intro kvs p3 _;have:kvs=[]:=by { cases kvs with | nil=>rfl | cons=>simp at p3 };subst this;exact .nil
 | cons q l ih=>
  intro kvs p3 p4
  cases kvs with
  | nil=>simp at p3
  | cons r kvs=>
   rcases r with ⟨k',v'⟩
   simp only [List.map_cons,List.cons.injEq] at p3
   rcases p3 with ⟨z1,z2⟩
   subst z1
   rcases VRs.cc p4 with ⟨x1,x2⟩
   ·
    simp only [List.map_cons]
    refine .cons ?_ (ih z2 x2)
    by_cases w:q.1=j
    ·simp only [w,if_true,putAt];exact hv
    ·have w':¬ Ky.tup q.1=Ky.tup j:=fun c=>w (ky_t c)
     simp only [w',if_false,putAt,w];exact x1
theorem cD9 (H:HR W s.heap io m) (R:AR A fs n) {i:Nat} {p:Addr×Addr} {kvs:List (Ky×V)} {e:Nat} (hi:io[i]?=some p) (hm:m[i]?=some (.dict kvs e)) {x v:V} {u y:Value} (hx:VR W s.heap io x u) (hv:VR W s.heap io v y) {k:Ky} (hk:dQ x=some k) (hs:aP k kvs=true) (hl:kvs.length < lid) :
  Si W own A fs (fun y_ y_ (_ _:Unit)=>True) (setItem (.ref p.1) u y) s io m (.ok () (m.set i (.dict (put k v kvs) (e+1)))):=by
 refine hide fun G_ g_=>?_;rcases H.obj _ _ _ hi hm with ⟨y_,o,es,n',g1,g2,g3,g4,g5,g6⟩;refine g_ ?_;clear g_ G_
 have hv':=aG8 hk
 subst hv'
 have hl':(put k v kvs).length <= lid:=Nat.le_trans (aM2 kvs) hl
 intro y_
 cases k with
 | int j=>
  have hh:=aB2 hs
  refine hide fun G_ g_=>?_;rcases g4.pairs intEmb hh with ⟨l,l1,l2,l3⟩;refine g_ ?_;clear g_ G_
  have ll:l.length=kvs.length:=by have:=congrArg List.length l2;simpa using this
  refine wpAny_setItem_pairs (kvs:=l) (intEmb.is j u hx) ⟨o,es,n',g1,g2,g3,fun e he=>g4.keysOf intEmb hh e (Array.mem_toList_iff.mpr he),l1,?_⟩ (fun h' hd hsb=>?_) (aR (by lia))
  ·refine List.Pairwise.of_map (S:=(·≠·)) Ky.int (fun a b h e=>h (congrArg Ky.int e)) ?_
   rw [List.map_map]
   exact (by rw [<- l2] at g5;exact g5)
  ·refine hide fun G_ g_=>?_;rcases hd with ⟨o',es',n2,d1,d2,d3,d4,d5,d6⟩;refine g_ ?_;clear g_ G_
   refine aD4 H hi hm hsb d1 d2 d3 (fun st=>?_) (bE6 g5) hl'
   rcases bJ2 (W:=W) intEmb l2.symm l3 g5 j hv with ⟨a1,a2⟩
   exact ERs.of_pairs intEmb (fun e he=>d4 e (Array.mem_toList_iff.mp he)) d5 a1 (a2.step st) fun k u y_ hi=>by
    rcases Value.isInt_shape (k:=k) (v:=u) hi with ⟨t,rfl⟩;exact .int _ _
 | str j=>injection hk
 | tup j=>
  have hh:=aO6 hs
  refine hide fun G_ g_=>?_
  rcases g4.heapKeys hh with ⟨l,p1,p2,p3,p4,p5⟩
  rcases aA8 hx with ⟨a,rfl,ka⟩
  refine g_ ?_
  clear g_ G_
  have ll:l.length=kvs.length:=by have:=congrArg List.length p3;simpa using this
  have lnd:=fH p3 g5
  refine wpAny_setItem_heap (knd:=tkd W) (xs:=l) (k:=j) (show A.in1.units < cLine by have:=R.cline;show A.units+1 < cLine;lia) ka ⟨o,es,n',g1,g2,g3,p1,p2,lnd⟩ (fun h' hd hsb=>?_) (aR (by lia))
  refine hide fun G_ g_=>?_;rcases hd with ⟨o',es',n2,d1,d2,d3,d4,d5,d6⟩;refine g_ ?_;clear g_ G_
  refine aD4 H hi hm hsb d1 d2 d3 (fun st=>?_) (bE6 g5) hl'
  rw [d4]
  have build:∀ {l:List TK} {kvs:List (Ky×V)},l.map (fun p=>Ky.tup p.1)=kvs.map (·.1)->VRs W h' io (kvs.map (·.2)) (l.map (·.2.2))->(∀ y∈l,VR W h' io (Ky.tup y.1).val (.ref y.2.1))->ERs W h' io kvs (l.map (entryOfKey (tkd W))):=by
   intro l
   induction l with
   | nil=>intro kvs e x _;have:kvs=[]:=by { cases kvs with | nil=>rfl | cons=>simp at e };subst this;exact .nil
   | cons q l ih=>
    intro kvs e x y
    cases kvs with
    | nil=>simp at e
    | cons r kvs=>
     rcases r with ⟨k',v'⟩
     simp only [List.map_cons,List.cons.injEq] at e
     rcases e with ⟨e1,e2⟩
     subst e1
     rcases VRs.cc x with ⟨x1,x2⟩
     ·exact .cons (y q (.head _)) x1 (ih e2 x2 fun z hz=>y z (.tail _ hz))
  rcases fS (k:=j) p3 p4 with ⟨v',a',u',e1,e2,e3⟩ | ⟨e1,e2⟩
  ·rw [storedH_old e2,dA e1 g5]
   refine build ?_ ?_ ?_
   ·rw [List.map_map,List.map_map]
    have f1:((fun p:TK=>Ky.tup p.1) ∘ putAt j y)=fun p:TK=>Ky.tup p.1:=by funext q;simp only [Function.comp,putAt];split <;> rfl
    have f2:((fun p:Ky×V=>p.1) ∘ fun p:Ky×V=>if p.1=Ky.tup j then (p.1,v) else p)=fun p=>p.1:=by funext q;simp only [Function.comp];split <;> rfl
    rw [f1,f2];exact p3
   ·exact bM7 (hv.step st) p3 (p4.step st)
   ·intro y' hy'
    refine hide fun G_ g_=>?_;rcases List.mem_map.mp hy' with ⟨z,hz,rfl⟩;refine g_ ?_;clear g_ G_
    have:=(p5 z hz).step st
    unfold putAt;split <;> exact this
  ·rw [storedH_new e2,dB e1]
   refine build (by simp [p3]) ?_ ?_
   ·simp only [List.map_append,List.map_cons,List.map_nil]
    exact (p4.step st).snoc (hv.step st)
   ·intro y' hy'
    rcases List.mem_append.mp hy' with hy' | hy'
    ·exact (p5 y' hy').step st
    ·rw [List.mem_singleton.mp hy'];exact hx.step st
end
end Mini.Internal
namespace Mini.Internal
open PySem PySem.W
theorem bC1 (l:Addr) (es:Array DictEntry) (n:Nat) (dd:Option Addr) (sl:Array (Option Value)) (b:Int) (u:Tok) :
  Meets (Builtin.«dict.__eq__» ⟨[.ref l,.int b u],[]⟩) (fun y_ R s=>s.heap.get? l=some { cls:=.type "dict",dict:=dd,data:=.dict es n,slots:=sl } /\ R (.ok (.ret .notImplemented)) s):=
 .of_wp fun prog w A R s h=>by rcases s with ⟨hp,g,d,tk,os⟩;rcases h with ⟨hl,h⟩;have f1:=F.sub_int_dict;wp_walk using wpAny_loadPart' hl;exact ⟨_,rfl,h⟩
theorem bA7 (b:Int) (u:Tok) (l:Addr) (es:Array DictEntry) (n:Nat) (dd:Option Addr) (sl:Array (Option Value)) :
  Meets (Builtin.«int.__eq__» ⟨[.int b u,.ref l],[]⟩) (fun y_ R s=>s.heap.get? l=some { cls:=.type "dict",dict:=dd,data:=.dict es n,slots:=sl } /\ R (.ok (.ret .notImplemented)) s):=
 .of_wp fun prog w A R s h=>by rcases s with ⟨hp,g,d,tk,os⟩;rcases h with ⟨hl,h⟩;wp_walk using wpAny_loadPart' hl,wpAny_load hl;exact ⟨_,rfl,h⟩
theorem bC0 (l:Addr) (es:Array DictEntry) (n:Nat) (dd:Option Addr) (sl:Array (Option Value)) (b:Int) (u:Tok) :
  Meets (Builtin.«dict.__ne__» ⟨[.ref l,.int b u],[]⟩) (fun y_ R s=>s.heap.get? l=some { cls:=.type "dict",dict:=dd,data:=.dict es n,slots:=sl } /\ R (.ok (.ret .notImplemented)) s):=
 .of_wp fun prog w A R s h=>by rcases s with ⟨hp,g,d,tk,os⟩;rcases h with ⟨hl,h⟩;have f1:=F.sub_int_dict;wp_walk using wpAny_loadPart' hl;exact ⟨_,rfl,h⟩
theorem bA6 (b:Int) (u:Tok) (l:Addr) (es:Array DictEntry) (n:Nat) (dd:Option Addr) (sl:Array (Option Value)) :
  Meets (Builtin.«int.__ne__» ⟨[.int b u,.ref l],[]⟩) (fun y_ R s=>s.heap.get? l=some { cls:=.type "dict",dict:=dd,data:=.dict es n,slots:=sl } /\ R (.ok (.ret .notImplemented)) s):=
 .of_wp fun prog w A R s h=>by rcases s with ⟨hp,g,d,tk,os⟩;rcases h with ⟨hl,h⟩;wp_walk using wpAny_loadPart' hl,wpAny_load hl;exact ⟨_,rfl,h⟩
theorem aH7 {A:Around} {s:Shared} {l:Addr} {o:Obj} {es:Array DictEntry} {n:Nat} (b:Int) (u:Tok) (ho:s.heap.get? l=some o) (hc:o.cls=.type "dict") (hd:o.data=.dict es n) (hu:A.units < cLine):SeqAt.RcAt A s (.ref l) (.int b u) false /\ SeqAt.RcNeAt A s (.ref l) (.int b u) true:=by
  rcases o with ⟨cls,dd,data,sl⟩
  simp only at hc hd
  subst hc hd
  exact ⟨fun prog w E Q h=>SeqAt.rc_eq_decline_or (k:=false) ⟨_,ho,rfl⟩ (typeIs_int s b u) (by decide) F.sub_int_dict F.slot_dict_eq F.slot_int_eq_refl
    (fun y_ hq=>call_meets F.slot_dict_eq ⟨_,ho,rfl⟩ F.entry_dict_eq (F.args_dict_eq_2 _ _) (bC1 l es n dd sl b u) ⟨ho,hq⟩)
    (fun y_ hq=>call_meets F.slot_int_eq_refl (typeIs_int s b u) F.entry_int_eq (F.args_int_eq_2 _ _) (bA7 b u l es n dd sl) ⟨ho,hq⟩)
    (fun y_ hq=>wpAny_of_eq (rfl:isSame (.ref l) (.int b u)=pure false) hq) (.inr hu) h,
   fun prog w E Q h=>SeqAt.rc_ne_decline_or (k:=false) ⟨_,ho,rfl⟩ (typeIs_int s b u) (by decide) F.sub_int_dict F.slot_dict_ne F.slot_int_ne_refl
    (fun y_ hq=>call_meets F.slot_dict_ne ⟨_,ho,rfl⟩ F.entry_dict_ne (F.args_dict_ne_2 _ _) (bC0 l es n dd sl b u) ⟨ho,hq⟩)
    (fun y_ hq=>call_meets F.slot_int_ne_refl (typeIs_int s b u) F.entry_int_ne (F.args_int_ne_2 _ _) (bA6 b u l es n dd sl) ⟨ho,hq⟩)
    (fun y_ hq=>wpAny_of_eq (rfl:isSame (.ref l) (.int b u)=pure false) hq) (.inr hu) h⟩
theorem eF {α:Type} {a:α} {C:Prop} (h:(none:Option α)=some a):C:=by injection h
section
variable {W:Wd} {own:List Addr} {A:Around} {fs:List Env} {s:Shared} {io:Io} {m:MH} {n:Nat}
theorem aW3 {f:Nat} {v x:V} {b:Bool} (h:eqX (f+1) m v x=some b):(∃ d e,rd cP m v=some d /\ rd cP m x=some e /\ b=PyData.eqv d e) \/ eqN m (eqX f m) v x=some b:=by
 have h:(match rd cP m v,rd cP m x with | some a,some c=>some (PyData.eqv a c) | _,_=>eqN m (eqX f m) v x)=some b:=h
 cases h1:rd cP m v with
 | none=>rw [h1] at h;exact .inr h
 | some d=>
  cases h2:rd cP m x with
  | none=>rw [h1,h2] at h;exact .inr h
  | some e=>rw [h1,h2] at h;(refine aF h fun z1=>?_;clear h;subst z1);exact .inl ⟨d,e,rfl,rfl,rfl⟩
theorem bC8 {g:V->V->Option Bool} {x y:V} {xs ys:List V} {b:Bool} (h:aG2 g (x::xs) (y::ys)=some b):∃ c d,g x y=some c /\ aG2 g xs ys=some d /\ b=(c&&d):=by
 have h:(match g x y with | some a=>(match aG2 g xs ys with | some b=>some (a&&b) | none=>none) | none=>none)=some b:=h
 cases h1:g x y with
 | none=>rw [h1] at h;injection h
 | some c=>
  cases h2:aG2 g xs ys with
  | none=>rw [h1,h2] at h;injection h
  | some d=>rw [h1,h2] at h;(refine aF h fun z1=>?_;clear h;subst z1);exact ⟨c,d,rfl,rfl,rfl⟩
theorem cA4 {g:V->V->Option Bool} (hg:∀ {x y:V} {u:Value} {b:Bool},VR W s.heap io x u->VR W s.heap io y u->g x y=some b->b=true):∀ {xs ys:List V} {us:List Value} {b:Bool},VRs W s.heap io xs us->VRs W s.heap io ys us->aG2 g xs ys=some b->b=true:=by
 intro xs
 induction xs with
 | nil=>
  intro ys us b x1 x2 h
  cases ys with
  | nil=>(refine aF h fun z1=>?_;clear h;subst z1);rfl
  | cons y_ y_=>exact eF h
 | cons x xs ih=>
  intro ys us b x1 x2 h
  cases ys with
  | nil=>exact eF h
  | cons y ys=>
  rcases x1 with ⟨y_,y_,rfl,h1,h2⟩
  rcases VRs.cc x2 with ⟨k1,k2⟩
  rcases bC8 h with ⟨c,d,e1,e2,rfl⟩
  rw [hg h1 k1 e1,ih h2 k2 e2];rfl
inductive EqN (m:MH) (g:V->V->Option Bool) (b:Bool):V->V->Prop
 | dint {p e:Nat} {ks:List (Ky×V)} {i:Int}:m[p]?=some (.dict ks e)->b=false->EqN m g b (.ref p) (.int i)
 | tup {xs ys:List V}:xs.length=ys.length->aG2 g xs ys=some b->EqN m g b (.tup xs) (.tup ys)
 | list {p q:Nat} {xs ys:List V}:m[p]?=some (.list xs)->m[q]?=some (.list ys)->p≠q->xs.length=ys.length->aG2 g xs ys=some b->EqN m g b (.ref p) (.ref q)
 | dict {p q e e':Nat} {ks ls:List (Ky×V)}:m[p]?=some (.dict ks e)->m[q]?=some (.dict ls e')->p≠q->ks.length=ls.length->aU8 ks=true->aU8 ls=true->aL2 m ls ks=some b->EqN m g b (.ref p) (.ref q)
theorem bH0 {g:V->V->Option Bool} {v x:V} {b:Bool} (h:eqN m g v x=some b):EqN m g b v x:=by
 cases v with
 | tup xs=>
  cases x with
  | tup ys=>
   have h:(if xs.length=ys.length then aG2 g xs ys else none)=some b:=h
   by_cases e:xs.length=ys.length
   ·rw [if_pos e] at h;exact .tup e h
   ·rw [if_neg e] at h;injection h
  | _=>exact eF h
 | ref p=>
  cases x with
  | ref q=>
   have h:(match m[p]? with
    | some (.list xs)=>(match m[q]? with | some (.list ys)=>(if p≠q /\ xs.length=ys.length then aG2 g xs ys else none) | _=>none)
    | some (.dict ks _)=>(match m[q]? with | some (.dict ls _)=>(if p≠q /\ ks.length=ls.length /\ (aU8 ks&&aU8 ls)=true then aL2 m ls ks else none) | _=>none)
    | _=>none)=some b:=h
   cases mp:m[p]? with
   | none=>rw [mp] at h;injection h
   | some o=>
   cases mq:m[q]? with
   | none=>rw [mp,mq] at h;cases (o) <;> injection h
   | some o'=>
   rw [mp,mq] at h
   cases o with
   | inst y_ y_=>injection h
   | list xs=>
    cases o' with
    | inst y_ y_=>injection h
    | dict y_ y_=>injection h
    | list ys=>
     have h:(if p≠q /\ xs.length=ys.length then aG2 g xs ys else none)=some b:=h
     by_cases e:p≠q /\ xs.length=ys.length
     ·rw [if_pos e] at h;exact .list mp mq e.1 e.2 h
     ·rw [if_neg e] at h;injection h
   | dict ks ep=>
    cases o' with
    | inst y_ y_=>injection h
    | list y_=>injection h
    | dict ls ep'=>
     have h:(if p≠q /\ ks.length=ls.length /\ (aU8 ks&&aU8 ls)=true then aL2 m ls ks else none)=some b:=h
     by_cases e:p≠q /\ ks.length=ls.length /\ (aU8 ks&&aU8 ls)=true
     ·rw [if_pos e] at h;exact .dict mp mq e.1 e.2.1 (Bool.and_eq_true_iff.mp e.2.2).1 (Bool.and_eq_true_iff.mp e.2.2).2 h
     ·rw [if_neg e] at h;injection h
  | int i=>
   have h:(match m[p]? with | some (.dict _ _)=>some false | _=>none)=some b:=h
   cases mp:m[p]? with
   | none=>rw [mp] at h;injection h
   | some o=>
    rw [mp] at h
    cases o with
    | dict ks ep=>(refine aF h fun z1=>?_;clear h;subst z1);exact .dint mp rfl
    | _=>injection h
  | _=>exact eF h
 | _=>exact eF h
theorem aS6 (H:HR W s.heap io m):∀ (f:Nat) {v x:V} {u:Value} {b:Bool},VR W s.heap io v u->VR W s.heap io x u->eqX f m v x=some b->b=true
 | 0,_,_,_,_,_,_,h=>eF h
 | f+1,v,x,u,b,k,l,h=>by
  have apart:∀ {p q:Nat},p≠q->VR W s.heap io (.ref p) u->VR W s.heap io (.ref q) u->b=true:=fun e k l=>by
   rcases k with ⟨_,_,rfl,hp⟩;rcases l with ⟨y_,y_,e',hq⟩;exact absurd (Value.ref.inj e') (H.apart _ _ _ _ e hp hq).1
  rcases aW3 h with ⟨d,e,h1,h2,rfl⟩ | h
  ·rcases bP H _ _ _ _ h1 k with ⟨⟨as,r1⟩,c1,y_⟩
   rcases bP H _ _ _ _ h2 l with ⟨⟨bs,r2⟩,c2,y_⟩
   cases SeqAt.Reads.unique _ _ _ _ _ c1 r1 r2
   exact SeqAt.eqv_refl _ c1
  ·cases bH0 h with
   | tup y_ z=>
    rcases k with ⟨a,vs,c,rfl,h1,h4⟩
    rcases l with ⟨a',vs',c',e',g1,g4⟩
    cases (e')
    rw [h1] at g1;(refine aF g1 fun z1=>?_;clear g1;(first | (injection z1;done) | subst z1 | cases (z1)))
    exact cA4 (aS6 H f) h4 g4 z
   | list y_ y_ e y_ y_=>exact apart e k l
   | dict y_ y_ e y_ y_ y_ y_=>exact apart e k l
   | dint y_ y_=>
    rcases k with ⟨y_,y_,rfl,y_⟩
    rcases l with ⟨y_,e⟩
    injection e
theorem dA0 {g:V->V->Option Bool} (hg:∀ {x y:V} {u w:Value} {b:Bool},VR W s.heap io x u->VR W s.heap io y w->g x y=some b->SeqAt.EqAt A s u w b):∀ {xs ys:List V} {us ws:List Value} {b:Bool},VRs W s.heap io xs us->VRs W s.heap io ys ws->aG2 g xs ys=some b ->
  ∃ e:Nat->Bool,(∀ j (h1:j < us.length) (h2:j < ws.length),SeqAt.EqAt A s us[j] ws[j] (e j)) /\ (List.range us.length).all e=b /\ us.length=ws.length:=by
 intro xs
 induction xs with
 | nil=>
  intro ys us ws b x1 x2 h
  subst x1
  induction x2 using VRs.elim with
  | nil=>(refine aF h fun z1=>?_;clear h;subst z1);exact ⟨fun y_=>true,fun j h1=>absurd h1 (Nat.not_lt_zero _),rfl,rfl⟩
  | cons y_ y_=>exact eF h
 | cons x xs ih=>
  intro ys us ws b x1 x2 h
  refine VRs.dCons x1 fun y_ y_ h1 h2=>?_
  induction x2 using VRs.elim with
  | nil=>exact eF h
  | cons k1 k2=>
   rcases bC8 h with ⟨c,d,e1,e2,rfl⟩
   rcases ih h2 k2 e2 with ⟨e,q1,q2,q3⟩
   refine ⟨fun j=>Nat.rec c (fun j y_=>e j) j,fun j j1 j2=>?_,?_,congrArg (·+1) q3⟩
   ·cases j with
    | zero=>exact hg h1 k1 e1
    | succ j=>exact q1 j (Nat.lt_of_succ_lt_succ j1) (Nat.lt_of_succ_lt_succ j2)
   ·rw [List.length_cons,List.range_succ_eq_map,List.all_cons,List.all_map,<- q2];rfl
theorem bI7 {ls:List (Ky×V)}:∀ {kb:List (Int×Value)},kb.map (fun p=>Ky.int p.1)=ls.map (·.1)->VRs W s.heap io (ls.map (·.2)) (kb.map (·.2))->∀ k:Int,
  (∃ v u,bX (.int k) ls=some v /\ valueAt kb k=some u /\ VR W s.heap io v u) \/ (bX (.int k) ls=none /\ valueAt kb k=none):=by
 induction ls with
 | nil=>intro kb e x k;cases kb with
  | nil=>exact .inr ⟨rfl,rfl⟩
  | cons y_ y_=>injection e
 | cons q r ih=>
  intro kb e x k
  cases kb with
  | nil=>injection e
  | cons q' r'=>
   rcases q with ⟨k1,v1⟩
   rcases q' with ⟨k2,u2⟩
   have e1:Ky.int k2=k1:=(List.cons.inj e).1
   subst e1
   rcases VRs.cc x with ⟨x1,x2⟩
   by_cases hk:k2=k
   ·subst hk
    exact .inl ⟨v1,u2,by simp [bX],by simp [valueAt],x1⟩
   ·have hk':¬ Ky.int k2=Ky.int k:=fun e=>hk (dF3 e)
    have a1:bX (.int k) ((Ky.int k2,v1)::r)=bX (.int k) r:=if_neg hk'
    have a2:valueAt ((k2,u2)::r') k=valueAt r' k:=by simp [valueAt,List.find?_cons,hk]
    rw [a1,a2]
    exact ih (List.cons.inj e).2 x2 k
theorem bX6 (H:HR W s.heap io m) (hu:A.units+cP < cLine) {ls:List (Ky×V)} {kb:List (Int×Value)} (e:kb.map (fun p=>Ky.int p.1)=ls.map (·.1)) (hv:VRs W s.heap io (ls.map (·.2)) (kb.map (·.2))) :
  ∀ {ks:List (Ky×V)} {ka:List (Int×Value)} {b:Bool},ka.map (fun p=>Ky.int p.1)=ks.map (·.1)->VRs W s.heap io (ks.map (·.2)) (ka.map (·.2))->aL2 m ls ks=some b->KeqHits A s kb ka b:=by
 intro ks
 induction ks with
 | nil=>intro ka b e1 x h;cases ka with
  | nil=>(refine aF h fun z1=>?_;clear h;subst z1);exact .nil
  | cons y_ y_=>injection e1
 | cons q r ih=>
  intro ka b e1 x h
  cases ka with
  | nil=>injection e1
  | cons q' r'=>
   rcases q with ⟨k1,v1⟩
   rcases q' with ⟨k2,u2⟩
   have e2:Ky.int k2=k1:=(List.cons.inj e1).1
   subst e2
   rcases VRs.cc x with ⟨x1,x2⟩
   have h:(match bX (.int k2) ls with | none=>some false | some u=>(match rd cP m v1 with | some x=>(match rd cP m u with | some y=>(match aL2 m ls r with | some b=>some (PyData.eqv x y&&b) | none=>none) | none=>none) | none=>none))=some b:=h
   rcases bI7 e hv k2 with ⟨v,u,l1,l2,l3⟩ | ⟨l1,l2⟩
   ·rw [l1] at h
    dsimp only at h
    cases h1:rd cP m v1 with
    | none=>rw [h1] at h;injection h
    | some d1=>
     cases h2:rd cP m v with
     | none=>rw [h1,h2] at h;injection h
     | some d2=>
      cases h3:aL2 m ls r with
      | none=>rw [h1,h2,h3] at h;injection h
      | some c=>
       rw [h1,h2,h3] at h;(refine aF h fun z1=>?_;clear h;subst z1)
       rcases bP H _ _ _ _ h1 x1 with ⟨⟨as,r1⟩,c1,p1⟩
       rcases bP H _ _ _ _ h2 l3 with ⟨⟨bs,r2⟩,c2,p2⟩
       refine .hit l2 (SeqAt.eqAt_reads _ _ _ _ _ _ _ _ r1 r2 c1 c2 ?_) (ih (List.cons.inj e1).2 x2 h3)
       have:min d1.depth d2.depth <= cP:=Nat.le_trans (Nat.min_le_left _ _) p1
       lia
   ·rw [l1] at h;(refine aF h fun z1=>?_;clear h;subst z1);exact .miss l2
theorem bS9 {p p':Program} {w w':World} {es:List DictEntry} {l:List (Int×Value)} (h:Pairs (intKind p w) es l):Pairs (intKind p' w') es l:=by
 induction h with
 | nil=>exact .nil
 | cons h1 h2 y_ ih=>exact .cons h1 h2 ih
theorem aN0 (H:HR W s.heap io m) {k:Nat} {p:Addr×Addr} {kvs:List (Ky×V)} {e:Nat} (hi:io[k]?=some p) (hm:m[k]?=some (.dict kvs e)) (hk:aU8 kvs=true) :
  ∃ l:List (Int×Value),(∀ prog w,s.heap.DictOf (intKind prog w) p.1 l) /\ l.map (fun p=>Ky.int p.1)=kvs.map (·.1) /\ VRs W s.heap io (kvs.map (·.2)) (l.map (·.2)):=by
 rcases H.obj _ _ _ hi hm with ⟨y_,o,es,c,h1,h2,h3,h4,h5,h6⟩
 have hall:=aB2 (i:=0) hk
 rcases h4.pairs intEmb hall with ⟨l,p1,p2,p3⟩
 have nd:(l.map (·.1)).Nodup:=by
  have q:((l.map (·.1)).map Ky.int).Nodup:=by rw [List.map_map];exact (show List.map (fun p=>Ky.int p.1) l=_ from p2)▸h5
  exact (List.pairwise_map.mp q).imp fun h e=>h (congrArg Ky.int e)
 exact ⟨l,fun prog w=>⟨o,es,c,h1,h2,h3,fun e he=>h4.keysOf intEmb hall e (Array.mem_toList_iff.mpr he),bS9 p1,nd⟩,p2,p3⟩
structure EqAll (A:Around) (s:Shared) (u y:Value) (b:Bool):Prop where
 eq:SeqAt.RcAt A s u y b
 ne:SeqAt.RcNeAt A s u y (!b)
theorem bX1 (ok:WOk W) (H:HR W s.heap io m) (hu:A.units+1+cP < cLine) {g:V->V->Option Bool} (hg:∀ {x y:V} {u w:Value} {b:Bool},VR W s.heap io x u->VR W s.heap io y w->g x y=some b->SeqAt.EqAt A.in1 s u w b)
  {v x:V} {u y:Value} {b:Bool} (k:VR W s.heap io v u) (l:VR W s.heap io x y) (h:EqN m g b v x):EqAll A s u y b:=by
 have hA:A.units < cLine:=Nat.lt_of_le_of_lt (Nat.le_trans (Nat.le_succ _) (Nat.le_add_right _ _)) hu
 have zips:∀ {xs ys:List V} {vs vs':Array Value},VRs W s.heap io xs vs.toList->VRs W s.heap io ys vs'.toList->aG2 g xs ys=some b->∃ e:Nat->Bool,(∀ j (h1:j < vs.size) (h2:j < vs'.size),SeqAt.EqAt A.in1 s vs[j] vs'[j] (e j)) /\ (List.range vs.size).all e=b /\ vs.size=vs'.size:=fun h4 g4 h=>by
  rcases dA0 hg h4 g4 h with ⟨e,q1,q2,q3⟩
  exact ⟨e,fun j j1 j2=>q1 j j1 j2,q2,q3⟩
 cases h with
 | tup hl z=>
  refine VR.dTup k fun a vs c h1 h4=>?_
  refine VR.dTup l fun a' vs' c' g1 g4=>?_
  rcases zips h4 g4 z with ⟨e,he,q2,q3⟩
  have r1:=SeqAt.RcAt.tuples (e:=e) ⟨_,h1,rfl,c,rfl⟩ ⟨_,g1,rfl,c',rfl⟩ hA he
  have r2:=SeqAt.RcNeAt.tuples (e:=e) ⟨_,h1,rfl,c,rfl⟩ ⟨_,g1,rfl,c',rfl⟩ hA he
  rw [<- q3,Nat.min_self,q2,beq_self_eq_true,Bool.and_true] at r1 r2
  exact ⟨r1,r2⟩
 | list mp mq e hl z=>
  refine VR.dRef k fun a d hp=>?_
  refine VR.dRef l fun a' d' hq=>?_
  refine hide fun G_ g_=>?_
  rcases H.obj _ _ _ hp mp with ⟨y_,vs,c,h1,h4,y_⟩
  rcases H.obj _ _ _ hq mq with ⟨y_,vs',c',g1,g4,y_⟩
  rcases zips h4 g4 z with ⟨e,he,q2,q3⟩
  have r1:=SeqAt.RcAt.lists (e:=e) ⟨_,h1,rfl,c,rfl⟩ ⟨_,g1,rfl,c',rfl⟩ q3 hA he
  have r2:=SeqAt.RcNeAt.lists (e:=e) ⟨_,h1,rfl,c,rfl⟩ ⟨_,g1,rfl,c',rfl⟩ q3 hA he
  rw [q2] at r1 r2
  exact g_ ⟨r1,r2⟩
 | dint mp eb=>
  subst eb
  refine VR.dRef k fun a d hp=>?_
  refine VR.dInt l fun t=>?_
  refine hide fun G_ g_=>?_
  rcases H.obj _ _ _ hp mp with ⟨y_,o,es,c,h1,h2,h3,y_⟩
  exact g_ ⟨(aH7 (A:=A) (s:=s) _ t h1 h2.1 h3 hA).1,(aH7 (A:=A) (s:=s) _ t h1 h2.1 h3 hA).2⟩
 | dict mp mq e hl i1 i2 z=>
  refine VR.dRef k fun a d hp=>?_
  refine VR.dRef l fun a' d' hq=>?_
  have n1:=H.notSys ok ⟨_,List.mem_of_getElem? hp,.inl rfl⟩
  have n2:=H.notSys ok ⟨_,List.mem_of_getElem? hq,.inl rfl⟩
  refine hide fun G_ g_=>?_
  rcases aN0 H hp mp i1 with ⟨ka,d1,d2,d3⟩
  rcases aN0 H hq mq i2 with ⟨kb,e1,e2,e3⟩
  have la:ka.length=_:=(List.length_map (fun p=>Ky.int p.1)).symm.trans ((congrArg List.length d2).trans (List.length_map _))
  have lb:kb.length=_:=(List.length_map (fun p=>Ky.int p.1)).symm.trans ((congrArg List.length e2).trans (List.length_map _))
  have hits:=bX6 (A:=A.in1) H hu e2 e3 d2 d3 z
  have zz:(ka.length == kb.length&&b)=b:=by rw [la,lb,hl,beq_self_eq_true,Bool.true_and]
  exact g_ ⟨fun prog w E Q hQ=>keq_eq n1 n2 (d1 prog w) (e1 prog w) hA (fun y_=>hits) (zz.symm▸hQ),fun prog w E Q hQ=>keq_ne n1 n2 (d1 prog w) (e1 prog w) hA (fun y_=>hits) (zz.symm▸hQ)⟩
theorem bX0 (ok:WOk W) (H:HR W s.heap io m):∀ (f:Nat) {A:Around},A.units+f+cP+2 < cLine->∀ {v x:V} {u y:Value} {b:Bool},VR W s.heap io v u->VR W s.heap io x y->eqX f m v x=some b->SeqAt.EqAt A s u y b
 | 0,_,_,_,_,_,_,_,_,_,h=>eF h
 | f+1,A,hu,v,x,u,y,b,k,l,h=>by
  by_cases hs:u=y
  ·subst hs
   rw [aS6 H (f+1) k l h]
   exact SeqAt.EqAt.same u
  ·rcases aW3 h with ⟨d,e,h1,h2,rfl⟩ | h
   ·rcases bP H _ _ _ _ h1 k with ⟨⟨as,r1⟩,c1,p1⟩
    rcases bP H _ _ _ _ h2 l with ⟨⟨bs,r2⟩,c2,p2⟩
    refine SeqAt.eqAt_reads _ _ _ _ _ _ _ _ r1 r2 c1 c2 ?_
    exact Nat.lt_of_le_of_lt (Nat.le_trans (Nat.add_le_add_left (Nat.le_trans (Nat.min_le_left _ _) p1) _) (Nat.le_trans (Nat.add_le_add_right (Nat.le_add_right _ _) cP) (Nat.le_add_right _ 2))) hu
   ·have h:=bH0 h
    have hq:=bX1 (A:=A) ok H (Nat.lt_of_le_of_lt (Nat.le_trans (Nat.add_le_add_right (Nat.add_le_add_left (Nat.succ_le_succ (Nat.zero_le f)) _) cP) (Nat.le_add_right _ 2)) hu) (g:=eqX f m) (fun a b c=>bX0 ok H f (A:=A.in1) (by show A.units+1+f+cP+2 < cLine;rw [Nat.add_assoc A.units 1 f,Nat.add_comm 1 f];exact hu) a b c) k l h
    have rr:∀ {a a':Addr},u=.ref a->y=.ref a'->SeqAt.EqAt A s u y b:=fun e1 e2=>by
     subst e1;subst e2
     exact SeqAt.EqAt.of_refs (fun q=>hs (by rw [q])) hq.eq
    cases h with
    | tup y_ y_=>rcases k with ⟨_,_,_,e1,_⟩;rcases l with ⟨y_,y_,y_,e2,y_⟩;exact rr e1 e2
    | list y_ y_ y_ y_ y_=>rcases k with ⟨_,_,e1,_⟩;rcases l with ⟨y_,y_,e2,y_⟩;exact rr e1 e2
    | dict y_ y_ y_ y_ y_ y_ y_=>rcases k with ⟨_,_,e1,_⟩;rcases l with ⟨y_,y_,e2,y_⟩;exact rr e1 e2
    | dint y_ y_=>
     rcases k with ⟨y_,y_,rfl,y_⟩
     rcases l with ⟨y_,rfl⟩
     intro prog w E Q hQ
     unfold eqBool
     refine wpAny_holding (wpAny_ite_split (fun hab=>absurd (eq_of_beq hab) hs) fun y_=>?_)
     exact wpAny_bind (hq.eq prog w E _ (wpAny_truthy_bool hQ))
theorem aW4 (v x:V):(∃ d e,rd cP m v=some d /\ rd cP m x=some e /\ eqV v x m=.ok (PyData.eqv d e) m) \/ (∃ c,eqN m (eqX 8 m) v x=some c /\ eqV v x m=.ok c m) \/ eqV v x m=.bad:=by
 have e:eqV v x m=(match rd cP m v,rd cP m x with | some a,some c=>.ok (PyData.eqv a c) m | _,_=>(match eqN m (eqX 8 m) v x with | some c=>.ok c m | none=>.bad)):=rfl
 rw [e]
 have key:(∃ c,eqN m (eqX 8 m) v x=some c /\ (match eqN m (eqX 8 m) v x with | some c=>(.ok c m:Res Bool) | none=>.bad)=.ok c m) \/ (match eqN m (eqX 8 m) v x with | some c=>(.ok c m:Res Bool) | none=>.bad)=.bad:=by
  cases eqN m (eqX 8 m) v x with
  | none=>exact .inr rfl
  | some c=>exact .inl ⟨c,rfl,rfl⟩
 cases h1:rd cP m v with
 | none=>exact .inr key
 | some d=>
  cases h2:rd cP m x with
  | none=>exact .inr key
  | some e=>exact .inl ⟨d,e,rfl,rfl,rfl⟩
theorem dH1 (ok:WOk W) (H:HR W s.heap io m) (R:AR A fs n) {v x:V} {u y:Value} (k:VR W s.heap io v u) (l:VR W s.heap io x y) :
  Si W own A fs BV (compareOp .Eq u y) s io m (aF9 .Eq v x m):=by
 show Si W own A fs BV (compareOp .Eq u y) s io m (eqV v x m)
 have hc:=R.cline
 rcases aW4 (m:=m) v x with ⟨d,e,h1,h2,q⟩ | ⟨c,h1,q⟩ | q
 ·rw [q]
  rcases bP H _ _ _ _ h1 k with ⟨⟨as,r1⟩,c1,d1⟩
  rcases bP H _ _ _ _ h2 l with ⟨⟨bs,r2⟩,c2,d2⟩
  intro y_
  refine SeqAt.compareEq_reads r1 r2 c1 c2 ?_ ⟨_,m,io,rfl,.refl,H,rfl,.refl _⟩
  have h3:min d.depth e.depth <= 12:=Nat.le_trans (Nat.min_le_left _ _) d1
  lia
 ·rw [q]
  intro y_
  exact (bX1 (A:=A) ok H (by show A.units+1+12 < cLine;lia) (fun a b c=>bX0 ok H 8 (A:=A.in1) (by show A.units+1+8+12+2 < cLine;lia) a b c) k l (bH0 h1)).eq _ _ _ _ ⟨_,m,io,rfl,.refl,H,rfl,.refl _⟩
 ·rw [q];exact Si.bad
theorem dE6 (ok:WOk W) (H:HR W s.heap io m) (R:AR A fs n) {v x:V} {u y:Value} (k:VR W s.heap io v u) (l:VR W s.heap io x y) :
  Si W own A fs BV (compareOp .NotEq u y) s io m (aF9 .NotEq v x m):=by
 show Si W own A fs BV (compareOp .NotEq u y) s io m ((eqV v x m).bind fun c=>ret (!c))
 have hc:=R.cline
 rcases aW4 (m:=m) v x with ⟨d,e,h1,h2,q⟩ | ⟨c,h1,q⟩ | q
 ·rw [q]
  rcases bP H _ _ _ _ h1 k with ⟨⟨as,r1⟩,c1,d1⟩
  rcases bP H _ _ _ _ h2 l with ⟨⟨bs,r2⟩,c2,d2⟩
  intro y_
  refine SeqAt.compareNe_reads r1 r2 c1 c2 ?_ ⟨_,m,io,rfl,.refl,H,rfl,.refl _⟩
  have h3:min d.depth e.depth <= 12:=Nat.le_trans (Nat.min_le_left _ _) d1
  lia
 ·rw [q]
  intro y_
  exact (bX1 (A:=A) ok H (by show A.units+1+12 < cLine;lia) (fun a b c=>bX0 ok H 8 (A:=A.in1) (by show A.units+1+8+12+2 < cLine;lia) a b c) k l (bH0 h1)).ne _ _ _ _ ⟨_,m,io,rfl,.refl,H,rfl,.refl _⟩
 ·rw [q];exact Si.bad
end
end Mini.Internal
namespace Mini.Internal
open PySem
section
variable {W:Wd} {h h':Heap} {fs:List Env} {s s':Shared} {io io':Io} {m m':MH} {own fr:List Addr} {A:Around} {n:Nat}
theorem dF2 {a b:Int} (h:Ky.int a=Ky.int b):a=b:=dF3 h
theorem aN4 {j:Int} {v:V}:∀ {l:List (Int×Value)} {kvs:List (Ky×V)},l.map (fun p=>Ky.int p.1)=kvs.map (·.1)->VRs W h io (kvs.map (·.2)) (l.map (·.2))->(kvs.map (·.1)).Nodup->bX (.int j) kvs=some v ->
  ∃ u,valueAt l j=some u /\ VR W h io v u /\ (fM (.int j) kvs).map (·.1)=(without l j).map (fun p=>Ky.int p.1) /\ VRs W h io ((fM (.int j) kvs).map (·.2)) ((without l j).map (·.2))
 | [],[],_,_,_,q=>by injection q
 | [],_::_,e,_,_,_=>by injection e
 | _::_,[],e,_,_,_=>by injection e
 | (i,u)::l,(k,w)::kvs,e,x,nd,q=>by
  simp only [List.map_cons,List.cons.injEq] at e
  rcases e with ⟨e1,e2⟩
  subst e1
  simp only [List.map_cons] at x nd
  rcases VRs.cc x with ⟨x1,x2⟩
  ·
   rcases List.nodup_cons.mp nd with ⟨n1,n2⟩
   have q':(if Ky.int i=Ky.int j then some w else bX (.int j) kvs)=some v:=q
   have ed:fM (.int j) ((Ky.int i,w)::kvs)=if Ky.int i=Ky.int j then kvs else (Ky.int i,w)::fM (.int j) kvs:=rfl
   by_cases z:i=j
   ·subst z
    rw [if_pos rfl] at q' ed
    (refine aF q' fun z1=>?_;clear q';subst z1)
    have nm:i∉l.map (·.1):=fun hmem=>n1 (by
     rw [<- e2,List.mem_map]
     rcases List.mem_map.mp hmem with ⟨p,hp,rfl⟩
     exact ⟨p,hp,rfl⟩)
    have ew:without ((i,u)::l) i=l:=by
     unfold without
     rw [List.filter_cons_of_neg (by simp)]
     exact without_of_not_mem l i nm
    rw [ed,ew]
    exact ⟨u,by unfold valueAt;rw [List.find?_cons_of_pos (by simp)];rfl,x1,e2.symm,x2⟩
   ·have z':¬ Ky.int i=Ky.int j:=fun c=>z (dF2 c)
    rw [if_neg z'] at q' ed
    rcases aN4 e2 x2 n2 q' with ⟨u',a1,a2,a3,a4⟩
    have ew:without ((i,u)::l) j=(i,u)::without l j:=by
     unfold without
     rw [List.filter_cons_of_pos (by simp [z])]
    rw [ed,ew]
    refine ⟨u',?_,a2,?_,?_⟩
    ·unfold valueAt at a1 ⊢
     rw [List.find?_cons_of_neg (by simp [z])];exact a1
    ·rw [List.map_cons,List.map_cons,a3]
    ·exact .cons x1 a4
theorem bH2 {k:Ky}:∀ {kvs:List (Ky×V)},(fM k kvs).Sublist kvs
 | []=>.slnil
 | (k',v')::r=>by
  show List.Sublist (if k'=k then r else (k',v')::fM k r) _
  by_cases z:k'=k
  ·rw [if_pos z];exact List.sublist_cons_self _ _
  ·rw [if_neg z];exact (bH2 (kvs:=r)).cons_cons _
theorem cE5 (H:HR W s.heap io m) {i:Nat} {p:Addr×Addr} {kvs:List (Ky×V)} {e:Nat} (hi:io[i]?=some p) (hm:m[i]?=some (.dict kvs e)) {j:Int} {t:Tok} {v:V} (hs:aP (.int j) kvs=true) (hl:bX (.int j) kvs=some v) :
    Si W own A fs (VP W) (call (.builtin "dict.pop") [.ref p.1,.int j t]) s io m (.ok v (m.set i (.dict (fM (.int j) kvs) (e+1)))):=by
  refine hide fun G_ g_=>?_;rcases H.obj _ _ _ hi hm with ⟨y_,o,es,n',g1,g2,g3,g4,g5,g6⟩;refine g_ ?_;clear g_ G_
  intro y_
  have hh:=aB2 hs
  refine hide fun G_ g_=>?_;rcases g4.pairs intEmb hh with ⟨l,l1,l2,l3⟩;refine g_ ?_;clear g_ G_
  have ll:l.length=kvs.length:=by have:=congrArg List.length l2;simpa using this
  rcases aN4 l2 l3 g5 hl with ⟨u,a1,a2,a3,a4⟩
  have nd:(l.map (·.1)).Nodup:=by
    refine List.Pairwise.of_map (S:=(·≠·)) Ky.int (fun a b h e=>h (congrArg Ky.int e)) ?_
    rw [List.map_map]
    exact (by rw [<- l2] at g5;exact g5)
  refine call_meetsIn PySem.F.slot_dict_pop ⟨_,g1,g2.1⟩ PySem.F.entry_dict_pop (PySem.F.args_dict_pop_2 _ _) (meets_dict_pop_there (knd:=intKind W.prog W.w) (d:=p.1) (k:=j) (key:=.int j t) (hkey:=intEmb.is (io:=io) (h:=s.heap) j _ (.int j t)) (rest:=[]) (hrest:=.inl rfl) (hpart:=rfl)) ⟨l,u,⟨o,es,n',g1,g2,g3,fun e he=>g4.keysOf intEmb hh e (Array.mem_toList_iff.mpr he),l1,nd⟩,aR (by lia),a1,fun h' hd hsb=>?_⟩
  refine hide fun G_ g_=>?_;rcases hd with ⟨o',es',n2,d1,d2,d3,d4,d5,d6⟩;refine g_ ?_;clear g_ G_
  have sub:=bH2 (k:=.int j) (kvs:=kvs)
  have hk:(((fM (.int j) kvs)).map (·.1)).Nodup:=g5.sublist (sub.map _)
  rcases aD4 (own:=own) (fr:=frs fs) (tk:=s.toks+1) H hi hm hsb d1 d2 d3 (fun st=>ERs.of_pairs intEmb (fun e he=>d4 e (Array.mem_toList_iff.mp he)) d5 a3 (a4.step st) fun k u y_ hi=>by
        obtain ⟨t,rfl⟩:=Value.isInt_shape (k:=k) (v:=u) hi;exact .int _ _) hk (Nat.le_trans sub.length_le g6) with ⟨y_,m2,io2,e2,st,H2,y_,sm⟩
  (refine aC5 e2 fun z1 z2=>?_;clear e2;subst z1;subst z2)
  exact ⟨v,_,_,rfl,st,H2,a2.step st,sm⟩
end
end Mini.Internal
namespace Mini.Internal
open PySem
section
variable {W:Wd} {own:List Addr} {A:Around} {fs:List Env} {s:Shared} {io:Io} {m:MH} {n:Nat}
theorem Si.res0' {α β:Type} {P:Heap->Io->α->β->Prop} {t:Sem β} {R R':Res α} (e:R'=R) (x:Si W own A fs P t s io m R):Si W own A fs P t s io m R':=e▸x
theorem dG4 {v:V} {q:Nat} {o:Option MObj} (h:m[q]?=o):inV v (.ref q) m=(match (generalizing:=false) o with
  | some (.list ys)=>match eS (rd cP m) ys,rd cP m v with
   | some ds,some d=>.ok (ds.any fun e=>PyData.eqv e d) m
   | _,_=>.bad
  | some (.dict kvs _)=>match dQ v with
   | some k=>if aP k kvs then .ok (bX k kvs).isSome m else .bad
   | Option.none=>.bad
  | _=>.bad):=by subst h;rfl
theorem cL1 {t:Sem Value} {o1:Option (List PyData)} {o2:Option PyData} {f:List PyData->PyData->Res Bool} (h:∀ a b,o1=some a->o2=some b->Si W own A fs BV t s io m (f a b)):Si W own A fs BV t s io m (match (generalizing:=false) o1,o2 with | some a,some b=>f a b | _,_=>.bad):=by
 cases o1 with
 | none=>exact Si.bad
 | some a=>
  cases o2 with
  | none=>exact Si.bad
  | some b=>exact h a b rfl rfl
theorem cM3 (ok:WOk W) (H:HR W s.heap io m) (R:AR A fs n) {v x:V} {u y:Value} (k:VR W s.heap io v u) (l:VR W s.heap io x y) :
  Si W own A fs BV (compareOp .In u y) s io m (inV v x m):=by
 have hc:=R.cline
 induction l using VR.elim with
 | @tup a vs c xs g1 g2=>
  refine cL1 (o1:=eS (rd cP m) xs) (o2:=rd cP m v) (f:=fun ds d=>.ok (ds.any fun e=>PyData.eqv e d) m) fun ds d h1 h2=>?_
  refine hide fun G_ g_=>?_
  rcases dF (bP H _) _ _ _ h1 g2 with ⟨⟨as,r1⟩,c1,d1⟩
  rcases bP H _ _ _ _ h2 k with ⟨⟨bs,r2⟩,c2,d2⟩
  refine g_ ?_
  clear g_ G_
  intro y_
  refine SeqAt.in_tuple_reads (.tuple g1 rfl rfl r1) r2 c1 c2 ?_ ⟨_,m,io,rfl,.refl,H,rfl,.refl _⟩
  have h3:min (PyData.depthAll ds) d.depth <= 12:=Nat.le_trans (Nat.min_le_left _ _) d1
  lia
 | @str x t okk=>
  induction k using VR.elim with
  | @str z t' okz=>
   show Si W own A fs BV _ s io m (match z.cps.toList with | [c]=>.ok (decide (c∈x.cps.toList)) m | _=>.bad)
   cases hz:z.cps.toList with
   | nil=>exact Si.bad
   | cons c r=>
    cases r with
    | cons d r=>exact Si.bad
    | nil=>
     have e:z=⟨#[c]⟩:=by
      rcases z with ⟨⟨z'⟩⟩
      have hz:z'=[c]:=hz
      subst hz;rfl
     subst e
     intro y_
     refine P.in_str ?_
     rw [StrLaws.found_one]
     exact ⟨_,m,io,rfl,.refl,H,rfl,.refl _⟩
  | _=>exact Si.bad
 | @ref q a d g1=>
  cases hy:m[q]? with
  | none=>rw [dG4 hy];exact Si.bad
  | some ob=>
   rw [dG4 hy]
   cases ob with
   | list ys=>
    refine hide fun G_ g_=>?_;rcases H.obj _ _ _ g1 hy with ⟨y_,vs,n',a1,a2,y_⟩;refine g_ ?_;clear g_ G_
    refine cL1 (o1:=eS (rd cP m) ys) (o2:=rd cP m v) (f:=fun ds d=>.ok (ds.any fun e=>PyData.eqv e d) m) fun ds d h1 h2=>?_
    refine hide fun G_ g_=>?_
    rcases dF (bP H _) _ _ _ h1 a2 with ⟨⟨as,r1⟩,c1,d1⟩
    rcases bP H _ _ _ _ h2 k with ⟨⟨bs,r2⟩,c2,d2⟩
    refine g_ ?_
    clear g_ G_
    intro y_
    refine SeqAt.in_list_reads (.list a1 rfl rfl r1) r2 c1 c2 ?_ ⟨_,m,io,rfl,.refl,H,rfl,.refl _⟩
    have h3:min (PyData.depthAll ds) d.depth <= 12:=Nat.le_trans (Nat.min_le_left _ _) d1
    lia
   | dict kvs e=>
    show Si W own A fs BV _ s io m (match dQ v with | some k=>if aP k kvs then .ok (bX k kvs).isSome m else .bad | Option.none=>.bad)
    cases hk:dQ v with
    | none=>exact Si.bad
    | some ky=>
     by_cases hs:aP ky kvs=true
     ·exact .res0' (if_pos hs) fun y_=>cW2 ok H R g1 hy k hk hs fun tk=>⟨_,m,io,rfl,.refl,H,rfl,rfl,rfl⟩
     ·exact .res0' (if_neg hs) Si.bad
   | _=>exact Si.bad
 | _=>exact Si.bad
theorem aO9 {v x:V} {u y:Value} {t:Sem Value} {f:Int->Int->Bool} (k:VR W s.heap io v u) (l:VR W s.heap io x y) (h:∀ i j a b,u=.int i a->y=.int j b->Si W own A fs BV t s io m (.ok (f i j) m)):Si W own A fs BV t s io m ((match v,x with | .int i,.int j=>ret (f i j) | _,_=>bad) m):=by
 induction k using VR.elim with
 | int i a=>
  induction l using VR.elim with
  | int j b=>exact h i j a b rfl rfl
  | _=>exact Si.bad
 | _=>exact Si.bad
theorem aR0 (ok:WOk W) (H:HR W s.heap io m) (R:AR A fs n) {op:CmpOp} {v x:V} {u y:Value} (k:VR W s.heap io v u) (l:VR W s.heap io x y) :
  Si W own A fs BV (compareOp op u y) s io m (aF9 op v x m):=by
 cases op with
 | Eq=>exact dH1 ok H R k l
 | NotEq=>exact dE6 ok H R k l
 | In=>exact cM3 ok H R k l
 | NotIn=>exact (cM3 ok H R k l).not fun y_ y_ h=>aZ6 h
 | Is=>exact Si.bad
 | IsNot=>exact Si.bad
 | Lt=>exact aO9 k l fun i j a b e1 e2=>by subst e1 e2;exact fun y_=>P.lt_int ⟨_,m,io,rfl,.refl,H,rfl,rfl,rfl⟩
 | LtE=>exact aO9 k l fun i j a b e1 e2=>by subst e1 e2;exact fun y_=>P.le_int ⟨_,m,io,rfl,.refl,H,rfl,rfl,rfl⟩
 | Gt=>exact aO9 k l fun i j a b e1 e2=>by subst e1 e2;exact fun y_=>P.gt_int ⟨_,m,io,rfl,.refl,H,rfl,rfl,rfl⟩
 | GtE=>exact aO9 k l fun i j a b e1 e2=>by subst e1 e2;exact fun y_=>P.ge_int ⟨_,m,io,rfl,.refl,H,rfl,rfl,rfl⟩
theorem cG7 {k:Int} (h:k.natAbs < 2 ^ 60):k < 2 ^ 63:=Int.lt_of_le_of_lt Int.le_natAbs (Int.lt_trans (Int.ofNat_lt.mpr h) (by decide))
theorem dF6 {k:Int} (h:k.natAbs < 2 ^ 60):-(2 ^ 63) <= k:=by
 have:=cG7 (k:=-k) (by rw [Int.natAbs_neg];exact h)
 exact Int.neg_le_of_neg_le (Int.le_of_lt this)
theorem cO2 {α:Type} {xs:List α} {i:Int} {v:α} (h:at_ xs i=some v):∃ k,seqIndex? i xs.length=some k /\ xs[k]?=some v:=by
 unfold at_ at h
 by_cases h0:0 <= i
 ·rw [if_pos h0] at h
  have hlt:=(List.getElem?_eq_some_iff.mp h).1
  refine ⟨i.toNat,?_,h⟩
  unfold seqIndex?
  have h1:¬ i < 0:=Int.not_lt.mpr h0
  dsimp only
  rw [if_neg h1,if_pos]
  rw [decide_eq_true h0,decide_eq_true ((Int.toNat_lt h0).mp hlt)];rfl
 ·rw [if_neg h0] at h;(first|(injection h;done)|(refine aF h fun z1=>?_;clear h;(first | (injection z1;done) | subst z1 | cases (z1)))|(refine aC5 h fun z1 z2=>?_;clear h;(first | (injection z1;done) | subst z1 | cases (z1));(first | (injection z2;done) | subst z2 | cases (z2)))|subst h|refine VR.dInt h fun y_=>?_|cases (h))
set_option tactic.hygienic true in
theorem aY5 (slice:Expr) (o i:Value):∃ ops,subscripted slice false o i=operate ops (getItem o i):=by
 cases (slice) <;> first | (exact ⟨_,rfl⟩) | skip
 rename_i st _
 cases (st) <;> exact ⟨_,rfl⟩
theorem aD3 {value slice:Expr} {u y:Value} {T id:String} {α:Type} {P:Heap->Io->α->Value->Prop} {R:Res α} (x:Si W own A fs P (getItem u y) s io m R) (hT:s.TypeIs u T) (hl:typeLookup (.type T) "__getitem__"=pure (some (.builtin id))) :
  Si W own A fs P (PyProof.Rows.subscriptTail value slice u y) s io m R:=by
 intro hne
 rcases aY5 slice u y with ⟨ops,e⟩
 exact PyProof.Rows.tail_any hT hl (x hne) e
theorem VRs.get_arr {h:Heap} {xs:List V} {vs:Array Value} (x:VRs W h io xs vs.toList) {k:Nat} {v:V} (hk:xs[k]?=some v):∃ u,vs[k]?=some u /\ VR W h io v u:=by
 refine hide fun G_ g_=>?_;rcases x.get hk with ⟨u,e,r⟩;refine g_ ?_;clear g_ G_
 exact ⟨u,by rw [<- Array.getElem?_toList];exact e,r⟩
theorem VRs.size {h:Heap} {xs:List V} {vs:Array Value} (x:VRs W h io xs vs.toList):vs.size=xs.length:=by
 have:=x.length;rw [Array.length_toList] at this;exact this
theorem aS2 {x:Str} {c k:Nat} (ok:PyData.strOk x=true) (h:x.cps[k]?=some c):PyData.strOk ⟨#[c]⟩=true:=by
 unfold PyData.strOk at *
 have:=Array.all_eq_true.mp ok k (Array.getElem?_eq_some_iff.mp h).1
 rw [(Array.getElem?_eq_some_iff.mp h).2] at this
 simpa using this
theorem cM4 {x:V} {q:Nat} {o:Option MObj} (h:m[q]?=o):aX8 (.ref q) x m=(match (generalizing:=false) o with
  | some (.list xs)=>match x with
   | .int k=>if k.natAbs < 2 ^ 60 then ofO (at_ xs k) m else .bad
   | _=>.bad
  | some (.dict kvs _)=>match dQ x with
   | some k=>if aP k kvs then ofO (bX k kvs) m else .bad
   | Option.none=>.bad
  | _=>.bad):=by subst h;rfl
theorem bR4 {α β:Type} {P:Heap->Io->α->β->Prop} {t:Sem β} {c:Prop} [Decidable c] {R:Res α} (h:c->Si W own A fs P t s io m R):Si W own A fs P t s io m (if c then R else .bad):=by
 by_cases q:c
 ·rw [if_pos q];exact h q
 ·rw [if_neg q];exact Si.bad
theorem cD8 {α β:Type} {P:Heap->Io->α->β->Prop} {t:Sem β} {o:Option α} (h:∀ a,o=some a->Si W own A fs P t s io m (.ok a m)):Si W own A fs P t s io m (ofO o m):=by
 cases o with
 | none=>exact Si.bad
 | some a=>exact h a rfl
set_option tactic.hygienic true in
theorem cW4 (H:HR W s.heap io m) (R:AR A fs n) {value slice:Expr} {v x:V} {u y:Value} (k:VR W s.heap io v u) (l:VR W s.heap io x y) :
  Si W own A fs (VP W) (PyProof.Rows.subscriptTail value slice u y) s io m (aX8 v x m):=by
 induction k using VR.elim with
 | @tup a vs n' xs g1 g2=>
  induction l using VR.elim with
  | int k t=>
   refine bR4 fun hk=>cD8 fun z q=>?_
   refine hide fun G_ g_=>?_
   rcases cO2 q with ⟨j,e1,e2⟩
   rcases g2.get_arr e2 with ⟨z',f1,f2⟩
   refine g_ ?_
   clear g_ G_
   refine aD3 (T:="tuple") (fun y_=>P.getItem_tuple g1 (dF6 hk) (cG7 hk) (by rw [g2.size];exact e1) f1 (bO (tk:=s.toks) H f2)) ⟨_,g1,rfl⟩ F.slot_tuple_getitem.lookup
  | _=>exact Si.bad
 | str z t okz=>
  induction l using VR.elim with
  | int k t=>
   refine bR4 fun hk=>?_
   cases q:at_ z.cps.toList k with
   | none=>exact Si.bad
   | some c=>
    refine hide fun G_ g_=>?_;rcases cO2 q with ⟨j,e1,e2⟩;refine g_ ?_;clear g_ G_
    rw [Array.getElem?_toList] at e2
    refine aD3 (T:="str") (fun y_=>P.getItem_str (c:=c) (by rw [decide_eq_false (Int.not_lt.mpr (dF6 hk)),decide_eq_false (Int.not_le.mpr (cG7 hk))];rfl) ?_ (bO H (.str _ _ (aS2 okz e2)))) rfl F.slot_str_getitem.lookup
    rw [Array.length_toList] at e1
    show (seqIndex? k z.cps.size).bind _=_
    rw [e1];exact e2
  | _=>exact Si.bad
 | @ref p a d g1=>
  cases hx:m[p]? with
  | none=>rw [cM4 hx];exact Si.bad
  | some ob=>
   rw [cM4 hx]
   cases ob with
   | list xs=>
    refine hide fun G_ g_=>?_;rcases H.obj _ _ _ g1 hx with ⟨y_,vs,n',a1,a2,a3⟩;refine g_ ?_;clear g_ G_
    induction l using VR.elim with
    | int k t=>
     refine bR4 fun hk=>cD8 fun z q=>?_
     refine aD3 (T:="list") (fun y_=>?_) ⟨_,a1,rfl⟩ slot_list_getitem.lookup
     unfold at_ at q
     split at q
     ·rename_i h0
      refine hide fun G_ g_=>?_;rcases a2.get_arr q with ⟨z',f1,f2⟩;refine g_ ?_;clear g_ G_
      exact wpAny_getItem_list ⟨_,a1,rfl,_,rfl⟩ h0 (cG7 hk) f1 (bO (tk:=s.toks) H f2)
     ·injection q
    | _=>exact Si.bad
   | dict kvs e=>
    refine hide fun G_ g_=>?_;rcases H.obj _ _ _ g1 hx with ⟨y_,o,es,n',a1,a2,a3,y_⟩;refine g_ ?_;clear g_ G_
    show Si W own A fs (VP W) _ s io m (match dQ x with | some k=>if aP k kvs then ofO (bX k kvs) m else .bad | Option.none=>.bad)
    cases hk:dQ x with
    | none=>exact Si.bad
    | some ky=>exact bR4 fun hs=>cD8 fun z q=>aD3 (T:="dict") (fun y_=>cH8 H R g1 hx l hk hs q fun u' tk hu=>bO H hu) ⟨_,a1,a2.1⟩ slot_dict_getitem.lookup
   | _=>exact Si.bad
 | @scr ns l' o vs n' h1 h2 h3 h4 h5=>
  induction l using VR.elim with
  | int k t=>
   refine bR4 fun hk=>cD8 fun z q=>?_
   have q':(ns.map V.int)[k.toNat]?=some z:=by rw [List.getElem?_map];exact q
   refine hide fun G_ g_=>?_;rcases (h4.vrs (W:=W) (h:=s.heap) (io:=io)).get_arr q' with ⟨z',f1,f2⟩;refine g_ ?_;clear g_ G_
   have hlt:k.toNat < ns.length:=by have:=(List.getElem?_eq_some_iff.mp q').1;simpa using this
   refine aD3 (T:="list") (fun y_=>wpAny_getItem_list ⟨_,H.keep _ _ h1,h2,_,h3⟩ hk (Int.lt_of_lt_of_le ((Int.toNat_lt hk).mp hlt) (Int.ofNat_le.mpr (Nat.le_trans h5 (by decide:lid <= 2 ^ 63)))) f1 (bO (tk:=s.toks) H f2)) ⟨_,H.keep _ _ h1,h2⟩ slot_list_getitem.lookup
  | _=>exact Si.bad
 | _=>exact Si.bad
end
end Mini.Internal
namespace Mini.Internal
open PySem
theorem bX7 {h l n:Nat} (e:h - l=n) (k:h <= n):l=0 /\ h=n \/ n=0:=by
 cases l with
 | zero=>exact .inl ⟨rfl,e⟩
 | succ l=>
  cases h with
  | zero=>exact .inr (e.symm.trans (Nat.zero_sub _))
  | succ h=>exact absurd (e.symm▸k:h+1 <= h+1 - (l+1)) (Nat.not_le.mpr (Nat.lt_succ_of_le (by rw [Nat.succ_sub_succ];exact Nat.sub_le h l)))
theorem cE7 {α:Type} (xs:List α) (a:Nat):∀ c,(List.range c).filterMap (fun k=>xs[a+k]?)=(xs.drop a).take c:=by
 intro c
 induction c with
 | zero=>simp
 | succ c ih=>
  rw [List.range_succ,List.filterMap_append,ih,List.take_add_one]
  congr 1
  rw [List.getElem?_drop,List.filterMap_cons,List.filterMap_nil]
  cases xs[a+c]? <;> rfl
theorem bR8 {α:Type} (xs:List α) {a b:Nat} (hb:b <= xs.length):(List.range (b - a)).filterMap (fun k=>xs[a+k]?)=(xs.take b).drop a:=by
 rw [cE7,List.drop_take]
noncomputable def cM0 (n:Nat) (lo:Option Int):Nat:=match lo with | some i=>eZ n i | Option.none=>0
noncomputable def aV0 (n:Nat) (hi:Option Int):Nat:=match hi with | some i=>eZ n i | Option.none=>n
theorem aE5 {α:Type} (xs:List α) (lo hi:Option Int):cut xs lo hi=(xs.take (aV0 xs.length hi)).drop (cM0 xs.length lo):=rfl
theorem aQ2 (n:Nat) (hi:Option Int):aV0 n hi <= n:=by
 cases hi with
 | none=>exact Nat.le_refl _
 | some i=>
  show eZ n i <= n
  unfold eZ
  by_cases h:0 <= i
  ·rw [if_pos h];exact Nat.min_le_right _ _
  ·rw [if_neg h]
   exact Int.toNat_le.mpr (Int.add_le_of_le_sub_right (by rw [Int.sub_self];exact Int.le_of_lt (Int.not_le.mp h)))
theorem cY0 (n:Nat) (i:Int):(max 0 (min (if i < 0 then i+n else i) (n:Int)))=(eZ n i:Int):=by
 unfold eZ
 by_cases h:0 <= i
 ·rw [if_neg (Int.not_lt.mpr h),if_pos h]
  rcases Int.le_total i (n:Int) with z | z
  ·rw [Int.min_eq_left z,Int.max_eq_right h,Nat.min_eq_left (Int.toNat_le.mpr z),Int.toNat_of_nonneg h]
  ·rw [Int.min_eq_right z,Int.max_eq_right (Int.natCast_nonneg n),Nat.min_eq_right ((Int.le_toNat h).mpr z)]
 ·have h':i < 0:=Int.not_le.mp h
  rw [if_pos h',if_neg h,Int.min_eq_left (Int.le_of_lt (by have:=Int.add_lt_add_right h' (n:Int);rwa [Int.zero_add] at this)),Int.toNat_eq_max,Int.max_comm]
theorem aW7 (lo hi:Option Int) (n:Nat):sliceBounds lo hi none n=((cM0 n lo:Int),(aV0 n hi:Int),1):=by
 unfold sliceBounds cM0 aV0
 cases (lo) <;> cases (hi) <;> simp [cY0]
theorem aS8 (a b:Nat):sliceRange (a:Int) (b:Int) 1=(List.range (b - a)).map fun k=>a+k:=by
 unfold sliceRange
 have e:(if (1:Int) > 0 then (if (a:Int) < b then ((b:Int) - a+1 - 1) / 1 else 0) else (if (a:Int) > b then ((a:Int) - b - 1 - 1) / (-1) else 0)).toNat=b - a:=by
  rw [if_pos (by decide)]
  by_cases h:(a:Int) < b
  ·rw [if_pos h,Int.ediv_one,Int.add_sub_cancel];exact Int.toNat_sub b a
  ·rw [if_neg h];exact (Nat.sub_eq_zero_of_le (Int.ofNat_le.mp (Int.not_lt.mp h))).symm
 simp only [e]
 refine List.map_congr_left fun k y_=>by rw [Int.one_mul];exact Int.toNat_natCast (a+k)
theorem cE8 (items:Array Value) (lo hi:Option Int):(slicePick items lo hi none).toList=cut items.toList lo hi:=by
 unfold slicePick
 rw [aW7,aE5]
 simp only [aS8,List.filterMap_map]
 rw [Array.length_toList]
 rw [<- bR8 items.toList (b:=aV0 items.size hi) (a:=cM0 items.size lo) (by rw [Array.length_toList];exact aQ2 _ _)]
 congr 1
 funext k
 simp only [Function.comp,Array.getElem?_toList]
set_option tactic.hygienic true in
theorem cR0 (x:Str) (t:Tok) (l u:Option (Int×Tok)) {Q:Value->Shared->Prop} {s:Shared} (h:∀ t' tk,Q (.str ⟨(cut x.cps.toList (l.map (·.1)) (u.map (·.1))).toArray⟩ t') { s with toks:=tk }) (hsz:x.length <= sizeLine):(sliceMade x t l u none).post Q s:=by
 have e1:slicePicked x l u none=(List.range (aV0 x.length (u.map (·.1)) - cM0 x.length (l.map (·.1)))).map fun k=>cM0 x.length (l.map (·.1))+k:=by
  unfold slicePicked
  have:Builtin.Str.strSliceIndices (l.map (·.1)) (u.map (·.1)) ((Option.map (·.1) (none:Option (Int×Tok))).getD 1) x.length=sliceRange (sliceBounds (l.map (·.1)) (u.map (·.1)) none x.length).1 (sliceBounds (l.map (·.1)) (u.map (·.1)) none x.length).2.1 1:=by
   cases (l) <;> cases (u) <;> rfl
  rw [this,aW7]
  exact aS8 _ _
 have e2:(slicePicked x l u none).filterMap (x.cps[·]?)=cut x.cps.toList (l.map (·.1)) (u.map (·.1)):=by
  rw [e1,List.filterMap_map,aE5,Array.length_toList]
  rw [<- bR8 x.cps.toList (b:=aV0 x.cps.size (u.map (·.1))) (a:=cM0 x.cps.size (l.map (·.1))) (by rw [Array.length_toList];exact aQ2 _ _)]
  refine congrArg (fun f=>List.filterMap f _) ?_
  funext k
  simp only [Function.comp,Array.getElem?_toList]
  rfl
 unfold sliceMade
 split
 ·rename_i hc
  have hlen:(slicePicked x l u none).length=x.length:=by simpa using hc
  have:cut x.cps.toList (l.map (·.1)) (u.map (·.1))=x.cps.toList:=by
   rw [aE5,Array.length_toList]
   rw [e1] at hlen
   simp only [List.length_map,List.length_range] at hlen
   have h1:=aQ2 x.length (u.map (·.1))
   have h2:cM0 x.cps.size (l.map (·.1))=0 /\ aV0 x.cps.size (u.map (·.1))=x.cps.size \/ x.cps.size=0:=by
    exact bX7 hlen h1
   rcases h2 with ⟨h2,h3⟩ | h2
   ·rw [h2,h3,<- Array.length_toList,List.drop_zero,List.take_length]
   ·have:x.cps.toList=[]:=List.eq_nil_of_length_eq_zero (by rw [Array.length_toList];exact h2)
    rw [this];simp
  have h':=h t s.toks
  rw [this] at h'
  exact h'
 ·rw [e2]
  refine ⟨?_,h _ _⟩
  show (cut x.cps.toList (l.map (·.1)) (u.map (·.1))).toArray.size <= sizeLine
  rw [List.size_toArray,aE5,List.length_drop,List.length_take,Array.length_toList]
  exact Nat.le_trans (Nat.sub_le _ _) (Nat.le_trans (Nat.min_le_right _ _) hsz)
section
variable {W:Wd} {own:List Addr} {A:Around} {fs:List Env} {s:Shared} {io:Io} {m:MH} {n:Nat}
theorem VRs.cut {h:Heap} {xs:List V} {vs:List Value} (x:VRs W h io xs vs) (lo hi:Option Int):VRs W h io (Mini.Internal.cut xs lo hi) (Mini.Internal.cut vs lo hi):=by
 rw [aE5,aE5,x.length];exact (x.take _).drop _
theorem bL2 {α:Type} (xs:List α) (lo hi:Option Int):(Mini.Internal.cut xs lo hi).length <= xs.length:=by
 rw [aE5,List.length_drop,List.length_take];exact Nat.le_trans (Nat.sub_le _ _) (Nat.min_le_right _ _)
theorem bQ1 {x:Str} (ok:PyData.strOk x=true) (lo hi:Option Int):PyData.strOk ⟨(Mini.Internal.cut x.cps.toList lo hi).toArray⟩=true:=by
 unfold PyData.strOk at *
 rw [List.all_toArray,List.all_eq_true]
 intro c hc
 rw [aE5] at hc
 have:=List.mem_of_mem_take (List.mem_of_mem_drop hc)
 exact Array.all_eq_true_iff_forall_mem.mp ok c (Array.mem_toList_iff.mp this)
theorem aZ3 {v:V} {u:Value} {o:Option Int} (k:VR W s.heap io v u) (h:aJ4 v=some o):IsPart u o:=by
 induction k using VR.elim with
 | none=>(refine aF h fun z1=>?_;clear h;subst z1);exact .none
 | int i t=>
  by_cases q:i.natAbs < 2 ^ 60
  ·have h:some (some i)=some o:=(if_pos q).symm.trans h
   (refine aF h fun z1=>?_;clear h;subst z1);exact .int _ _
  ·exact nomatch (show Option.none=some o from (if_neg q).symm.trans h)
 | _=>injection h
theorem aM1 {value slice:Expr} {u y:Value} {T id:String} {α:Type} {P:Heap->Io->α->Value->Prop} {R:Res α} (hT:s.TypeIs u T) (hl:typeLookup (.type T) "__getitem__"=pure (some (.builtin id)))
  (x:wpAny (model W.prog W.w) A (getItem u y) (NP W own (frs fs) s io m P R) (XP W own fs s io m R) s):Si W own A fs P (PyProof.Rows.subscriptTail value slice u y) s io m R:=aD3 (fun y_=>x) hT hl
theorem aT4 {v:V} {u:Value} {o:Option Int} (k:VR W s.heap io v u) (h:aJ4 v=some o):∃ q:Option (Int×Tok),u=partValue q /\ q.map (·.1)=o:=by
 cases aZ3 k h with
 | none=>exact ⟨none,rfl,rfl⟩
 | int i t=>exact ⟨some (i,t),rfl,rfl⟩
theorem aH4 {α:Type} {xs l:List α} {lo hi:V} (h:dM xs lo hi .none=some l):∃ a b,aJ4 lo=some a /\ aJ4 hi=some b /\ l=Mini.Internal.cut xs a b:=by
 have h:(match aJ4 lo,aJ4 hi with | some a,some b=>some (cut xs a b) | _,_=>none)=some l:=h
 cases h1:aJ4 lo with
 | none=>rw [h1] at h;injection h
 | some a=>
  cases h2:aJ4 hi with
  | none=>rw [h1,h2] at h;injection h
  | some b=>rw [h1,h2] at h;(refine aF h fun z1=>?_;clear h;subst z1);exact ⟨a,b,rfl,rfl,rfl⟩
set_option tactic.hygienic true in
theorem bR2 (H:HR W s.heap io m) {value slice:Expr} {v lo hi st:V} {u ul uh us:Value} {sl:Addr} (k:VR W s.heap io v u) (kl:VR W s.heap io lo ul) (kh:VR W s.heap io hi uh) (ks:VR W s.heap io st us) (hs:s.heap.IsSliceOf sl ul uh us) :
  Si W own A fs (VP W) (PyProof.Rows.subscriptTail value slice u (.ref sl)) s io m (aB4 v lo hi st m):=by
 unfold aB4
 split
 ·rename_i z
  refine VR.dStr k fun t okz=>?_
  split
  ·subst ks
   split
   ·rename_i hl
    cases q:dM z.cps.toList lo hi .none with
    | none=>exact Si.bad
    | some l=>
     refine hide fun G_ g_=>?_
     rcases aH4 q with ⟨a,b,h1,h2,rfl⟩
     rcases aT4 kl h1 with ⟨ql,rfl,rfl⟩
     rcases aT4 kh h2 with ⟨qh,rfl,rfl⟩
     refine g_ ?_
     clear g_ G_
     refine aM1 (T:="str") rfl F.slot_str_getitem.lookup ?_
     refine hide fun G_ g_=>?_;rcases hs with ⟨o,ho,hc,hd⟩;refine g_ ?_;clear g_ G_
     refine wpAny_getItem_str_slice (l:=ql) (u:=qh) (st:=none) ⟨o,ho,hc,hd⟩ (by decide) ?_
     exact cR0 z t ql qh (fun t' tk=>bO H (.str _ _ (bQ1 okz _ _))) (aR hl)
   ·exact Si.bad
  ·exact Si.bad
 ·refine VR.dRef k fun y_ y_ g1=>?_
  split
  ·rename_i xs hx
   refine hide fun G_ g_=>?_;rcases H.obj _ _ _ g1 hx with ⟨y_,vs,n',a1,a2,a3⟩;refine g_ ?_;clear g_ G_
   have ll:=a2.size
   split
   ·subst ks
    cases q:dM xs lo hi .none with
    | none=>exact Si.bad
    | some l=>
     refine hide fun G_ g_=>?_;rcases aH4 q with ⟨a,b,h1,h2,rfl⟩;refine g_ ?_;clear g_ G_
     refine aM1 (T:="list") ⟨_,a1,rfl⟩ slot_list_getitem.lookup ?_
     refine wpAny_getItem_list_slice ⟨_,a1,rfl,_,rfl⟩ hs (aZ3 kl h1) (aZ3 kh h2) .none (by simp) (aZ5 H ?_ ?_) (aR (by lia))
     ·rw [cE8];exact a2.cut _ _
     ·exact Nat.le_trans (bL2 _ _ _) a3
   ·exact Si.bad
  ·exact Si.bad
 ·exact Si.bad
end
end Mini.Internal
namespace Mini.Internal
open PySem PySem.W
structure Sit (W:Wd) (fs:List Env) (env:Env) (vis:List (Option Str)) (s:Shared) (io:Io) (m:MH) (r:Lo):Prop where
 H:HR W s.heap io m
 F:FR W s.heap io env vis r
 G:FF W s.heap io fs
section
variable {W:Wd} {fs:List Env} {env:Env} {vis:List (Option Str)} {s s':Shared} {io io':Io} {m m':MH} {r:Lo} {fr:List Addr} {A:Around} {n:Nat}
theorem Sit.step (Z:Sit W fs env vis s io m r) (H:HR W s'.heap io' m') (st:Step [] fr s.heap io m s'.heap io' m'):Sit W fs env vis s' io' m' r:=⟨H,Z.F.step0 Z.H st,Z.G.step0 st⟩
noncomputable def SiE (W:Wd) (A:Around) (fs:List Env) (env:Env) (vis:List (Option Str)) (t:Sem Value) (c:Lo->Mn V):Prop:=
 ∀ (s:Shared) (io:Io) (m:MH) (r:Lo),Sit W fs env vis s io m r->Si W [] A fs (VP W) t s io m (c r m)
noncomputable def SiB (W:Wd) (A:Around) (fs:List Env) (env:Env) (vis:List (Option Str)) (t:Sem Bool) (c:Lo->Mn Bool):Prop:=
 ∀ (s:Shared) (io:Io) (m:MH) (r:Lo),Sit W fs env vis s io m r->Si W [] A fs BP t s io m (c r m)
noncomputable def SiL (W:Wd) (A:Around) (fs:List Env) (env:Env) (vis:List (Option Str)) (t:Sem (List Value)) (c:Lo->Mn (List V)):Prop:=
 ∀ (s:Shared) (io:Io) (m:MH) (r:Lo),Sit W fs env vis s io m r->Si W [] A fs (VsP W) t s io m (c r m)
variable {a b c:Expr} {pos:Pos} {ca cb cc:Lo->Mn V}
theorem cX5 {v:Lt} {k:Const} {j:Nat} (h:(match v,k with | .none,.none=>true | .bool b,.bool d=>b == d | .int i,.int j=>i == j | .str x,.str y=>x == y&&PyData.strOk x | _,_=>false)=true):SiE W A fs env vis (eval (.Constant k j pos) env) (fun y_=>ret v.val):=by
 intro s io m r Z
 cases (v) <;> cases (k) <;> first | (exact absurd h Bool.false_ne_true) | skip
 ·exact fun y_=>wpAny_Constant_none (bO (tk:=s.toks) Z.H .none)
 ·rw [beq_iff_eq.mp h]
  exact fun y_=>wpAny_Constant_bool (bO (tk:=s.toks) Z.H (.bool _))
 ·rw [beq_iff_eq.mp h]
  exact fun y_=>wpAny_Constant_int (bO Z.H (.int _ _))
 ·simp only [Bool.and_eq_true,beq_iff_eq] at h
  rw [<- h.1]
  exact fun y_=>wpAny_Constant_str (bO Z.H (.str _ _ h.2))
theorem e_var {i:Nat} {x:Str} (hv:vis[i]?=some (some x)) (hk:env.kindOf x=some .local \/ env.kindOf x=some .cell \/ env.kindOf x=some .free) (hd:(x == ("__debug__":Str))=false) (hc:(x == ("__classdict__":Str))=false) :
    SiE W A fs env vis (eval (.Name x pos) env) (fun r=>match r[i]? with | some (some v)=>ret v | _=>bad):=by
  intro s io m r Z
  have key:∀ o:Option (Option V),r[i]?=o->Si W [] A fs (VP W) (eval (.Name x pos) env) s io m ((match o with | some (some v)=>ret v | _=>bad:Mn V) m):=by
   intro o hr
   match o,hr with
   | none,_=>exact .bad
   | some none,_=>exact .bad
   | some (some v),hr=>
    intro y_
    refine wpAny_Name ?_ hd
    rcases hk with hk | hk | hk
    · refine hide fun G_ g_=>?_
      rcases Z.F.loc with ⟨mp,hn,hl⟩
      rcases hl i x v hv hr hk with ⟨u,e,k⟩
      refine g_ ?_
      clear g_ G_
      exact wpAny_loadName_local Z.F.kind hk hn e (bO (tk:=s.toks) Z.H k)
    · refine hide fun G_ g_=>?_;rcases Z.F.cel i x v hv hr (.inl hk) with ⟨c,u,e,k1,k2⟩;refine g_ ?_;clear g_ G_
      exact wpAny_loadName_cell Z.F.kind hk e k1 (bO (tk:=s.toks) Z.H k2)
    · refine hide fun G_ g_=>?_;rcases Z.F.cel i x v hv hr (.inr hk) with ⟨c,u,e,k1,k2⟩;refine g_ ?_;clear g_ G_
      exact wpAny_loadName_free Z.F.kind hk e k1 (bO (tk:=s.toks) Z.H k2) hc
  exact key _ rfl
theorem e_bin {op:Operator} (ha:SiE W A fs env vis (eval a env) ca) (hb:SiE W A fs env vis (eval b env) cb) :
  SiE W A fs env vis (eval (.BinOp a op b pos) env) (fun r=>bnd (ca r) fun x=>bnd (cb r) fun y=>bY8 op x y):=by
 intro s io m r Z
 rw [eval_BinOp]
 refine Si.bind (ha s io m r Z) fun u s₁ io₁ m₁ v y_ st H₁ k sm=>?_
 refine Si.bind (Si.holding (hb _ _ _ r (Z.step H₁ st))) fun u' s₂ io₂ m₂ v' y_ st₂ H₂ k₂ sm₂=>?_
 exact .standAt (.operate (cY4 H₂ (VR.step st₂ k) k₂))
theorem e_neg (ha:SiE W A fs env vis (eval a env) ca):SiE W A fs env vis (eval (.UnaryOp .USub a pos) env) (fun r=>bnd (ca r) fun x=>match x with | .int i=>ret (.int (-i)) | _=>bad):=by
 intro s io m r Z
 rw [arm_eval_UnaryOp]
 refine Si.bind (ha s io m r Z) fun u s₁ io₁ m₁ v y_ st H₁ k sm=>.standAt (.holding ?_)
 induction k using VR.elim with
 | int i t=>exact fun y_=>P.neg_int (bO H₁ (.int _ _))
 | none=>exact .bad
 | bool b=>exact .bad
 | str s t=>exact .bad
 | tup=>exact .bad
 | ref=>exact .bad
 | fn k=>exact .bad
 | exc=>exact .bad
 | scr=>exact .bad
theorem e_not (ha:SiE W A fs env vis (eval a env) ca):SiE W A fs env vis (eval (.UnaryOp .Not a pos) env) (fun r=>bnd (ca r) fun x=>bnd (fT x) fun b=>ret (.bool (!b))):=by
 intro s io m r Z
 rw [arm_eval_UnaryOp]
 refine Si.bind (ha s io m r Z) fun u s₁ io₁ m₁ v y_ st H₁ k sm=>.standAt (.holding ?_)
 refine Si.holding (t:=truthy u >>= fun b=>Pure.pure (Value.bool (!b))) ?_
 refine Si.bind (aG6 H₁ k) fun b s₂ io₂ m₂ b' y_ y_ H₂ k₂ y_=>?_
 subst k₂
 exact .pure H₂ (.bool _)
theorem e_ite {ct:Lo->Mn Bool} {test:Expr} (ht:SiB W A fs env vis (isTrue test env (eval test env)) ct) (ha:SiE W A fs env vis (eval a env) ca) (hb:SiE W A fs env vis (eval b env) cb) :
  SiE W A fs env vis (eval (.IfExp test a b pos) env) (fun r=>bnd (ct r) fun t=>if t then ca r else cb r):=by
 intro s io m r Z
 rw [arm_eval_IfExp]
 refine Si.bind (ht s io m r Z) fun u s₁ io₁ m₁ v y_ st H₁ k sm=>?_
 subst k
 cases (v)
 ·exact hb _ _ _ r (Z.step H₁ st)
 ·exact ha _ _ _ r (Z.step H₁ st)
theorem e_idx (R:AR A fs n) (ha:SiE W A fs env vis (eval a env) ca) (hb:SiE W A fs env vis (eval b env) cb) :
  SiE W A fs env vis (eval (.Subscript a b pos) env) (fun r=>bnd (ca r) fun x=>bnd (cb r) fun y=>aX8 x y):=by
 intro s io m r Z
 rw [arm_eval_Subscript]
 refine Si.bind (ha s io m r Z) fun u s₁ io₁ m₁ v y_ st H₁ k sm=>?_
 refine Si.bind (Si.holding (hb _ _ _ r (Z.step H₁ st))) fun u' s₂ io₂ m₂ v' y_ st₂ H₂ k₂ sm₂=>?_
 exact .standAt (cW4 H₂ R (VR.step st₂ k) k₂)
theorem bY {α β γ:Type} (x:Mn α) (f:α->Mn β) (g:β->Mn γ):bnd (bnd x f) g=bnd x fun a=>bnd (f a) g:=by
 funext m
 show ((x m).bind f).bind g=(x m).bind fun a m=>(f a m).bind g
 cases x m <;> rfl
theorem l_nil:SiL W A fs env vis (spliced (backTo pos (starEach [] env))) (fun y_=>ret []):=fun y_ y_ y_ y_ Z=>.pure Z.H .nil
theorem dF1 {rest:List Expr} {cl:Lo->Mn (List V)} (ha:SiE W A fs env vis (eval a env) ca) (hl:SiL W A fs env vis (spliced (backTo pos (starEach rest env))) cl) (he:starEach (a::rest) env=(false,eval a env)::starEach rest env) :
  SiL W A fs env vis (spliced (backTo pos (starEach (a::rest) env))) (fun r=>bnd (ca r) fun x=>bnd (cl r) fun xs=>ret (x::xs)):=by
 intro s io m r Z
 rw [he]
 show Si W [] A fs (VsP W) (eval a env >>= fun v=>(PySem.holding [v] (spliced (backTo pos (starEach rest env)))) >>= fun vs=>Pure.pure (v::vs)) s io m _
 refine Si.bind (ha s io m r Z) fun u s₁ io₁ m₁ v y_ st H₁ k sm=>?_
 refine Si.bind (Si.holding (hl _ _ _ r (Z.step H₁ st))) fun u' s₂ io₂ m₂ v' y_ st₂ H₂ k₂ sm₂=>?_
 exact .pure H₂ (.cons (VR.step st₂ k) k₂)
theorem e_tup {es:List Expr} {j:Nat} {cl:Lo->Mn (List V)} (hl:SiL W A fs env vis (spliced (backTo pos (starEach es env))) cl) (hn:∀ r m vs m',cl r m=.ok vs m'->vs.length <= lid):SiE W A fs env vis (eval (.Tuple es j pos) env) (fun r=>bnd (cl r) fun vs=>ret (.tup vs)):=by
 intro s io m r Z
 rw [arm_eval_Tuple]
 refine .standAt (Si.bind (hl s io m r Z) fun u s₁ io₁ m₁ v e st H₁ k sm=>?_)
 exact fun y_=>wpAny_newTuple (dE3 (tk:=s₁.toks) H₁ k) (by have:=hn _ _ _ _ e;rw [<- k.length] at this;exact aR this)
theorem dH5 {es:List Expr} {cl:Lo->Mn (List V)} (hl:SiL W A fs env vis (spliced (backTo pos (starEach es env))) cl) (hn:∀ r m vs m',cl r m=.ok vs m'->vs.length <= lid):SiE W A fs env vis (eval (.List es pos) env) (fun r=>bnd (cl r) fun vs=>alloc (.list vs)):=by
 intro s io m r Z
 rw [arm_eval_List]
 refine .standAt (Si.bind (hl s io m r Z) fun u s₁ io₁ m₁ v e st H₁ k sm=>?_)
 exact fun y_=>wpAny_newList (aZ5 (tk:=s₁.toks) H₁ k (hn _ _ _ _ e)) (by have:=hn _ _ _ _ e;rw [<- k.length] at this;exact aR this)
theorem b_one {op:BoolOp} (ha:SiE W A fs env vis (eval a env) ca):SiE W A fs env vis (boolOp pos op (evalEach [a] env)) ca:=ha
theorem dJ1 {op:BoolOp} {c:Bool} {rest:List Expr} {cb:Lo->Mn V} (hop:(op=.And /\ c=true) \/ (op=.Or /\ c=false)) (ha:SiE W A fs env vis (eval a env) ca) (hb:SiE W A fs env vis (boolOp pos op (evalEach (b::rest) env)) cb) :
  SiE W A fs env vis (boolOp pos op (evalEach (a::b::rest) env)) (fun r=>bnd (ca r) fun x=>bnd (fT x) fun t=>if t == c then cb r else ret x):=by
 intro s io m r Z
 rcases hop with ⟨rfl,rfl⟩ | ⟨rfl,rfl⟩ <;>
 refine Si.bind (ha s io m r Z) fun u s₁ io₁ m₁ v y_ st H₁ k sm=>.standAt ?_ <;>
 refine Si.bind (Si.holding (aG6 H₁ k)) fun t s₂ io₂ m₂ t' y_ st₂ H₂ k₂ sm₂=>?_ <;>
 subst k₂ <;> cases (t')
 ·exact .pure H₂ (VR.step st₂ k)
 ·exact hb _ _ _ r ((Z.step H₁ st).step H₂ st₂)
 ·exact hb _ _ _ r ((Z.step H₁ st).step H₂ st₂)
 ·exact .pure H₂ (VR.step st₂ k)
noncomputable def SiC (W:Wd) (A:Around) (fs:List Env) (env:Env) (vis:List (Option Str)) (t:Value->Sem Value) (c:V->Lo->Mn V):Prop:=
 ∀ (s:Shared) (io:Io) (m:MH) (r:Lo) (x:V) (u:Value),Sit W fs env vis s io m r->VR W s.heap io x u->Si W [] A fs (VP W) (t u) s io m (c x r m)
noncomputable def dJ6 (W:Wd) (A:Around) (fs:List Env) (env:Env) (vis:List (Option Str)) (t:Value->Sem Bool) (c:V->Lo->Mn V):Prop:=
 ∀ (s:Shared) (io:Io) (m:MH) (r:Lo) (x:V) (u:Value),Sit W fs env vis s io m r->VR W s.heap io x u->Si W [] A fs BP (t u) s io m (bnd (c x r) fT m)
theorem aM9 {op:CmpOp} (hb:behindInMarks op b=false):markedEach [op] [b] (evalEach [b] env)=[eval b env]:=by
 show [markedBehindIn op b (eval b env)]=_
 rw [markedBehindIn_of_false hb]
theorem c_one (ok:WOk W) (R:AR A fs n) {op:CmpOp} (hm:behindInMarks op b=false) (hb:SiE W A fs env vis (eval b env) cb) :
  SiC W A fs env vis (fun u=>compareChain pos u [op] (markedEach [op] [b] (evalEach [b] env))) (fun x r=>bnd (cb r) fun y=>bnd (aF9 op x y) fun c=>ret (.bool c)):=by
 intro s io m r x u Z k
 show Si W [] A fs (VP W) (compareChain pos u [op] (markedEach [op] [b] (evalEach [b] env))) s io m _
 rw [aM9 hm]
 refine Si.bind (Si.holding (hb _ _ _ r Z)) fun u' s₂ io₂ m₂ v' y_ st₂ H₂ k₂ sm₂=>.standAt (.operate ?_)
 have:=aR0 (own:=[]) ok H₂ R (op:=op) (VR.step st₂ k) k₂
 intro hne
 refine wpAny_mono (this (Res.bind_ne hne)) (fun u s' p=>?_) fun e s' p=>p.bind .refl (.refl _)
 refine hide fun G_ g_=>?_;rcases p with ⟨v,m',io',e,a1,a2,a3,a4⟩;refine g_ ?_;clear g_ G_
 subst a3
 exact ⟨.bool v,m',io',by show (aF9 op x v' m₂).bind _=_;rw [e];rfl,a1,a2,.bool v,a4⟩
theorem dI6 (ok:WOk W) (R:AR A fs n) {op:CmpOp} {op':CmpOp} {ops:List CmpOp} {b':Expr} {rest:List Expr} {cc:V->Lo->Mn V} (hb:SiE W A fs env vis (eval b env) cb)
  (hc:SiC W A fs env vis (fun u=>compareChain pos u (op'::ops) (markedEach (op'::ops) (b'::rest) (evalEach (b'::rest) env))) cc) :
  SiC W A fs env vis (fun u=>compareChain pos u (op::op'::ops) (markedEach (op::op'::ops) (b::b'::rest) (evalEach (b::b'::rest) env))) (fun x r=>bnd (cb r) fun y=>bnd (aF9 op x y) fun c=>if c then cc y r else ret (.bool false)):=by
 intro s io m r x u Z k
 show Si W [] A fs (VP W) (PySem.holding [u] (eval b env) >>= fun rv=>PySem.standAt pos >>= fun y_=>PySem.holding [u,rv] (compareOp op u rv) >>= fun c=>release [u,rv] [c] >>= fun y_=>PySem.holding [c,rv] (truthy c) >>= fun t=>if t then compareChain pos rv (op'::ops) (markedEach (op'::ops) (b'::rest) (evalEach (b'::rest) env)) else Pure.pure c) s io m _
 refine Si.bind (Si.holding (hb _ _ _ r Z)) fun u' s₂ io₂ m₂ v' y_ st₂ H₂ k₂ sm₂=>.standAt ?_
 refine Si.bind (Si.holding (aR0 ok H₂ R (VR.step st₂ k) k₂)) fun u₃ s₃ io₃ m₃ v₃ y_ st₃ H₃ k₃ sm₃=>?_
 subst k₃
 have:Si W [] A fs (VP W) (PySem.holding [.bool v₃,u'] (truthy (.bool v₃)) >>= fun t=>if t then compareChain pos u' (op'::ops) (markedEach (op'::ops) (b'::rest) (evalEach (b'::rest) env)) else Pure.pure (.bool v₃)) s₃ io₃ m₃ ((if v₃ then cc v' r else ret (.bool false)) m₃):=by
  intro hne
  refine wpAny_bind (wpAny_holding (wpAny_truthy_bool ?_))
  cases (v₃)
  ·exact Si.pure (own:=[]) (A:=A) (fs:=fs) H₃ (.bool false) hne
  ·exact hc _ _ _ r v' u' ((Z.step H₂ st₂).step H₃ st₃) (VR.step st₃ k₂) hne
 exact fun hne=>wpAny_bind (wpAny_release (this hne))
theorem t_one (ok:WOk W) (R:AR A fs n) {op:CmpOp} (hm:behindInMarks op b=false) (hb:SiE W A fs env vis (eval b env) cb) :
  dJ6 W A fs env vis (fun u=>testChain pos u [op] (markedEach [op] [b] (evalEach [b] env))) (fun x r=>bnd (cb r) fun y=>bnd (aF9 op x y) fun c=>ret (.bool c)):=by
 intro s io m r x u Z k
 show Si W [] A fs BP (testChain pos u [op] (markedEach [op] [b] (evalEach [b] env))) s io m _
 rw [aM9 hm,bY]
 refine Si.bind (Si.holding (hb _ _ _ r Z)) fun u' s₂ io₂ m₂ v' y_ st₂ H₂ k₂ sm₂=>.standAt ?_
 rw [bY]
 refine Si.bind (Si.operate (aR0 ok H₂ R (VR.step st₂ k) k₂)) fun u₃ s₃ io₃ m₃ v₃ y_ st₃ H₃ k₃ sm₃=>.holding ?_
 subst k₃
 exact fun y_=>wpAny_truthy_bool ⟨v₃,m₃,io₃,rfl,.refl,H₃,rfl,.refl _⟩
theorem dB9 (ok:WOk W) (R:AR A fs n) {op:CmpOp} {op':CmpOp} {ops:List CmpOp} {b':Expr} {rest:List Expr} {cc:V->Lo->Mn V} (hb:SiE W A fs env vis (eval b env) cb)
  (hc:dJ6 W A fs env vis (fun u=>testChain pos u (op'::ops) (markedEach (op'::ops) (b'::rest) (evalEach (b'::rest) env))) cc) :
  dJ6 W A fs env vis (fun u=>testChain pos u (op::op'::ops) (markedEach (op::op'::ops) (b::b'::rest) (evalEach (b::b'::rest) env))) (fun x r=>bnd (cb r) fun y=>bnd (aF9 op x y) fun c=>if c then cc y r else ret (.bool false)):=by
 intro s io m r x u Z k
 show Si W [] A fs BP (PySem.holding [u] (eval b env) >>= fun rv=>PySem.standAt pos >>= fun y_=>PySem.holding [u,rv] (compareOp op u rv) >>= fun c=>release [u,rv] [c] >>= fun y_=>PySem.holding [c,rv] (truthy c) >>= fun t=>if t then testChain pos rv (op'::ops) (markedEach (op'::ops) (b'::rest) (evalEach (b'::rest) env)) else Pure.pure false) s io m _
 rw [bY]
 refine Si.bind (Si.holding (hb _ _ _ r Z)) fun u' s₂ io₂ m₂ v' y_ st₂ H₂ k₂ sm₂=>.standAt ?_
 rw [bY]
 refine Si.bind (Si.holding (aR0 ok H₂ R (VR.step st₂ k) k₂)) fun u₃ s₃ io₃ m₃ v₃ y_ st₃ H₃ k₃ sm₃=>?_
 subst k₃
 have:Si W [] A fs BP (PySem.holding [.bool v₃,u'] (truthy (.bool v₃)) >>= fun t=>if t then testChain pos u' (op'::ops) (markedEach (op'::ops) (b'::rest) (evalEach (b'::rest) env)) else Pure.pure false) s₃ io₃ m₃ (bnd (if v₃ then cc v' r else ret (.bool false)) fT m₃):=by
  intro hne
  refine wpAny_bind (wpAny_holding (wpAny_truthy_bool ?_))
  cases (v₃)
  ·exact Si.pure (own:=[]) (A:=A) (fs:=fs) (v:=false) H₃ rfl hne
  ·exact hc _ _ _ r v' u' ((Z.step H₂ st₂).step H₃ st₃) (VR.step st₃ k₂) hne
 exact fun hne=>wpAny_bind (wpAny_release (this hne))
theorem e_cmp {ops:List CmpOp} {bs:List Expr} {cc:V->Lo->Mn V} (ha:SiE W A fs env vis (eval a env) ca) (hc:SiC W A fs env vis (fun u=>compareChain pos u ops (markedEach ops bs (evalEach bs env))) cc) :
  SiE W A fs env vis (eval (.Compare a ops bs pos) env) (fun r=>bnd (ca r) fun x=>cc x r):=by
 intro s io m r Z
 rw [arm_eval_Compare]
 exact Si.bind (ha s io m r Z) fun u s₁ io₁ m₁ v y_ st H₁ k sm=>hc _ _ _ r v u (Z.step H₁ st) k
theorem t_cmp {ops:List CmpOp} {bs:List Expr} {cc:V->Lo->Mn V} {whole:Sem Value} (ha:SiE W A fs env vis (eval a env) ca) (hc:dJ6 W A fs env vis (fun u=>testChain pos u ops (markedEach ops bs (evalEach bs env))) cc) :
  SiB W A fs env vis (isTrue (.Compare a ops bs pos) env whole) (fun r=>bnd (bnd (ca r) fun x=>cc x r) fT):=by
 intro s io m r Z
 show Si W [] A fs BP _ s io m (bnd (bnd (ca r) fun x=>cc x r) fT m)
 rw [bY]
 show Si W [] A fs BP (eval a env >>= fun u=>testChain pos u ops (markedEach ops bs (evalEach bs env))) s io m _
 exact Si.bind (ha s io m r Z) fun u s₁ io₁ m₁ v y_ st H₁ k sm=>hc _ _ _ r v u (Z.step H₁ st) k
theorem t_val (ha:SiE W A fs env vis (eval a env) ca) (hs:isTrue a env (eval a env)=(do let v <- eval a env;PySem.standAt a.pos;PySem.holding [v] (truthy v))):SiB W A fs env vis (isTrue a env (eval a env)) (fun r=>bnd (ca r) fT):=by
 intro s io m r Z
 rw [hs]
 exact Si.bind (ha s io m r Z) fun u s₁ io₁ m₁ v y_ st H₁ k sm=>.standAt (.holding (aG6 H₁ k))
theorem t_not {ct:Lo->Mn Bool} {whole:Sem Value} (ha:SiB W A fs env vis (isTrue a env (eval a env)) ct):SiB W A fs env vis (isTrue (.UnaryOp .Not a pos) env whole) (fun r=>bnd (ct r) fun b=>ret (!b)):=by
 intro s io m r Z
 show Si W [] A fs BP (isTrue a env (eval a env) >>= fun b=>Pure.pure (!b)) s io m _
 refine Si.bind (ha s io m r Z) fun u s₁ io₁ m₁ v y_ st H₁ k sm=>?_
 subst k
 exact .pure H₁ rfl
theorem t_nil {op:BoolOp} {c:Bool} (hop:(op=.And /\ c=true) \/ (op=.Or /\ c=false)):SiB W A fs env vis (allTrue op [] env) (fun y_=>ret c):=by
 intro s io m r Z
 rcases hop with ⟨rfl,rfl⟩ | ⟨rfl,rfl⟩
 ·exact .pure (u:=true) Z.H rfl
 ·exact .pure (u:=false) Z.H rfl
theorem dC0 {op:BoolOp} {c:Bool} {rest:List Expr} {ct cts:Lo->Mn Bool} (hop:(op=.And /\ c=true) \/ (op=.Or /\ c=false)) (ha:SiB W A fs env vis (isTrue a env (eval a env)) ct) (hb:SiB W A fs env vis (allTrue op rest env) cts) :
  SiB W A fs env vis (allTrue op (a::rest) env) (fun r=>bnd (ct r) fun b=>if b == c then cts r else ret b):=by
 intro s io m r Z
 rcases hop with ⟨rfl,rfl⟩ | ⟨rfl,rfl⟩ <;>
 refine Si.bind (ha s io m r Z) fun t s₁ io₁ m₁ v y_ st H₁ k sm=>?_ <;>
 subst k <;> cases (v)
 ·exact .pure H₁ rfl
 ·exact hb _ _ _ r (Z.step H₁ st)
 ·exact hb _ _ _ r (Z.step H₁ st)
 ·exact .pure H₁ rfl
theorem t_all {op:BoolOp} {es:List Expr} {whole:Sem Value} {ct:Lo->Mn Bool} (h:SiB W A fs env vis (allTrue op es env) ct):SiB W A fs env vis (isTrue (.BoolOp op es pos) env whole) ct:=h
noncomputable def SiO (W:Wd) (A:Around) (fs:List Env) (env:Env) (vis:List (Option Str)) (o:Option Expr) (c:Lo->Mn V):Prop:=SiE W A fs env vis (valueOrNone (evalOpt o env)) c
theorem dE0:SiO W A fs env vis none (fun y_=>ret .none):=fun y_ y_ y_ y_ Z=>.pure Z.H .none
theorem dD9 (ha:SiE W A fs env vis (eval a env) ca):SiO W A fs env vis (some a) ca:=ha
noncomputable def SlP (W:Wd) (h:Heap) (io:Io) (p:V×V×V) (u:Value):Prop:=∃ sl ul uh us,u=.ref sl /\ h.IsSliceOf sl ul uh us /\ VR W h io p.1 ul /\ VR W h io p.2.1 uh /\ VR W h io p.2.2 us
theorem cJ0 {lo hi st:Option Expr} {cl ch cs:Lo->Mn V} (hl:SiO W A fs env vis lo cl) (hh:SiO W A fs env vis hi ch) (hs:SiO W A fs env vis st cs) (Z:Sit W fs env vis s io m r) :
  Si W [] A fs (SlP W) (eval (.Slice lo hi st pos) env) s io m (bnd (cl r) (fun l=>bnd (ch r) fun h=>bnd (cs r) fun t=>ret (l,h,t)) m):=by
 rw [arm_eval_Slice]
 refine Si.bind (hl _ _ _ r Z) fun ul s₁ io₁ m₁ vl y_ st₁ H₁ k₁ y_=>?_
 have Z₁:=Z.step H₁ st₁
 refine Si.bind (Si.holding (hh _ _ _ r Z₁)) fun uh s₂ io₂ m₂ vh y_ st₂ H₂ k₂ y_=>?_
 have Z₂:=Z₁.step H₂ st₂
 refine Si.bind (Si.holding (hs _ _ _ r Z₂)) fun us s₃ io₃ m₃ vs y_ st₃ H₃ k₃ y_=>?_
 have st4:Step [] (frs fs) s₃.heap io₃ m₃ (s₃.heap.push { cls:=.type "slice",data:=.fields #[ul,uh,us] }) io₃ m₃:=.of_keeps H₃ (aQ _)
 exact fun y_=>wpAny_mono (Q:=fun v s'=>v=.ref s₃.heap.objs.size /\ s'={ s₃ with heap:=s₃.heap.push { cls:=.type "slice",data:=.fields #[ul,uh,us] } }) (fun y_ y_ y_=>⟨rfl,rfl⟩) (fun v s' q=>by
  rcases q with ⟨rfl,rfl⟩
  exact ⟨_,m₃,io₃,rfl,st4,H₃.of_keeps (aQ _),⟨_,ul,uh,us,rfl,.new _ _ _ _,((VR.step st₂ k₁).step st₃).step st4,(VR.step st₃ k₂).step st4,VR.step st4 k₃⟩,.refl _⟩) fun y_ y_ q=>q
theorem cX2 {lo hi st:Option Expr} {cl ch cs:Lo->Mn V} {pos':Pos} (ha:SiE W A fs env vis (eval a env) ca) (hl:SiO W A fs env vis lo cl) (hh:SiO W A fs env vis hi ch) (hs:SiO W A fs env vis st cs) :
  SiE W A fs env vis (eval (.Subscript a (.Slice lo hi st pos') pos) env) (fun r=>bnd (ca r) fun x=>bnd (cl r) fun l=>bnd (ch r) fun h=>bnd (cs r) fun t=>aB4 x l h t):=by
 intro s io m r Z
 rw [arm_eval_Subscript]
 refine Si.bind (ha s io m r Z) fun u s₁ io₁ m₁ v y_ st₁ H₁ k₁ y_=>?_
 have e:(bnd (cl r) fun l=>bnd (ch r) fun h=>bnd (cs r) fun t=>aB4 v l h t)=bnd (bnd (cl r) fun l=>bnd (ch r) fun h=>bnd (cs r) fun t=>ret (l,h,t)) fun p=>aB4 v p.1 p.2.1 p.2.2:=by
  simp only [bY];rfl
 rw [e]
 refine Si.bind (Si.holding (cJ0 hl hh hs (Z.step H₁ st₁))) fun u' s₂ io₂ m₂ p y_ st₂ H₂ k₂ sm₂=>.standAt ?_
 refine hide fun G_ g_=>?_;rcases k₂ with ⟨sl,ul,uh,us,rfl,q1,q2,q3,q4⟩;refine g_ ?_;clear g_ G_
 exact bR2 H₂ (VR.step st₂ k₁) q2 q3 q4 q1
end
end Mini.Internal
namespace Mini.Internal
open PySem PySem.W
structure Gl (W:Wd) (K:Frag):Prop where
 ok:WOk W
 X:K.In W.base
 top:∃ mg mb,W.base.Ns mainGlobals mg /\ W.base.Ns builtinsNs mb /\ (∀ x:Str,x≠"__name__"->mb x=bootBuiltins x) /\ ∃ pp loose,TopRead pp loose mg mb W.base
section
variable {W:Wd} {K:Frag} {fs:List Env} {env:Env} {vis:List (Option Str)} {s s':Shared} {io io':Io} {m m':MH} {r:Lo} {fr:List Addr} {A:Around} {n:Nat} {pos p:Pos}
theorem HR.get (H:HR W s.heap io m) (gl:Gl W K) {a:Addr} {o:Obj} (h:K.lookup a=some o):s.heap.get? a=some o:=H.keep _ _ (gl.X _ _ h)
theorem aM7 {x:Str} {v:Value} {Q:Value->Shared->Prop} {E:Value->Shared->Prop} {M:Model} (gl:Gl W K) (Z:Sit W fs env vis s io m r) (e:nsIn K mainGlobals x=some (some v)) (hx:env.kindOf x=some .globalImplicit) (hd:(x == ("__debug__":Str))=false) (h:Q v s):wpAny M A (eval (.Name x p) env) Q E s:=by
 refine hide fun G_ g_=>?_;rcases gl.top with ⟨mg,mb,g,b,y_⟩;refine g_ ?_;clear g_ G_
 refine Calls.Name_function_global Z.F.kind hx (Calls.loadGlobal_global (mg:=mg) ?_ (mg_of gl.X g e) h) hd
 rw [Z.F.glob];exact g.keeps Z.H.keep
theorem aM8 {x:Str} {v:Value} {Q:Value->Shared->Prop} {E:Value->Shared->Prop} {M:Model} (gl:Gl W K) (Z:Sit W fs env vis s io m r) (e:nsIn K mainGlobals x=some none) (hv:bootBuiltins x=some v) (hn:(x == ("__name__":Str))=false) (hx:env.kindOf x=some .globalImplicit) (hd:(x == ("__debug__":Str))=false) (h:Q v s):wpAny M A (eval (.Name x p) env) Q E s:=by
 refine hide fun G_ g_=>?_;rcases gl.top with ⟨mg,mb,g,b,hb,y_⟩;refine g_ ?_;clear g_ G_
 have hn':x≠"__name__":=fun q=>by rw [q] at hn;simp at hn
 refine Calls.Name_function_global Z.F.kind hx (Calls.loadGlobal_builtin (mg:=mg) (mb:=mb) ?_ (mg_none_of gl.X g e) ?_ (by rw [hb x hn',hv]) h) hd
 ·rw [Z.F.glob];exact g.keeps Z.H.keep
 ·rw [Z.F.blt];exact b.keeps Z.H.keep
noncomputable def cV3 (e:Expr):Bool:=e.ctorIdx == 22
noncomputable def bE:List Expr->Bool
 | []=>true
 | e::r=>!cV3 e&&bE r
theorem fG {e:Expr} {rest:List Expr} (h:bE (e::rest)=true):starEach (e::rest) env=(false,eval e env)::starEach rest env:=by
 cases (e) <;> first | rfl | (exact absurd h Bool.false_ne_true)
theorem aA4 {e:Expr} {rest:List Expr} (h:bE (e::rest)=true):bE rest=true:=by
 cases (e) <;> first | exact h | (exact absurd h Bool.false_ne_true)
theorem eE {es:List Expr} (h:bE es=true):(backTo pos (starEach es env)).any (·.1)=false:=by
 induction es with
 | nil=>rfl
 | cons e rest ih=>rw [fG h];exact ih (aA4 h)
theorem eR {M:Model} {E:Value->Shared->Prop} {f:Value} {es:List Expr} {Q:Args->Shared->Prop} (hs:bE es=true) (h:wpAny M A (spliced (backTo pos (starEach es env))) (fun vs s'=>Q ⟨vs,[]⟩ s') E s) :
  wpAny M A (evalArgs f true (backTo pos (starEach es env)) []) Q E s:=by
 cases es with
 | nil=>
  unfold evalArgs
  show wpAny M A (spliced [] >>= _) Q E s
  refine wpAny_bind (wpAny_mono (show wpAny M A (spliced []) (fun vs s'=>Q ⟨vs,[]⟩ s') E s from h) (fun vs s' q=>?_) fun y_ y_ x=>x)
  refine wpAny_bind (wpAny_pure ?_)
  refine wpAny_holding ?_
  exact wpAny_bind (wpAny_pure (wpAny_bind (wpAny_pure (wpAny_pure q))))
 | cons e rest=>
  rw [fG hs] at h ⊢
  exact Calls.evalArgs_plain h
variable {es:List Expr} {cl:Lo->Mn (List V)} {Fk:List V->Mn V}
noncomputable def SiF (W:Wd) (A:Around) (fs:List Env) (f:Value) (Fk:List V->Mn V):Prop:=
 ∀ (s:Shared) (io:Io) (m:MH) (vs:List V) (us:List Value),HR W s.heap io m->FF W s.heap io fs->VRs W s.heap io vs us->Si W [] A fs (VP W) (call f us) s io m (Fk vs m)
noncomputable def SiK (W:Wd) (A:Around) (fs:List Env) (f:Value) (Fk:List V->Mn V):Prop:=
 ∀ (s:Shared) (io:Io) (m:MH) (vs:List V) (us:List Value),HR W s.heap io m->FF W s.heap io fs->VRs W s.heap io vs us->Fk vs m≠.bad ->
  codeAny (model W.prog W.w) A (.call f ⟨us,[]⟩) (fun r s'=>match r with | .ok (.ret v)=>NP W [] (frs fs) s io m (VP W) (Fk vs m) v s' | .ok _=>False | .error e=>XP W [] fs s io m (Fk vs m) e s') s
theorem SiK.f {f:Value} {Fk:List V->Mn V} (x:SiK W A fs f Fk):SiF W A fs f Fk:=fun s io m vs us H G hu hne=>wpAny_call (x s io m vs us H G hu hne)
noncomputable def born (A:Around):Around:={ A with depth:=A.depth+1,units:=A.units+1 }
theorem cX8 {x:Str} {id:String} (gl:Gl W K) (e:nsIn K mainGlobals x=some none) (hv:bootBuiltins x=some (.builtin id)) (hn:(x == ("__name__":Str))=false) (hx:env.kindOf x=some .globalImplicit) (hd:(x == ("__debug__":Str))=false) (hs:bE es=true)
  (hl:SiL W A fs env vis (spliced (backTo pos (starEach es env))) cl) (hf:SiF W A fs (.builtin id) Fk):SiE W A fs env vis (eval (.Call (.Name x p) es [] pos) env) (fun r=>bnd (cl r) fun vs=>Fk vs):=by
 intro s io m r Z hne
 refine wpAny_Call_NameR (aM8 gl Z e hv hn hx hd (Calls.callWith_builtin (eE hs) (eR hs ?_)))
 refine wpAny_mono (hl s io m r Z (Res.bind_ne hne)) (fun us s' q=>?_) fun y_ y_ q=>q.bind .refl (.refl _)
 refine hide fun G_ g_=>?_;rcases q with ⟨vs,m',io',e',st,H,k,sm⟩;refine g_ ?_;clear g_ G_
 have hne':Fk vs m'≠.bad:=fun q=>hne (by show (cl r m).bind _=_;rw [e'];exact q)
 have ee:bnd (cl r) (fun vs=>Fk vs) m=Fk vs m':=by show (cl r m).bind _=_;rw [e'];rfl
 show wpAny (model W.prog W.w) A (call (.builtin id) us) (NP W [] (frs fs) s io m (VP W) (bnd (cl r) (fun vs=>Fk vs) m)) (XP W [] fs s io m (bnd (cl r) (fun vs=>Fk vs) m)) s'
 rw [ee]
 exact wpAny_mono (hf _ _ _ _ _ H (Z.G.step0 st) k hne') (fun y_ y_ z=>z.mono st sm) fun y_ y_ z=>z.mono st sm
theorem cX6 {x:Str} {id:String} (gl:Gl W K) (e:nsIn K mainGlobals x=some none) (hv:bootBuiltins x=some (.type id)) (hn:(x == ("__name__":Str))=false) (hx:env.kindOf x=some .globalImplicit) (hd:(x == ("__debug__":Str))=false) (hs:bE es=true)
  (hl:SiL W A fs env vis (spliced (backTo pos (starEach es env))) cl) (hf:SiF W A fs (.type id) Fk):SiE W A fs env vis (eval (.Call (.Name x p) es [] pos) env) (fun r=>bnd (cl r) fun vs=>Fk vs):=by
 intro s io m r Z hne
 refine wpAny_Call_NameR (aM8 gl Z e hv hn hx hd (callWith_type (eE hs) (eR hs ?_)))
 refine wpAny_mono (hl s io m r Z (Res.bind_ne hne)) (fun us s' q=>?_) fun y_ y_ q=>q.bind .refl (.refl _)
 refine hide fun G_ g_=>?_;rcases q with ⟨vs,m',io',e',st,H,k,sm⟩;refine g_ ?_;clear g_ G_
 have hne':Fk vs m'≠.bad:=fun q=>hne (by show (cl r m).bind _=_;rw [e'];exact q)
 have ee:bnd (cl r) (fun vs=>Fk vs) m=Fk vs m':=by show (cl r m).bind _=_;rw [e'];rfl
 show wpAny (model W.prog W.w) A (call (.type id) us) (NP W [] (frs fs) s io m (VP W) (bnd (cl r) (fun vs=>Fk vs) m)) (XP W [] fs s io m (bnd (cl r) (fun vs=>Fk vs) m)) s'
 rw [ee]
 exact wpAny_mono (hf _ _ _ _ _ H (Z.G.step0 st) k hne') (fun y_ y_ z=>z.mono st sm) fun y_ y_ z=>z.mono st sm
theorem cX7 {x:Str} {a:Addr} {o:Obj} {fd:FuncData} (gl:Gl W K) (e:nsIn K mainGlobals x=some (some (.ref a))) (ho:K.lookup a=some o) (hdata:o.data=.func fd) (hx:env.kindOf x=some .globalImplicit) (hd:(x == ("__debug__":Str))=false) (hs:bE es=true)
  (hl:SiL W A fs env vis (spliced (backTo pos (starEach es env))) cl) (hf:SiF W A fs (.ref a) Fk):SiE W A fs env vis (eval (.Call (.Name x p) es [] pos) env) (fun r=>bnd (cl r) fun vs=>Fk vs):=by
 intro s io m r Z hne
 refine wpAny_Call_NameR (aM7 gl Z e hx hd (Calls.callWith_function (o:=o) (fd:=fd) (eR hs ?_)))
 refine wpAny_mono (hl s io m r Z (Res.bind_ne hne)) (fun us s' q=>?_) fun y_ y_ q=>q.bind .refl (.refl _)
 refine hide fun G_ g_=>?_;rcases q with ⟨vs,m',io',e',st,H,k,sm⟩;refine g_ ?_;clear g_ G_
 have hne':Fk vs m'≠.bad:=fun q=>hne (by show (cl r m).bind _=_;rw [e'];exact q)
 have ee:bnd (cl r) (fun vs=>Fk vs) m=Fk vs m':=by show (cl r m).bind _=_;rw [e'];rfl
 refine ⟨⟨H.get gl ho,hdata⟩,?_⟩
 show wpAny (model W.prog W.w) A (call (.ref a) us) (NP W [] (frs fs) s io m (VP W) (bnd (cl r) (fun vs=>Fk vs) m)) (XP W [] fs s io m (bnd (cl r) (fun vs=>Fk vs) m)) s'
 rw [ee]
 exact wpAny_mono (hf _ _ _ _ _ H (Z.G.step0 st) k hne') (fun y_ y_ z=>z.mono st sm) fun y_ y_ z=>z.mono st sm
end
end Mini.Internal
namespace Mini.Internal
open PySem PySem.W
noncomputable def bN (env:Env):List Addr:=env.locals::env.cells.filterMap fun q=>env.cells.lookup q.1
structure Stt (W:Wd) (fs:List Env) (env:Env) (vis:List (Option Str)) (s:Shared) (io:Io) (m:MH) (r:Lo):Prop where
 H:HR W s.heap io m
 F:FR W s.heap io env vis r
 G:FF W s.heap io fs
 fr:env.frame=some env.locals
 dis:∀ L∈frs fs,L∉bN env
inductive FlR (W:Wd) (h:Heap) (io:Io):Fl->Flow->Prop
 | next:FlR W h io .next .next
 | cont:FlR W h io .cont .cont
 | ret {v:V} {u:Value}:VR W h io v u->FlR W h io (.ret v) (.ret u)
noncomputable abbrev SP (W:Wd) (env:Env) (vis:List (Option Str)):Heap->Io->Fl×Lo->Flow->Prop:=fun h io p f=>FlR W h io p.1 f /\ FR W h io env vis p.2
noncomputable abbrev RP (W:Wd) (env:Env) (vis:List (Option Str)):Heap->Io->Lo->Unit->Prop:=fun h io r y_=>FR W h io env vis r
section
variable {W:Wd} {fs:List Env} {env:Env} {vis:List (Option Str)} {s s':Shared} {io io':Io} {m m':MH} {r r':Lo} {fr own own':List Addr} {A:Around} {n:Nat} {pos p:Pos}
theorem Step.wk {h h':Heap} (x:Step own fr h io m h' io' m') (k:∀ b∈own,b∈own'):Step own' fr h io m h' io' m':=
 ⟨x.alive,x.solid,fun b o e f1 f2=>x.keep b o e f1 fun q=>f2 (k b q),fun b o e f1 f2=>x.slots b o e f1 fun q=>f2 (k b q),x.grow,x.dicts⟩
theorem Stt.sit (Z:Stt W fs env vis s io m r):Sit W (env::fs) env vis s io m r:=by
 refine ⟨Z.H,Z.F,fun e he=>?_⟩
 rcases List.mem_cons.mp he with rfl | he
 ·refine hide fun G_ g_=>?_;rcases Z.F.loc with ⟨mp,⟨o,es,ep,ho,hd,y_⟩,y_⟩;refine g_ ?_;clear g_ G_
  exact ⟨by rw [Z.F.kind];simp,e.locals,o,es,ep,Z.fr,Z.F.fresh,Z.F.nofoot,ho,hd⟩
 ·exact Z.G e he
theorem Stt.step (Z:Stt W fs env vis s io m r) (H:HR W s'.heap io' m') (st:Step [] fr s.heap io m s'.heap io' m'):Stt W fs env vis s' io' m' r:=⟨H,Z.F.step0 Z.H st,Z.G.step0 st,Z.fr,Z.dis⟩
theorem Stt.stepO (Z:Stt W fs env vis s io m r) (H:HR W s'.heap io' m') (st:Step (bN env) fr s.heap io m s'.heap io' m') (F:FR W s'.heap io' env vis r'):Stt W fs env vis s' io' m' r':=⟨H,F,Z.G.step st Z.dis,Z.fr,Z.dis⟩
theorem cQ {o:Obj} {es:Array DictEntry} {k:Nat} (h:o.data=.dict es k):¬ cX o:=by
 rintro (⟨_,_,_,e⟩ | ⟨_,_,_,e⟩) <;> rw [h] at e <;> injection e
theorem aK3 {o:Obj} {v:Option Value} (h:o.data=.cell v):¬ cX o:=by
 rintro (⟨_,_,_,e⟩ | ⟨_,_,_,e⟩) <;> rw [h] at e <;> injection e
theorem aS3 (Z:Stt W fs env vis s io m r) {i:Nat} {x:Str} {v:V} {u:Value} (hv:vis[i]?=some (some x)) (hk:env.kindOf x=some .local \/ env.kindOf x=some .cell) (k:VR W s.heap io v u) :
  Si W (bN env) A (env::fs) (RP W env vis) (storeName env x u) s io m (.ok (r.set i (some v)) m):=by
 intro y_
 have hi:i < vis.length:=(List.getElem?_eq_some_iff.mp hv).1
 have F:=Z.F
 have row:∀ (j:Nat) (y:Str) (w:V),vis[j]?=some (some y)->(r.set i (some v))[j]?=some (some w)->(y=x /\ w=v) \/ (y≠x /\ r[j]?=some (some w)):=by
  intro j y w h1 h2
  by_cases q:i=j
  ·subst q
   rw [List.getElem?_set_self (by rw [F.len];exact hi)] at h2
   rw [hv] at h1
   (refine aF h1 fun z1=>?_;clear h1;(first | (injection z1;done) | subst z1 | cases (z1)));(refine aF h2 fun z1=>?_;clear h2;(first | (injection z1;done) | subst z1 | cases (z1)));exact .inl ⟨rfl,rfl⟩
  ·rw [List.getElem?_set_ne q] at h2
   refine .inr ⟨fun e=>q (F.inj i j x hv (e▸h1)),h2⟩
 rcases hk with hk | hk
 ·refine hide fun G_ g_=>?_
  rcases F.loc with ⟨mp,hn,hl⟩
  rcases id hn with ⟨oL,esL,epL,hoL,hdL,y_⟩
  refine g_ ?_
  clear g_ G_
  refine wpAny_storeName_local hk hn (fun h' hn' hs=>?_) (by rw [F.kind];rfl)
  have kk:∀ b o,b≠env.locals->s.heap.get? b=some o->h'.get? b=some o:=fun b o q e=>(hs.2 b q).trans e
  have lv:∀ o,s.heap.get? env.locals=some o->¬ cX o /\ ∃ o',h'.get? env.locals=some o':=fun o ho=>by
   rw [hoL] at ho;(refine aF ho fun z1=>?_;clear ho;subst z1)
   refine hide fun G_ g_=>?_;rcases id hn' with ⟨o',y_,y_,ho',y_⟩;refine g_ ?_;clear g_ G_
   exact ⟨cQ hdL,o',ho'⟩
  have st:Step (bN env) (frs (env::fs)) s.heap io m h' io m:=fN Z.H (L:=env.locals) (by simp [bN]) kk lv F.nofoot
  have H':HR W h' io m:=Z.H.ofOwn (own:=bN env) (L:=env.locals) (by simp [bN]) kk lv F.nofoot F.fresh
  refine ⟨_,m,io,rfl,st,H',?_,rfl,rfl⟩
  refine ⟨F.kind,F.glob,F.blt,F.nofoot,F.fresh,⟨_,hn',fun j y w h1 h2 h3=>?_⟩,fun j y w h1 h2 h3=>?_,fun y c hy=>?_,F.celex,F.apart,F.inj,by simp [F.len]⟩
  ·rcases row j y w h1 h2 with ⟨rfl,rfl⟩ | ⟨q,h2⟩
   ·exact ⟨u,by simp,k.step st⟩
   ·refine hide fun G_ g_=>?_;rcases hl j y w h1 h2 h3 with ⟨u',e,k'⟩;refine g_ ?_;clear g_ G_
    exact ⟨u',by simp [q,e],k'.step st⟩
  ·rcases row j y w h1 h2 with ⟨rfl,rfl⟩ | ⟨q,h2⟩
   ·rw [hk] at h3;simp at h3
   ·refine hide fun G_ g_=>?_;rcases F.cel j y w h1 h2 h3 with ⟨c,u',e,k1,k2⟩;refine g_ ?_;clear g_ G_
    refine ⟨c,u',e,?_,k2.step st⟩
    refine hide fun G_ g_=>?_;rcases k1 with ⟨oc,hoc,hdc⟩;refine g_ ?_;clear g_ G_
    exact ⟨oc,kk c oc (F.cells y c e).2.2 hoc,hdc⟩
  ·refine hide fun G_ g_=>?_;rcases F.cells y c hy with ⟨⟨o,oc,hoc,hdc⟩,k2,k3⟩;refine g_ ?_;clear g_ G_
   exact ⟨⟨o,oc,kk c oc k3 hoc,hdc⟩,k2,k3⟩
 ·rcases F.celex i x hv (.inl hk) with ⟨c,hc⟩
  refine hide fun G_ g_=>?_;rcases F.cells x c hc with ⟨⟨o0,oc,hoc,hdc⟩,c2,c3⟩;refine g_ ?_;clear g_ G_
  have nf:¬ dJ io c:=Z.H.nofoot_of_cell hoc hdc
  refine wpAny_storeName_cell F.kind hk hc ⟨oc,hoc,hdc⟩ fun h' hn' hs=>?_
  have kk:∀ b o,b≠c->s.heap.get? b=some o->h'.get? b=some o:=fun b o q e=>(hs.2 b q).trans e
  have lv:∀ o,s.heap.get? c=some o->¬ cX o /\ ∃ o',h'.get? c=some o':=fun o ho=>by
   rw [hoc] at ho;(refine aF ho fun z1=>?_;clear ho;subst z1)
   refine hide fun G_ g_=>?_;rcases id hn' with ⟨o',ho',y_⟩;refine g_ ?_;clear g_ G_
   exact ⟨aK3 hdc,o',ho'⟩
  have hin:c∈bN env:=by
   exact List.mem_cons_of_mem _ (List.mem_filterMap.mpr ⟨(x,c),mem_of_lookup hc,hc⟩)
  have st:Step (bN env) (frs (env::fs)) s.heap io m h' io m:=fN Z.H (L:=c) hin kk lv nf
  have H':HR W h' io m:=Z.H.ofOwn (own:=bN env) (L:=c) hin kk lv nf c2
  refine ⟨_,m,io,rfl,st,H',?_,rfl,rfl⟩
  refine hide fun G_ g_=>?_;rcases F.loc with ⟨mp,hn,hl⟩;refine g_ ?_;clear g_ G_
  have other:∀ y c',env.cells.lookup y=some c'->y≠x->c'≠c:=fun y c' hy q e=>q (F.apart y x c (e▸hy) hc)
  refine ⟨F.kind,F.glob,F.blt,F.nofoot,F.fresh,⟨mp,?_,fun j y w h1 h2 h3=>?_⟩,fun j y w h1 h2 h3=>?_,fun y c' hy=>?_,F.celex,F.apart,F.inj,by simp [F.len]⟩
  ·exact hn.sameBut hs (Ne.symm c3)
  ·rcases row j y w h1 h2 with ⟨rfl,rfl⟩ | ⟨q,h2⟩
   ·rw [hk] at h3;simp at h3
   ·refine hide fun G_ g_=>?_;rcases hl j y w h1 h2 h3 with ⟨u',e,k'⟩;refine g_ ?_;clear g_ G_
    exact ⟨u',e,k'.step st⟩
  ·rcases row j y w h1 h2 with ⟨rfl,rfl⟩ | ⟨q,h2⟩
   ·exact ⟨c,u,hc,hn',k.step st⟩
   ·refine hide fun G_ g_=>?_;rcases F.cel j y w h1 h2 h3 with ⟨c',u',e,k1,k2⟩;refine g_ ?_;clear g_ G_
    refine ⟨c',u',e,?_,k2.step st⟩
    refine hide fun G_ g_=>?_;rcases k1 with ⟨oc',hoc',hdc'⟩;refine g_ ?_;clear g_ G_
    exact ⟨oc',kk c' oc' (other y c' e q) hoc',hdc'⟩
  ·refine hide fun G_ g_=>?_;rcases F.cells y c' hy with ⟨⟨o,oc',hoc',hdc'⟩,k2,k3⟩;refine g_ ?_;clear g_ G_
   by_cases q:c'=c
   ·subst q;exact ⟨⟨_,hn'⟩,k2,k3⟩
   ·exact ⟨⟨o,oc',kk c' oc' q hoc',hdc'⟩,k2,k3⟩
end
end Mini.Internal
namespace Mini.Internal
open PySem PySem.W
section
variable {prog:Program} {w:World} {A:Around} {E:Value->Shared->Prop} {s:Shared} {it d:Addr} {i ep:Nat} {o:Obj} {es:Array DictEntry}
theorem aU3 {Q:Value->Shared->Prop} (hd:(d == sysModules)=false) (ho:s.heap.get? d=some o) (hc:o.ExactDict) (hdat:o.data=.dict es ep)
  (hQ:Q (.ref s.heap.objs.size) { s with heap:=s.heap.push { cls:=.type "dict_keyiterator",data:=.fields #[.ref d,.int 0 0,.int es.size 0,.int ep 0] } }):wpAny (model prog w) A (pyIter (.ref d)) Q E s:=by
 have hT:s.TypeIs (.ref d) "dict":=⟨o,ho,hc.1⟩
 refine wpAny_pyIter_slot hT F.slot_dict_iter (wpAny_call_entry F.slot_dict_iter hT F.entry_dict_iter ?_ (F.args_dict_iter_1 _))
 unfold Builtin.«dict.__iter__»
 refine wpAny_bind ?_
 unfold Builtin.Dict.dictSlotNone
 refine wpAny_bind (wpAny_notOrdered_dict hT ?_)
 show wpAny _ _ (pure (Value.ref d)) _ _ s
 refine wpAny_pure ?_
 show wpAny _ _ (Builtin.Dict.showsAll d >>= _) _ _ s
 unfold Builtin.Dict.showsAll
 rw [if_neg (by rw [hd];exact Bool.false_ne_true)]
 refine wpAny_bind (wpAny_pure (wpAny_bind (wpAny_dictEntries ho hdat (wpAny_bind (wpAny_dictEpoch ho hdat ?_)))))
 exact wpAny_bind (wpAny_newObj_type (wpAny_pure ⟨_,rfl,"dict_keyiterator",_,⟨_,Heap.get?_push_size _ rfl,rfl⟩,F.slot_dict_keyiterator_next.lookup,hQ⟩))
theorem aU2 {Q:Option Value->Shared->Prop} (hit:s.heap.IsKeyIter it d i es.size ep) (ho:s.heap.get? d=some o) (hdat:o.data=.dict es ep) (hlt:i < es.size)
  (hQ:∀ h',h'.IsKeyIter it d (i+1) es.size ep->Heap.SameBut it s.heap h'->Q (some es[i].key) { s with heap:=h' }):wpAny (model prog w) A (pyNext (.ref it)) Q E s:=by
 rcases id hit with ⟨oi,hoi,hci,hdi⟩
 unfold pyNext
 refine wpAny_bind (wpAny_attempt (wpAny_callSpecial?_slot (name:=Str.ofString "__next__") hit.typeIs F.slot_dict_keyiterator_next
  (wpAny_call_entry F.slot_dict_keyiterator_next hit.typeIs F.entry_dict_keyiterator_next ?_ (F.args_dict_keyiterator_next_1 _))))
 refine wpAny_bind (wpAny_pure (wpAny_bind (wpAny_bind ?_)))
 first | refine wpAny_bind (wpAny_typeNameOfWhole_keyiter hit.typeIs (wpAny_pure ?_)) | refine wpAny_bind (wpAny_typeNameOf_keyiter hit.typeIs (wpAny_pure ?_))
 refine wpAny_bind (wpAny_fieldsOf hoi hdi ?_)
 have hown:Builtin.Dict_items.ownsTuple "dict_keyiterator"=false:=by decide
 rw [if_neg (by rw [hown];exact Bool.false_ne_true)]
 show wpAny _ _ (if (Value.ref d == Value.none)=true then _ else _) _ _ s
 rw [if_neg (show ¬ ((Value.ref d == Value.none)=true) from Bool.false_ne_true)]
 refine wpAny_bind (wpAny_pure (wpAny_bind (wpAny_dictEntries ho hdat ?_)))
 rw [if_neg (by simp)]
 refine wpAny_bind (wpAny_pure (wpAny_bind (wpAny_dictEpoch ho hdat ?_)))
 rw [if_neg (by simp)]
 refine wpAny_pure ?_
 dsimp only
 rw [if_neg (show ¬ ((i:Int) < 0) from Int.not_lt.mpr (Int.natCast_nonneg i)),Int.toNat_natCast,Array.getElem?_eq_getElem hlt]
 refine wpAny_bind ?_
 first | refine wpAny_bind (wpAny_typeNameOfWhole_keyiter hit.typeIs (wpAny_pure ?_)) | refine wpAny_bind (wpAny_typeNameOf_keyiter hit.typeIs (wpAny_pure ?_))
 refine wpAny_bind (wpAny_isOneOf_keyiter hit.typeIs ?_)
 show wpAny _ _ (setField (.ref it) 1 (rawInt ((i:Int)+1)) >>= _) _ _ s
 refine wpAny_bind (wpAny_setField hoi hdi (by simp) ?_)
 have hit':(s.heap.update it (Obj.mapFields (·.setIfInBounds 1 (rawInt ((i:Int)+1))))).IsKeyIter it d (i+1) es.size ep:=
  ⟨_,Heap.get?_update_self _ hoi (Obj.isFreed_of_fields (Obj.data_mapFields hdi _)),(Obj.cls_mapFields ..).trans hci,by rw [Obj.data_mapFields hdi];simp [rawInt]⟩
 refine wpAny_bind (wpAny_holding ?_)
 refine wpAny_bind (wpAny_isOneOf_keyiter (s:={ s with heap:=s.heap.update it (Obj.mapFields (·.setIfInBounds 1 (rawInt ((i:Int)+1)))) }) hit'.typeIs ?_)
 show wpAny _ _ (pure es[i].key) _ _ _
 exact wpAny_pure (wpAny_pure ⟨_,rfl,wpAny_pure (hQ _ hit' (Heap.SameBut.update ..))⟩)
theorem bG1 {Q:Option Value->Shared->Prop} (hh:A.handled=none) (hit:s.heap.IsKeyIter it d i es.size ep) (ho:s.heap.get? d=some o) (hdat:o.data=.dict es ep) (hge:es.size <= i)
  (hQ:∀ h',Heap.ExtBut it s.heap h'->Q none { s with heap:=h' }):wpAny (model prog w) A (pyNext (.ref it)) Q E s:=by
 rcases id hit with ⟨oi,hoi,hci,hdi⟩
 unfold pyNext
 refine wpAny_bind (wpAny_attempt (wpAny_callSpecial?_slot (name:=Str.ofString "__next__") hit.typeIs F.slot_dict_keyiterator_next
  (wpAny_call_entry F.slot_dict_keyiterator_next hit.typeIs F.entry_dict_keyiterator_next ?_ (F.args_dict_keyiterator_next_1 _))))
 refine wpAny_bind (wpAny_pure (wpAny_bind (wpAny_bind ?_)))
 first | refine wpAny_bind (wpAny_typeNameOfWhole_keyiter hit.typeIs (wpAny_pure ?_)) | refine wpAny_bind (wpAny_typeNameOf_keyiter hit.typeIs (wpAny_pure ?_))
 refine wpAny_bind (wpAny_fieldsOf hoi hdi ?_)
 have hown:Builtin.Dict_items.ownsTuple "dict_keyiterator"=false:=by decide
 rw [if_neg (by rw [hown];exact Bool.false_ne_true)]
 show wpAny _ _ (if (Value.ref d == Value.none)=true then _ else _) _ _ s
 rw [if_neg (show ¬ ((Value.ref d == Value.none)=true) from Bool.false_ne_true)]
 refine wpAny_bind (wpAny_pure (wpAny_bind (wpAny_dictEntries ho hdat ?_)))
 rw [if_neg (by simp)]
 refine wpAny_bind (wpAny_pure (wpAny_bind (wpAny_dictEpoch ho hdat ?_)))
 rw [if_neg (by simp)]
 refine wpAny_pure ?_
 dsimp only
 rw [if_neg (show ¬ ((i:Int) < 0) from Int.not_lt.mpr (Int.natCast_nonneg i)),Int.toNat_natCast,Array.getElem?_eq_none hge]
 refine wpAny_bind ?_
 first | refine wpAny_bind (wpAny_typeNameOfWhole_keyiter hit.typeIs (wpAny_pure ?_)) | refine wpAny_bind (wpAny_typeNameOf_keyiter hit.typeIs (wpAny_pure ?_))
 show wpAny _ _ (setField (.ref it) 0 .none >>= _) _ _ s
 refine wpAny_bind (wpAny_setField hoi hdi (by simp) ?_)
 show wpAny _ _ (newExc (.type "StopIteration") [] >>= _) _ _ _
 refine wpAny_bind ?_
 simp only [newExc,newTuple]
 refine wpAny_bind (wpAny_newObj_type ?_ (by size_fits))
 refine wpAny_bind (m:=firstArgMember _ _) (wpAny_of_eq (a:=Value.none) (by first | rfl | (simp only [firstArgMember];rfl)) ?_)
 refine wpAny_newObj_type ?_ (by size_fits)
 unfold raiseNew
 refine wpAny_bind (wpAny_handled ?_)
 rw [show A.in1.handled=none from hh]
 refine wpAny_bind (wpAny_pure (wpAny_throw ?_))
 refine wpAny_bind (wpAny_isInstance (T:="StopIteration") (b:=true) ⟨_,Heap.get?_push_size _ rfl,rfl⟩ isSubtype_stop ?_)
 exact wpAny_pure (hQ _ (((Heap.SameBut.update ..).extBut.push _).push _))
end
end Mini.Internal
namespace Mini.Internal
open PySem PySem.W
section
variable {W:Wd} {h h':Heap} {fs:List Env} {env:Env} {vis:List (Option Str)} {s s':Shared} {io io' io₀:Io} {m m' m₀:MH} {r r':Lo} {fr own own':List Addr} {A:Around} {n:Nat} {pos p:Pos}
noncomputable def Sol (h h':Heap):Prop:=∀ b o,h.get? b=some o->cX o->h'.get? b=some o
theorem VR.sol (x:Sol h h') {v:V} {u:Value} (k:VR W h io v u):VR W h' io v u:=k.mono x fun y_ y_ e=>e
theorem VRs.sol (x:Sol h h') {v:List V} {u:List Value} (k:VRs W h io v u):VRs W h' io v u:=k.mono x fun y_ y_ e=>e
theorem ERs.sol (x:Sol h h') {kvs:List (Ky×V)} {es:List DictEntry} (e:ERs W h io kvs es):ERs W h' io kvs es:=e.mono x fun y_ y_ e=>e
theorem FEs.sol (x:Sol h h') {fs:List (Nat×V)} {mA:Str->Option Value} (e:FEs W h io fs mA):FEs W h' io fs mA:=e.mono x fun y_ y_ e=>e
theorem OR.sol (x:Sol h h') {a d:Addr} {o:MObj} (k:OR W h io a d o) (ha:∀ o,h.get? a=some o->h'.get? a=some o) (hd:∀ o,h.get? d=some o->h'.get? d=some o):OR W h' io a d o:=by
 cases o with
 | list xs=>
  refine hide fun G_ g_=>?_;rcases k with ⟨e,vs,n,h1,h4,h5⟩;refine g_ ?_;clear g_ G_
  exact ⟨e,vs,n,ha _ h1,h4.sol x,h5⟩
 | dict kvs ep=>
  refine hide fun G_ g_=>?_;rcases k with ⟨e,o,es,n,h1,h2,h3,h4,h5⟩;refine g_ ?_;clear g_ G_
  exact ⟨e,o,es,n,ha _ h1,h2,h3,h4.sol x,h5⟩
 | inst c fs=>
  refine hide fun G_ g_=>?_;rcases k with ⟨e,mA,h1,h2,h3,h4⟩;refine g_ ?_;clear g_ G_
  exact ⟨e,mA,ha _ h1,h2.at hd,h3.sol x,h4⟩
theorem HR.sol (H:HR W h io m) (x:Sol h h') (hf:∀ b o,dJ io b->h.get? b=some o->h'.get? b=some o) (hb:∀ b o,W.base.get? b=some o->h'.get? b=some o):HR W h' io m:=
 ⟨hb,H.len,fun n p o hi hm=>(H.obj n p o hi hm).sol x (fun o=>hf p.1 o ⟨p,List.mem_of_getElem? hi,.inl rfl⟩) fun o=>hf p.2 o ⟨p,List.mem_of_getElem? hi,.inr rfl⟩,H.fresh,H.apart⟩
structure Side (W:Wd) (wr:List Addr) (h₀ h:Heap) (io:Io) (h':Heap):Prop where
 keep:∀ b o,b∉wr->h.get? b=some o->h'.get? b=some o
 new:∀ b∈wr,h₀.get? b=none
 foot:∀ b∈wr,¬ dJ io b
 soft:∀ b∈wr,∀ o,h.get? b=some o->¬ cX o
theorem Side.sol {wr:List Addr} {h₀:Heap} (x:Side W wr h₀ h io h'):Sol h h':=fun b o e so=>x.keep b o (fun q=>x.soft b q o e so) e
theorem Side.step {wr:List Addr} {h₀:Heap} (x:Side W wr h₀ h io h') (H:HR W h io m) (st:Step own fr h₀ io₀ m₀ h io m):Step own fr h₀ io₀ m₀ h' io m:=by
 have nw:∀ b o,h₀.get? b=some o->b∉wr:=fun b o e q=>by rw [x.new b q] at e;injection e
 refine ⟨fun b o e=>?_,fun b o e so=>?_,fun b o e f1 f2 f3=>x.keep _ _ (nw b o e) (st.keep b o e f1 f2 f3),fun b o e f1 f2=>?_,st.grow,fun n p kvs ep hi hm=>?_⟩
 ·rcases st.alive b o e with ⟨o',e'⟩
  exact ⟨o',x.keep _ _ (nw b o e) e'⟩
 ·exact x.keep _ _ (nw b o e) (st.solid b o e so)
 ·rcases st.slots b o e f1 f2 with ⟨sl,e'⟩
  exact ⟨sl,x.keep _ _ (nw b o e) e'⟩
 ·refine hide fun G_ g_=>?_;rcases st.dicts n p kvs ep hi hm with ⟨k',e',q1,q2,q3⟩;refine g_ ?_;clear g_ G_
  refine ⟨k',e',q1,q2,fun q=>⟨?_,(q3 q).2⟩⟩
  have hi':=st.io_get hi
  rcases H.there hi' with ⟨o,ho⟩
  rw [<- (q3 q).1,ho]
  exact x.keep _ _ (fun w=>x.foot _ w ⟨p,List.mem_of_getElem? hi',.inl rfl⟩) ho
theorem Side.hr {wr:List Addr} {h₀:Heap} (x:Side W wr h₀ h io h') (H:HR W h io m) (hb:∀ b o,W.base.get? b=some o->h₀.get? b=some o):HR W h' io m:=
 H.sol x.sol (fun b o f e=>x.keep b o (fun q=>x.foot b q f) e) fun b o e=>x.keep b o (fun q=>by have:=hb b o e;rw [x.new b q] at this;injection this) (H.keep b o e)
theorem aI3 {target:Expr} {I:Addr} {o:Obj} {T:String} {ws:Array Value} {u:Value} {Q:Unit->Shared->Prop} {E:Value->Shared->Prop} {M:Model} (ho:s.heap.get? I=some o) (hc:o.cls=.type T) (hd:o.data=.fields ws)
  (hT:(["enumerate","zip","dict_itemiterator","dict_reverseitemiterator","odict_iterator","itertools.zip_longest","itertools.pairwise"].contains T)=false) (h:Q () s):wpAny M A (letOwnedTupleGo target (.ref I) u) Q E s:=by
 have key:∀ a:Addr,wpAny M A (do
   let o <- load I
   match o.cls,o.data with
   | .type n,.fields vs=>
    if ["enumerate","zip","dict_itemiterator","dict_reverseitemiterator","odict_iterator","itertools.zip_longest","itertools.pairwise"].contains n&&vs[0]? == some (rawInt a) then
     rule "for.unpacks-the-owned-tuple"
     updateField I 0 .none
   | _,_=>pure ()) Q E s:=fun a=>by
  refine wpAny_bind (wpAny_load ho ?_)
  rw [hc,hd]
  simp only [hT,Bool.false_and]
  exact wpAny_pure h
 unfold letOwnedTupleGo
 cases (target) <;> first | exact wpAny_pure h | skip
 all_goals
  cases (u) <;> first | exact wpAny_pure h | exact key _
structure Wk (W:Wd) (A:Around) (I:Addr) (wr:List Addr) (g:Gd) (vs:List V) (St:Nat->Heap->Io->Prop):Prop where
 soft:∀ {i:Nat} {h:Heap} {io:Io},St i h io->∀ b∈wr,¬ dJ io b /\ ∀ o,h.get? b=some o->¬ cX o
 stay:∀ {i:Nat} {h h':Heap} {io io':Io} {m m':MH} {own fr:List Addr},St i h io->HR W h io m->HR W h' io' m'->Step own fr h io m h' io' m'->(∀ b∈wr,b∉own /\ b∉fr)->g.stays m=true->g.stays m'=true->St i h' io'
 item:∀ {i:Nat} {s:Shared} {io:Io} {m:MH} {v:V} {Q:Option Value->Shared->Prop} {E:Value->Shared->Prop},vs[i]?=some v->St i s.heap io->HR W s.heap io m->g.stays m=true ->
  (∀ u h' tk,VR W s.heap io v u->St (i+1) h' io->(∀ b o,b∉wr->s.heap.get? b=some o->h'.get? b=some o)->Q (some u) { s with heap:=h',toks:=tk })->wpAny (model W.prog W.w) A (pyNext (.ref I)) Q E s
 alive:∀ {i:Nat} {h:Heap} {io:Io},St i h io->∀ b∈wr,∃ o,h.get? b=some o
 self:∀ {i:Nat} {s:Shared} {io:Io} {Q:Value->Shared->Prop} {E:Value->Shared->Prop},St i s.heap io->Q (.ref I) s->wpAny (model W.prog W.w) A (pyIter (.ref I)) Q E s
 lot:∀ {i:Nat} {s:Shared} {io:Io} {target:Expr} {u:Value} {Q:Unit->Shared->Prop} {E:Value->Shared->Prop},St i s.heap io->(∀ h',St i h' io->(∀ b o,b∉wr->s.heap.get? b=some o->h'.get? b=some o)->Q () { s with heap:=h' })->wpAny (model W.prog W.w) A (letOwnedTupleGo target (.ref I) u) Q E s
 done:∀ {s:Shared} {io:Io} {m:MH} {Q:Option Value->Shared->Prop} {E:Value->Shared->Prop},St vs.length s.heap io->HR W s.heap io m->g.stays m=true ->
  (∀ h' tk,(∀ b o,b∉wr->s.heap.get? b=some o->h'.get? b=some o)->Q none { s with heap:=h',toks:=tk })->wpAny (model W.prog W.w) A (pyNext (.ref I)) Q E s
theorem aE7 {C:Prop} (h:false=true):C:=by injection h
mutual
theorem cR4:∀ (x y:V),V.same x y=true->x=y
 | .none,y,h=>by cases (y) <;> first | rfl | (exact aE7 h)
 | .bool a,y,h=>by cases (y) <;> first | (exact aE7 h) | (exact congrArg V.bool (eq_of_beq h))
 | .int a,y,h=>by cases (y) <;> first | (exact aE7 h) | (exact congrArg V.int (eq_of_beq h))
 | .str a,y,h=>by cases (y) <;> first | (exact aE7 h) | (exact congrArg V.str (eq_of_beq h))
 | .tup xs,y,h=>by cases (y) <;> first | (exact aE7 h) | (exact congrArg V.tup (aF4 xs _ h))
 | .ref a,y,h=>by cases (y) <;> first | (exact aE7 h) | (exact congrArg V.ref (eq_of_beq h))
 | .fn a,y,h=>by cases (y) <;> first | (exact aE7 h) | (exact congrArg V.fn (eq_of_beq h))
 | .exc a,y,h=>by cases (y) <;> first | (exact aE7 h) | (exact congrArg V.exc (eq_of_beq h))
 | .scr a,y,h=>by cases (y) <;> first | (exact aE7 h) | (exact congrArg V.scr (eq_of_beq h))
theorem aF4:∀ (xs ys:List V),V.sames xs ys=true->xs=ys
 | [],ys,h=>by
  cases ys with
  | nil=>rfl
  | cons y_ y_=>exact aE7 h
 | x::xs,ys,h=>by
  cases ys with
  | nil=>exact aE7 h
  | cons y ys=>
   have h:(V.same x y&&V.sames xs ys)=true:=h
   rw [Bool.and_eq_true] at h
   rw [cR4 x y h.1,aF4 xs ys h.2]
end
theorem eN {o:Obj} {T:String} {vs:Array Value} (hc:o.cls=.type T) (hd:o.data=.fields vs):¬ cX o:=by
 rintro (⟨y_,y_,y_,e⟩ | ⟨C,y_,e,y_⟩)
 ·rw [hd] at e;injection e
 ·rw [hc] at e;injection e
set_option tactic.hygienic true in
theorem Wk.list {I a d:Addr} {k:Nat} {xs:List V} (hh:A.handled=none):Wk W A I [I] (.list k xs) xs (fun i h io=>h.IsListIter I a i /\ io[k]?=some (a,d) /\ ¬ dJ io I) where
 soft:=fun z_ b hb=>by
  rcases z_ with ⟨⟨o,ho,hc,hd⟩,y_,nf⟩
  rw [List.mem_singleton.mp hb]
  exact ⟨nf,fun o' e=>by rw [ho] at e;(refine aF e fun z1=>?_;clear e;subst z1);exact eN hc hd⟩
 stay:=fun z_ H y_ st hb y_ y_=>by
  rcases z_ with ⟨⟨o,ho,hc,hd⟩,hi,nf⟩
  have q:=hb I (.head _)
  exact ⟨⟨o,st.keep _ _ ho nf q.1 q.2,hc,hd⟩,st.io_get hi,st.nofoot ho nf⟩
 item:=fun {i s io m v Q E} hv z_ H hg hQ=>by
  rcases z_ with ⟨hit,hi,nf⟩
  simp only [Gd.stays] at hg
  split at hg
  ·rename_i ys hm
   have e:=aF4 _ _ hg
   subst e
   refine hide fun G_ g_=>?_
   rcases H.obj _ _ _ hi hm with ⟨y_,us,c,h1,h2,h3⟩
   rcases h2.get hv with ⟨u,hu,ku⟩
   refine g_ ?_
   clear g_ G_
   refine wpAny_pyNext_list_item hit ⟨_,h1,rfl,c,rfl⟩ (by simpa using hu) fun h' hit' hs=>?_
   exact hQ u h' s.toks ku ⟨hit',hi,nf⟩ fun b o hb e=>(hs.2 b (by simpa using hb)).trans e
  ·injection hg
 alive:=fun z_ b hb=>by rcases z_ with ⟨⟨o,ho,y_⟩,y_⟩;rw [List.mem_singleton.mp hb];exact ⟨o,ho⟩
 self:=fun st hQ=>wpAny_pyIter_listiter st.1 hQ
 lot:=fun {i s io target u Q E} st hQ=>by
  refine hide fun G_ g_=>?_;rcases id st with ⟨⟨o,ho,hc,hd⟩,y_⟩;refine g_ ?_;clear g_ G_
  exact aI3 ho hc hd (by decide) (hQ _ st fun y_ y_ y_ e=>e)
 done:=fun {s io m Q E} z_ H hg hQ=>by
  rcases z_ with ⟨hit,hi,nf⟩
  simp only [Gd.stays] at hg
  split at hg
  ·rename_i ys hm
   have e:=aF4 _ _ hg
   subst e
   refine hide fun G_ g_=>?_;rcases H.obj _ _ _ hi hm with ⟨y_,us,c,h1,h2,h3⟩;refine g_ ?_;clear g_ G_
   have hl:=h2.length
   refine wpAny_pyNext_list_end hh hit ⟨_,h1,rfl,c,rfl⟩ (by simp at hl;simp [hl]) fun h' hs=>?_
   exact hQ h' s.toks fun b o hb e=>hs b o (by simpa using hb) e
  ·injection hg
theorem Wk.of_walks {I:Addr} {fp:List Addr} {k:Nat} {P:Nat->Value->Prop} {St:Nat->Heap->Prop} {vs:List V} (hw:Walks W.prog W.w A I fp [I] k P St) (hk:k=vs.length)
  (hP:∀ (i:Nat) (v:V) (u:Value) (h:Heap) (io:Io),vs[i]?=some v->P i u->VR W h io v u)
  (hI:∀ i h,St i h->∃ o T ws,h.get? I=some o /\ o.cls=.type T /\ o.data=.fields ws /\ (["enumerate","zip","dict_itemiterator","dict_reverseitemiterator","odict_iterator","itertools.zip_longest","itertools.pairwise"].contains T)=false)
  (hfp:∀ b∈fp,b=I \/ ∃ o,W.base.get? b=some o):Wk W A I [I] .none vs (fun i h io=>St i h /\ ¬ dJ io I) where
 soft:=fun z_ b hb=>by
  rcases z_ with ⟨st,nf⟩
  rw [List.mem_singleton.mp hb]
  refine hide fun G_ g_=>?_;rcases hI _ _ st with ⟨o,T,ws,ho,hc,hd,hT⟩;refine g_ ?_;clear g_ G_
  exact ⟨nf,fun o' e=>by rw [ho] at e;(refine aF e fun z1=>?_;clear e;subst z1);exact eN hc hd⟩
 stay:=fun {i h h' io io' m m' own fr} z_ H H' x hb y_ y_=>by
  rcases z_ with ⟨st,nf⟩
  refine hide fun G_ g_=>?_;rcases hI _ _ st with ⟨o,T,ws,ho,hc,hd,hT⟩;refine g_ ?_;clear g_ G_
  have q:=hb I (.head _)
  refine ⟨hw.frame i h h' st fun b hb o' e=>?_,x.nofoot ho nf⟩
  rcases hfp b hb with rfl | ⟨ob,k⟩
  ·exact x.keep _ _ e nf q.1 q.2
  ·rw [H.keep _ _ k] at e;(refine aF e fun z1=>?_;clear e;subst z1);exact H'.keep _ _ k
 item:=fun {i s io m v Q E} hv z_ H hg hQ=>by
  rcases z_ with ⟨st,nf⟩
  have hi:i < k:=by rw [hk];exact (List.getElem?_eq_some_iff.mp hv).1
  exact hw.item i s Q E hi st fun u h' tk p st' kk=>hQ u h' tk (hP i v u _ _ hv p) ⟨st',nf⟩ kk
 alive:=fun z_ b hb=>by
  rcases z_ with ⟨st,y_⟩
  refine hide fun G_ g_=>?_;rcases hI _ _ st with ⟨o,y_,y_,ho,y_⟩;refine g_ ?_;clear g_ G_
  rw [List.mem_singleton.mp hb];exact ⟨o,ho⟩
 self:=fun {i s io Q E} st hQ=>hw.self i s Q E st.1 hQ
 lot:=fun {i s io target u Q E} st hQ=>by
  refine hide fun G_ g_=>?_;rcases hI _ _ st.1 with ⟨o,T,ws,ho,hc,hd,hT⟩;refine g_ ?_;clear g_ G_
  exact aI3 ho hc hd hT (hQ _ st fun y_ y_ y_ e=>e)
 done:=fun {s io m Q E} ⟨st,nf⟩ H hg hQ=>hw.done s Q E (hk▸st) hQ
theorem ERs.keys {kvs:List (Ky×V)} {es:List DictEntry} (x:ERs W h io kvs es):VRs W h io (kvs.map fun p=>p.1.val) (es.map (·.key)):=by
 induction x using ERs.ind with
 | nil=>exact .nil
 | cons h1 y_ y_ ih=>exact .cons h1 ih
set_option tactic.hygienic true in
theorem aL9 {k e:Nat} (hg:(Gd.dict k e).stays m=true):∃ kvs,m[k]?=some (.dict kvs e):=by
 simp only [Gd.stays] at hg
 split at hg
 ·rename_i kvs e' hm
  rw [eq_of_beq hg];exact ⟨kvs,hm⟩
 ·injection hg
theorem Wk.dict {I a d:Addr} {k e ep:Nat} {o:Obj} {es:Array DictEntry} {vs:List V} (hh:A.handled=none) (hd:o.data=.dict es ep) :
  Wk W A I [I] (.dict k e) vs (fun i h io=>h.IsKeyIter I a i es.size ep /\ io[k]?=some (a,d) /\ h.get? a=some o /\ VRs W h io vs (es.toList.map (·.key)) /\ I≠a /\ ¬ dJ io I) where
 soft:=fun z_ b hb=>by
  rcases z_ with ⟨⟨oi,hoi,hci,hdi⟩,y_,y_,y_,y_,nf⟩
  rw [List.mem_singleton.mp hb]
  exact ⟨nf,fun o' e=>by rw [hoi] at e;(refine aF e fun z1=>?_;clear e;subst z1);exact eN hci hdi⟩
 stay:=fun {i h h' io io' m m' own fr} z_ H H' st hb g1 g2=>by
  rcases z_ with ⟨⟨oi,hoi,hci,hdi⟩,hi,ha,hv,hn,nf⟩
  have q:=hb I (.head _)
  rcases aL9 g1 with ⟨kvs,hm⟩
  rcases aL9 g2 with ⟨kvs',hm'⟩
  rcases st.dicts _ _ _ _ hi hm with ⟨ks,e',q1,y_,q3⟩
  rw [hm'] at q1;(refine aF q1 fun z1=>?_;clear q1;(first | (injection z1;done) | subst z1 | cases (z1)))
  exact ⟨⟨oi,st.keep _ _ hoi nf q.1 q.2,hci,hdi⟩,st.io_get hi,(q3 rfl).1.trans ha,hv.step st,hn,st.nofoot hoi nf⟩
 item:=fun {i s io m v Q E} hv z_ H hg hQ=>by
  rcases z_ with ⟨hit,hi,ha,hx,hn,nf⟩
  refine hide fun G_ g_=>?_;rcases hx.get hv with ⟨u,hu,ku⟩;refine g_ ?_;clear g_ G_
  rw [List.getElem?_map,Array.getElem?_toList] at hu
  have hlt:i < es.size:=by
   rcases Nat.lt_or_ge i es.size with q | q
   ·exact q
   ·rw [Array.getElem?_eq_none q] at hu;injection hu
  rw [Array.getElem?_eq_getElem hlt] at hu
  (refine aF hu fun z1=>?_;clear hu;subst z1)
  refine aU2 hit ha hd hlt fun h' hit' hs=>?_
  have kk:∀ b o,b∉[I]->s.heap.get? b=some o->h'.get? b=some o:=fun b o hb e=>(hs.2 b (by simpa using hb)).trans e
  refine hQ _ h' s.toks ku ⟨hit',hi,kk _ _ (by simpa using Ne.symm hn) ha,hx.sol fun b o e so=>?_,hn,nf⟩ kk
  refine hide fun G_ g_=>?_;rcases hit with ⟨oi,hoi,hci,hdi⟩;refine g_ ?_;clear g_ G_
  exact kk b o (fun q=>by rw [List.mem_singleton.mp q,hoi] at e;(refine aF e fun z1=>?_;clear e;subst z1);exact eN hci hdi so) e
 alive:=fun z_ b hb=>by rcases z_ with ⟨⟨o,ho,y_⟩,y_⟩;rw [List.mem_singleton.mp hb];exact ⟨o,ho⟩
 self:=fun st hQ=>wpAny_pyIter_keyiter st.1 hQ
 lot:=fun {i s io target u Q E} st hQ=>by
  refine hide fun G_ g_=>?_;rcases id st with ⟨⟨oi,hoi,hci,hdi⟩,y_⟩;refine g_ ?_;clear g_ G_
  exact aI3 hoi hci hdi (by decide) (hQ _ st fun y_ y_ y_ e=>e)
 done:=fun {s io m Q E} z_ H hg hQ=>by
  rcases z_ with ⟨hit,hi,ha,hx,hn,nf⟩
  have hl:=hx.length
  refine bG1 hh hit ha hd (by simp at hl;lia) fun h' hs=>?_
  exact hQ h' s.toks fun b o hb e=>hs b o (by simpa using hb) e
noncomputable def SrcP (W:Wd) (A:Around) (fs:List Env) (own:List Addr) (s:Shared) (io:Io) (m:MH) (p:List V×Gd) (t:Sem Value):Prop:=
 ∀ (Q:Value->Shared->Prop) (E:Value->Shared->Prop),(∀ I wr St h' tk,Wk W A I wr p.2 p.1 St->St 0 h' io->(∀ b o,s.heap.get? b=some o->h'.get? b=some o)->(∀ b∈wr,s.heap.get? b=none)->(p.2.stays m=true)->Q (.ref I) { s with heap:=h',toks:=tk })->wpAny (model W.prog W.w) A t Q E s
theorem dG (H:HR W s.heap io m):¬ dJ io s.heap.objs.size:=fun f=>by
 refine hide fun G_ g_=>?_;rcases H.foot f with ⟨o,e,y_⟩;refine g_ ?_;clear g_ G_
 rw [aZ] at e;injection e
set_option tactic.hygienic true in
theorem cG8 (ok:WOk W) (hh:A.handled=none) (H:HR W s.heap io m) {v:V} {u:Value} (k:VR W s.heap io v u) {p:List V×Gd} {m':MH} (hp:eX v m=.ok p m'):m'=m /\ SrcP W A fs own s io m p (pyIter u):=by
 induction k using VR.elim with
 | none=>injection hp
 | bool b=>injection hp
 | int i t=>injection hp
 | fn k=>injection hp
 | exc=>injection hp
 | tup y_ y_=>injection hp
 | str x t hx=>
  (refine aC5 hp fun z1 z2=>?_;clear hp;subst z1;subst z2)
  refine ⟨rfl,fun Q E hQ=>?_⟩
  have key:∀ (T:String) (hT:(["enumerate","zip","dict_itemiterator","dict_reverseitemiterator","odict_iterator","itertools.zip_longest","itertools.pairwise"].contains T)=false) (hw:Walks W.prog W.w A s.heap.objs.size [s.heap.objs.size] [s.heap.objs.size] x.cps.size (SignAt x) (fun i h=>h.IsStrIter s.heap.objs.size T x t i)),Wk W A s.heap.objs.size [s.heap.objs.size] .none (x.cps.toList.map fun c=>V.str ⟨#[c]⟩) (fun i h io=>h.IsStrIter s.heap.objs.size T x t i /\ ¬ dJ io s.heap.objs.size):=fun T hT hw=>by
   refine Wk.of_walks hw (by simp) (fun i v u h io hv hP=>?_) (fun i h ⟨o,ho,hc,hd⟩=>⟨o,T,_,ho,hc,hd,hT⟩) fun b hb=>.inl (by simpa using hb)
   refine hide fun G_ g_=>?_;rcases hP with ⟨c,t',e1,rfl⟩;refine g_ ?_;clear g_ G_
   rw [List.getElem?_map,Array.getElem?_toList,e1] at hv
   (refine aF hv fun z1=>?_;clear hv;subst z1)
   exact .str _ _ (aS2 hx e1)
  cases ha:x.cps.all (· < 128)
  ·exact wpAny_pyIter_wide ha (hQ _ _ _ _ _ (key _ (by decide) (Walks.strWide hh _ x t)) ⟨⟨_,Heap.get?_push_size _ rfl,rfl,rfl⟩,dG H⟩ (aQ _) (fun b hb=>by rw [List.mem_singleton.mp hb];exact aZ _) rfl)
  ·exact wpAny_pyIter_ascii ha (hQ _ _ _ _ _ (key _ (by decide) (Walks.strAscii hh _ x t)) ⟨⟨_,Heap.get?_push_size _ rfl,rfl,rfl⟩,dG H⟩ (aQ _) (fun b hb=>by rw [List.mem_singleton.mp hb];exact aZ _) rfl)
 | @ref n a d hi=>
  simp only [eX] at hp
  split at hp
  ·rename_i xs hm
   (refine aC5 hp fun z1 z2=>?_;clear hp;subst z1;subst z2)
   refine hide fun G_ g_=>?_;rcases H.obj _ _ _ hi hm with ⟨y_,us,c,h1,h2,h3⟩;refine g_ ?_;clear g_ G_
   refine ⟨rfl,fun Q E hQ=>wpAny_pyIter_list ⟨_,h1,rfl,c,rfl⟩ ?_⟩
   refine hQ _ _ _ _ _ (Wk.list (a:=a) (d:=d) hh) ⟨⟨_,Heap.get?_push_size _ rfl,rfl,rfl⟩,hi,dG H⟩ (aQ _) (fun b hb=>by rw [List.mem_singleton.mp hb];exact aZ _) ?_
   simp only [Gd.stays,hm];exact fP xs
  ·rename_i kvs e hm
   (refine aC5 hp fun z1 z2=>?_;clear hp;subst z1;subst z2)
   refine hide fun G_ g_=>?_;rcases H.obj _ _ _ hi hm with ⟨y_,o,es,c,h1,h2,h3,h4,h5,h6⟩;refine g_ ?_;clear g_ G_
   refine ⟨rfl,fun Q E hQ=>aU3 (H.notSys ok ⟨_,List.mem_of_getElem? hi,.inl rfl⟩) h1 h2 h3 ?_⟩
   refine hQ _ _ _ _ _ (Wk.dict (a:=a) (d:=d) (k:=n) (e:=e) hh h3) ⟨⟨_,Heap.get?_push_size _ rfl,rfl,rfl⟩,hi,aQ _ _ _ h1,h4.keys.step (.of_keeps (own:=[]) (fr:=[]) H (aQ _)),fun e=>?_,dG H⟩ (aQ _) (fun b hb=>by rw [List.mem_singleton.mp hb];exact aZ _) ?_
   ·have h1:s.heap.get? a=some o:=h1
    rw [<- e,aZ] at h1;injection h1
   ·simp only [Gd.stays,hm];exact beq_self_eq_true e
  ·injection hp
 | scr y_ y_ y_ y_ y_=>injection hp
end
end Mini.Internal
namespace Mini.Internal
open PySem PySem.W
section
variable {W:Wd} {K:Frag} {h h':Heap} {fs:List Env} {env:Env} {vis:List (Option Str)} {s s':Shared} {io io' io₀:Io} {m m' m₀:MH} {r r':Lo} {fr own own':List Addr} {A:Around} {n:Nat} {pos p:Pos}
noncomputable def SiS (W:Wd) (A:Around) (fs:List Env) (env:Env) (vis:List (Option Str)) (t:Sem Flow) (c:Lo->Mn (Fl×Lo)):Prop:=
 ∀ (s:Shared) (io:Io) (m:MH) (r:Lo),Stt W fs env vis s io m r->Si W (bN env) A (env::fs) (SP W env vis) t s io m (c r m)
theorem dA3:SiS W A fs env vis (execs [] env) (fun r=>ret (.next,r)):=fun y_ y_ y_ y_ Z=>.pure (u:=Flow.next) Z.H ⟨.next,Z.F⟩
theorem cK3 {st:Stmt} {rest:List Stmt} {c1 c2:Lo->Mn (Fl×Lo)} (h1:SiS W A fs env vis (exec st env) c1) (h2:SiS W A fs env vis (execs rest env) c2) :
  SiS W A fs env vis (execs (st::rest) env) (fun r=>bnd (c1 r) fun p=>match p.1 with | .next=>c2 p.2 | f=>ret (f,p.2)):=by
 intro s io m r Z
 rw [execs_cons]
 refine Si.bind (h1 s io m r Z) fun f s₁ io₁ m₁ p y_ st H₁ k sm=>?_
 rcases p with ⟨q,r₁⟩
 rcases k with ⟨kf,kF⟩
 cases kf with
 | next=>exact h2 _ _ _ _ (Z.stepO H₁ st kF)
 | cont=>exact .pure H₁ ⟨.cont,kF⟩
 | ret kv=>exact .pure H₁ ⟨.ret kv,kF⟩
theorem Si.bindE {α β α' β':Type} {P:Heap->Io->α->β->Prop} {P':Heap->Io->α'->β'->Prop} {t:Sem β} {k:β->Sem β'} {R:Res α} {f:α->Mn α'} (x:Si W [] A fs P t s io m R)
  (y:∀ u s₁ io₁ m₁ v,R=.ok v m₁->Step [] (frs fs) s.heap io m s₁.heap io₁ m₁->HR W s₁.heap io₁ m₁->P s₁.heap io₁ v u->Same s s₁->Si W own A fs P' (k u) s₁ io₁ m₁ (f v m₁)) :
  Si W own A fs P' (t >>= k) s io m (R.bind f):=by
 intro hne
 refine wpAny_bind (wpAny_mono (x (Res.bind_ne hne)) (fun u s₁ hp=>?_) fun e s₁ hp=>?_)
 ·refine hide fun G_ g_=>?_;rcases hp with ⟨v,m₁,io₁,rfl,st,hr,hp,sm⟩;refine g_ ?_;clear g_ G_
  have st':=st.wk (own':=own) fun y_ q=>nomatch q
  exact wpAny_mono (y u s₁ io₁ m₁ v rfl st hr hp sm hne) (fun y_ y_ z=>z.mono st' sm) fun y_ y_ z=>z.mono st' sm
 ·refine hide fun G_ g_=>?_;rcases hp with ⟨c,m',io',a,g,h1,h2,h3,h4,h5,h6⟩;refine g_ ?_;clear g_ G_
  exact XP.bind (R:=R) ⟨c,m',io',a,g,h1,h2,h3.wk (fun y_ q=>nomatch q),h4,h5,h6⟩ .refl (.refl _)
theorem dA1 {e:Expr} {c:Lo->Mn V} (he:SiE W A (env::fs) env vis (eval e env) c):SiS W A fs env vis (exec (.Return (some e) pos) env) (fun r=>bnd (c r) fun v=>ret (.ret v,r)):=by
 intro s io m r Z
 rw [exec_Return_some]
 refine .standAt (Si.bindE (he s io m r Z.sit) fun u s₁ io₁ m₁ v y_ st H₁ k sm=>?_)
 exact .pure H₁ ⟨.ret k,Z.F.step0 Z.H st⟩
theorem dA2:SiS W A fs env vis (exec (.Pass pos) env) (fun r=>ret (.next,r)):=fun y_ y_ y_ y_ Z=>.standAt (.pure Z.H ⟨.next,Z.F⟩)
theorem dA5:SiS W A fs env vis (exec (.Continue pos) env) (fun r=>ret (.cont,r)):=fun y_ y_ y_ y_ Z=>.standAt (.pure Z.H ⟨.cont,Z.F⟩)
theorem x_if {test:Expr} {body orelse:List Stmt} {ct:Lo->Mn Bool} {ca cb:Lo->Mn (Fl×Lo)} (ht:SiB W A (env::fs) env vis (isTrue test env (eval test env)) ct) (ha:SiS W A fs env vis (execs body env) ca) (hb:SiS W A fs env vis (execs orelse env) cb) :
  SiS W A fs env vis (exec (.If test body orelse pos) env) (fun r=>bnd (ct r) fun t=>if t then ca r else cb r):=by
 intro s io m r Z
 rw [exec_If]
 refine .standAt (Si.bindE (ht s io m r Z.sit) fun u s₁ io₁ m₁ v y_ st H₁ k sm=>?_)
 subst k
 cases (v)
 ·exact hb _ _ _ r (Z.step H₁ st)
 ·exact ha _ _ _ r (Z.step H₁ st)
theorem x_exp {e:Expr} {c:Lo->Mn V} (hs:swapsWith e none pos.line env=Pure.pure false) (he:SiE W A (env::fs) env vis (eval e env) c):SiS W A fs env vis (exec (.Expr e pos) env) (fun r=>bnd (c r) fun y_=>ret (.next,r)):=by
 intro s io m r Z
 rw [exec_Expr env e pos (by unfold interactive;rw [Z.F.kind];rfl) hs]
 refine .standAt (Si.bindE (he s io m r Z.sit) fun u s₁ io₁ m₁ v y_ st H₁ k sm=>?_)
 exact fun y_=>wpAny_dropValue ⟨_,m₁,io₁,rfl,.refl,H₁,⟨.next,Z.F.step0 Z.H st⟩,.refl _⟩
noncomputable def SiA (W:Wd) (A:Around) (fs:List Env) (env:Env) (vis:List (Option Str)) (target:Expr) (c:V->Lo->Mn Lo):Prop:=
 ∀ (s:Shared) (io:Io) (m:MH) (r:Lo) (v:V) (u:Value),Stt W fs env vis s io m r->VR W s.heap io v u->Si W (bN env) A (env::fs) (RP W env vis) (assign target env u) s io m (c v r m)
theorem Si.bindName {x:Str} {u:Value} {α:Type} {P:Heap->Io->α->Unit->Prop} {R:Res α} (h:Si W own A fs P (storeName env x u) s io m R):Si W own A fs P (PySem.bindName env x u) s io m R:=fun hne=>wpAny_bindName (h hne)
theorem aX7 {i:Nat} {x:Str} (hv:vis[i]?=some (some x)) (hk:env.kindOf x=some .local \/ env.kindOf x=some .cell):SiA W A fs env vis (.Name x pos) (fun v r m=>.ok (r.set i (some v)) m):=
 fun y_ y_ y_ y_ y_ y_ Z k=>.standAt (.bindName (aS3 Z hv hk k))
theorem bM2 {target value:Expr} {c:Lo->Mn V} {ca:V->Lo->Mn Lo} (he:SiE W A (env::fs) env vis (eval value env) c) (ha:SiA W A fs env vis target ca) (hs:swapsWithSole [target] value pos.line env=Pure.pure false) (hw:swappedStores [target] value env=Pure.pure none) (hst:(assignEach [target] env).map (·.2)=[assign target env]) :
  SiS W A fs env vis (exec (.Assign [target] value pos) env) (fun r=>bnd (c r) fun v=>bnd (ca v r) fun r'=>ret (.next,r')):=by
 intro s io m r Z hne
 refine wpAny_Assign_stores ?_ hs hw
 rw [hst]
 refine wpAny_mono (he s io m r Z.sit (Res.bind_ne hne)) (fun u s₁ q=>?_) fun e s₁ hp=>?_
 ·refine hide fun G_ g_=>?_;rcases q with ⟨v,m₁,io₁,e1,st,H₁,k,sm⟩;refine g_ ?_;clear g_ G_
  have ee:bnd (c r) (fun v=>bnd (ca v r) fun r'=>ret ((Fl.next,r'):Fl×Lo)) m=(ca v r m₁).bind fun r'=>ret ((Fl.next,r'):Fl×Lo):=by show (c r m).bind _=_;rw [e1];rfl
  dsimp only at hne ⊢
  rw [ee] at hne ⊢
  have st':=st.wk (own':=bN env) fun y_ q=>nomatch q
  refine wpAny_mono (ha s₁ io₁ m₁ r v u (Z.step H₁ st) k (Res.bind_ne hne)) (fun y_ s₂ q=>?_) fun e s₂ q=>(q.mono st' sm).bind .refl (.refl _)
  refine hide fun G_ g_=>?_;rcases q with ⟨r₂,m₂,io₂,e2,st2,H2,k2,sm2⟩;refine g_ ?_;clear g_ G_
  exact ⟨(.next,r₂),m₂,io₂,by rw [e2];rfl,st'.trans st2,H2,⟨.next,k2⟩,sm.trans sm2⟩
 ·refine hide fun G_ g_=>?_;rcases hp with ⟨c',m',io',a,g,h1,h2,h3,h4,h5,h6⟩;refine g_ ?_;clear g_ G_
  exact XP.bind (R:=c r m) ⟨c',m',io',a,g,h1,h2,h3.wk (fun y_ q=>nomatch q),h4,h5,h6⟩ .refl (.refl _)
noncomputable def ItP (W:Wd) (A:Around) (h₀:Heap):Heap->Io->List V×Gd->Value->Prop:=fun h io p u=>∃ I wr St,u=.ref I /\ Wk W A I wr p.2 p.1 St /\ St 0 h io /\ ∀ b∈wr,h₀.get? b=none
noncomputable def SiSrc (W:Wd) (A:Around) (fs:List Env) (env:Env) (vis:List (Option Str)) (iter:Expr) (c:Lo->Mn (List V×Gd)):Prop:=
 ∀ (s:Shared) (io:Io) (m:MH) (r:Lo),Sit W fs env vis s io m r->c r m≠.bad->wpAny (model W.prog W.w) A (eval iter env) (fun x s₁=>wpAny (model W.prog W.w) A (pyIter x) (fun it s₂=>NP W [] (frs fs) s io m (ItP W A s.heap) (c r m) it s₂) (XP W [] fs s io m (c r m)) s₁) (XP W [] fs s io m (c r m)) s
theorem eO {h₀:Heap} (st:Step own fr h₀ io₀ m₀ h io m) {b:Addr} (e:h.get? b=none):h₀.get? b=none:=by
 cases q:h₀.get? b with
 | none=>rfl
 | some o=>rcases st.alive b o q with ⟨o',e'⟩;rw [e] at e';injection e'
theorem cD5 {iter:Expr} {c:Lo->Mn V} (ok:WOk W) (hh:A.handled=none) (he:SiE W A fs env vis (eval iter env) c):SiSrc W A fs env vis iter (fun r=>bnd (c r) eX):=by
 intro s io m r Z hne
 refine wpAny_mono (he s io m r Z (Res.bind_ne hne)) (fun u s₁ q=>?_) fun e s₁ q=>q.bind .refl (.refl _)
 refine hide fun G_ g_=>?_;rcases q with ⟨v,m₁,io₁,e1,st,H₁,k,sm⟩;refine g_ ?_;clear g_ G_
 have ee:bnd (c r) eX m=eX v m₁:=by show (c r m).bind _=_;rw [e1];rfl
 dsimp only at hne ⊢
 rw [ee] at hne ⊢
 cases hq:eX v m₁ with
 | bad=>exact absurd hq hne
 | exc c' m'=>unfold eX at hq;split at hq <;> first | injection hq | (split at hq <;> injection hq)
 | ok p m'=>
  rcases cG8 (fs:=fs) (own:=[]) ok hh H₁ k hq with ⟨rfl,key⟩
  refine key _ _ fun I wr St h' tk hw h0 hk hn hg=>?_
  have st2:Step [] (frs fs) s₁.heap io₁ m' h' io₁ m':=.of_keeps H₁ hk
  exact ⟨p,m',io₁,rfl,st.trans st2,H₁.of_keeps hk,⟨I,wr,St,rfl,hw,h0,fun b hb=>eO st (hn b hb)⟩,sm⟩
theorem FR.sideN {wr:List Addr} {h₀:Heap} (F:FR W h io env vis r) (x:Side W wr h₀ h io h') (hL:env.locals∉wr) (hc:∀ y c,env.cells.lookup y=some c->c∉wr):FR W h' io env vis r:=by
 refine hide fun G_ g_=>?_;rcases F.loc with ⟨mp,hn,hl⟩;refine g_ ?_;clear g_ G_
 have sc:∀ y c v,env.cells.lookup y=some c->h.IsCell c v->h'.IsCell c v:=fun y c v hy ⟨o,ho,hd⟩=>⟨o,x.keep _ _ (hc y c hy) ho,hd⟩
 refine ⟨F.kind,F.glob,F.blt,F.nofoot,F.fresh,⟨mp,?_,fun i y v h1 h2 h3=>?_⟩,fun i y v h1 h2 h3=>?_,fun y c hy=>?_,F.celex,F.apart,F.inj,F.len⟩
 ·refine hide fun G_ g_=>?_;rcases hn with ⟨o,es,ep,ho,hd,q⟩;refine g_ ?_;clear g_ G_
  exact ⟨o,es,ep,x.keep _ _ hL ho,hd,q⟩
 ·refine hide fun G_ g_=>?_;rcases hl i y v h1 h2 h3 with ⟨u,e,k⟩;refine g_ ?_;clear g_ G_
  exact ⟨u,e,k.sol x.sol⟩
 ·refine hide fun G_ g_=>?_;rcases F.cel i y v h1 h2 h3 with ⟨c,u,e,k1,k2⟩;refine g_ ?_;clear g_ G_
  exact ⟨c,u,e,sc y c _ e k1,k2.sol x.sol⟩
 ·refine hide fun G_ g_=>?_;rcases F.cells y c hy with ⟨⟨o,k1⟩,k2,k3⟩;refine g_ ?_;clear g_ G_
  exact ⟨⟨o,sc y c _ hy k1⟩,k2,k3⟩
theorem FR.side {wr:List Addr} {h₀:Heap} (F:FR W h io env vis r) (x:Side W wr h₀ h io h') (hL:∃ o,h₀.get? env.locals=some o) (hc:∀ y c,env.cells.lookup y=some c->∃ o,h₀.get? c=some o):FR W h' io env vis r:=by
 have nw:∀ b,(∃ o,h₀.get? b=some o)->b∉wr:=fun b z_ q=>by rcases z_ with ⟨o,e⟩;rw [x.new b q] at e;injection e
 refine hide fun G_ g_=>?_;rcases F.loc with ⟨mp,hn,hl⟩;refine g_ ?_;clear g_ G_
 have sc:∀ y c v,env.cells.lookup y=some c->h.IsCell c v->h'.IsCell c v:=fun y c v hy ⟨o,ho,hd⟩=>⟨o,x.keep _ _ (nw c (hc y c hy)) ho,hd⟩
 refine ⟨F.kind,F.glob,F.blt,F.nofoot,F.fresh,⟨mp,?_,fun i y v h1 h2 h3=>?_⟩,fun i y v h1 h2 h3=>?_,fun y c hy=>?_,F.celex,F.apart,F.inj,F.len⟩
 ·refine hide fun G_ g_=>?_;rcases hn with ⟨o,es,ep,ho,hd,q⟩;refine g_ ?_;clear g_ G_
  exact ⟨o,es,ep,x.keep _ _ (nw _ hL) ho,hd,q⟩
 ·refine hide fun G_ g_=>?_;rcases hl i y v h1 h2 h3 with ⟨u,e,k⟩;refine g_ ?_;clear g_ G_
  exact ⟨u,e,k.sol x.sol⟩
 ·refine hide fun G_ g_=>?_;rcases F.cel i y v h1 h2 h3 with ⟨c,u,e,k1,k2⟩;refine g_ ?_;clear g_ G_
  exact ⟨c,u,e,sc y c _ e k1,k2.sol x.sol⟩
 ·refine hide fun G_ g_=>?_;rcases F.cells y c hy with ⟨⟨o,k1⟩,k2,k3⟩;refine g_ ?_;clear g_ G_
  exact ⟨⟨o,sc y c _ hy k1⟩,k2,k3⟩
theorem dG8 {g:Gd} {step:V->Lo->Mn (Fl×Lo)} {v:V} {vs:List V} {r:Lo} {m:MH} (h:g.stays m=true):aN2 g step (v::vs) r m=(step v r m).bind (fun p=>match p.1 with | .ret x=>ret (.ret x,p.2) | _=>aN2 g step vs p.2):=if_pos h
theorem dG7 {g:Gd} {step:V->Lo->Mn (Fl×Lo)} {r:Lo} {m:MH} (h:g.stays m=true):aN2 g step [] r m=.ok (.next,r) m:=if_pos h
theorem aN1 {g:Gd} {step:V->Lo->Mn (Fl×Lo)} {vs:List V} (h:aN2 g step vs r m≠.bad):g.stays m=true:=by
 cases q:g.stays m with
 | true=>rfl
 | false=>
  have z:¬ g.stays m=true:=by rw [q];exact Bool.false_ne_true
  cases vs with
  | nil=>exact absurd (if_neg z) h
  | cons y_ y_=>exact absurd (if_neg z) h
inductive FInv (W:Wd) (fs:List Env) (env:Env) (vis:List (Option Str)) (s:Shared) (io:Io) (m:MH) (St:Nat->Heap->Io->Prop) (g:Gd) (f:V->Lo->Mn (Fl×Lo)) (vs:List V) (R:Res (Fl×Lo)) (k:Nat) (s':Shared):Prop
 | mk (i:Nat) (r':Lo) (io':Io) (m':MH):k=vs.length - i->i <= vs.length->Step (bN env) (frs (env::fs)) s.heap io m s'.heap io' m'->HR W s'.heap io' m'->FR W s'.heap io' env vis r'->St i s'.heap io'->Same s s'->aN2 g f (vs.drop i) r' m'=R->FInv W fs env vis s io m St g f vs R k s'
structure WkF (W:Wd) (A:Around) (I:Addr) (wr:List Addr) (g:Gd) (vs:List V) (St:Nat->Heap->Io->Prop) (tg:Expr):Prop where
 soft:∀ {i:Nat} {h:Heap} {io:Io},St i h io->∀ b∈wr,¬ dJ io b /\ ∀ o,h.get? b=some o->¬ cX o
 stay:∀ {i:Nat} {h h':Heap} {io io':Io} {m m':MH} {own fr:List Addr},St i h io->HR W h io m->HR W h' io' m'->Step own fr h io m h' io' m'->(∀ b∈wr,b∉own /\ b∉fr)->g.stays m=true->g.stays m'=true->St i h' io'
 next:∀ {i:Nat} {s:Shared} {io:Io} {m:MH} {v:V} {Q:Option Value->Shared->Prop} {E:Value->Shared->Prop},vs[i]?=some v->St i s.heap io->HR W s.heap io m->g.stays m=true ->
  (∀ u h₁ tk,(∀ {Q':Unit->Shared->Prop} {E':Value->Shared->Prop},(∀ h₂,VR W h₂ io v u->St (i+1) h₂ io->(∀ b o,b∉wr->s.heap.get? b=some o->h₂.get? b=some o)->Q' () { s with heap:=h₂,toks:=tk })->wpAny (model W.prog W.w) A (letOwnedTupleGo tg (.ref I) u) Q' E' { s with heap:=h₁,toks:=tk })->Q (some u) { s with heap:=h₁,toks:=tk })->wpAny (model W.prog W.w) A (pyNext (.ref I)) Q E s
 done:∀ {s:Shared} {io:Io} {m:MH} {Q:Option Value->Shared->Prop} {E:Value->Shared->Prop},St vs.length s.heap io->HR W s.heap io m->g.stays m=true ->
  (∀ h' tk,(∀ b o,b∉wr->s.heap.get? b=some o->h'.get? b=some o)->Q none { s with heap:=h',toks:=tk })->wpAny (model W.prog W.w) A (pyNext (.ref I)) Q E s
theorem Wk.forF {I:Addr} {wr:List Addr} {g:Gd} {vs:List V} {St:Nat->Heap->Io->Prop} {tg:Expr} (hw:Wk W A I wr g vs St):WkF W A I wr g vs St tg where
 soft:=hw.soft
 stay:=hw.stay
 next:=fun {i s io m v Q E} hv hst H hg hQ=>hw.item hv hst H hg fun u h₁ tk ku hst₁ kk=>hQ u h₁ tk fun k=>hw.lot (s:={ s with heap:=h₁,toks:=tk }) hst₁ fun h₂ hst₂ kk₂=>by
  have kk':∀ b o,b∉wr->s.heap.get? b=some o->h₂.get? b=some o:=fun b o hb e=>kk₂ b o hb (kk b o hb e)
  exact k h₂ (ku.sol fun b o e so=>kk' b o (fun q=>(hw.soft hst b q).2 o e so) e) hst₂ kk'
 done:=hw.done
noncomputable def ItF (W:Wd) (A:Around) (tg:Expr) (h₀:Heap):Heap->Io->List V×Gd->Value->Prop:=fun h io p u=>∃ I wr St,u=.ref I /\ WkF W A I wr p.2 p.1 St tg /\ St 0 h io /\ ∀ b∈wr,h₀.get? b=none
noncomputable def bL7 (W:Wd) (A:Around) (fs:List Env) (env:Env) (vis:List (Option Str)) (tg iter:Expr) (c:Lo->Mn (List V×Gd)):Prop:=
 ∀ (s:Shared) (io:Io) (m:MH) (r:Lo),Sit W fs env vis s io m r->c r m≠.bad->wpAny (model W.prog W.w) A (eval iter env) (fun x s₁=>wpAny (model W.prog W.w) A (pyIter x) (fun it s₂=>NP W [] (frs fs) s io m (ItF W A tg s.heap) (c r m) it s₂) (XP W [] fs s io m (c r m)) s₁) (XP W [] fs s io m (c r m)) s
theorem SiSrc.forF {iter tg:Expr} {c:Lo->Mn (List V×Gd)} (h:SiSrc W A fs env vis iter c):bL7 W A fs env vis tg iter c:=fun s io m r Z hne=>by
 refine wpAny_mono (h s io m r Z hne) (fun x s₁ q=>wpAny_mono q (fun it s₂ q=>?_) fun y_ y_ q=>q) fun y_ y_ q=>q
 rcases q with ⟨p,m₂,io₂,e2,st₂,H₂,⟨I,wr,St,e,hw,h0,hnew⟩,sm₂⟩
 exact ⟨p,m₂,io₂,e2,st₂,H₂,⟨I,wr,St,e,hw.forF,h0,hnew⟩,sm₂⟩
theorem dA4 (hA:A.frames=some (env::fs)) {target iter:Expr} {body:List Stmt} {c:Lo->Mn (List V×Gd)} {ca:V->Lo->Mn Lo} {cb:Lo->Mn (Fl×Lo)} (hsrc:bL7 W A (env::fs) env vis target iter c) (ha:SiA W A fs env vis target ca) (hb:SiS W A fs env vis (execs body env) cb) (hf:∀ x,foldedSetIterable iter env x=Pure.pure x) :
  SiS W A fs env vis (exec (.For target iter body [] pos) env) (fun r=>bnd (c r) fun p=>aN2 p.2 (fun v r'=>bnd (ca v r') fun r''=>cb r'') p.1 r):=by
 intro s io m r Z hne
 refine wpAny_For (wpAny_mono (hsrc s io m r Z.sit (Res.bind_ne hne)) (fun x s₁ q=>wpAny_mono q (fun it s₂ q=>?_) fun e s₁ q=>?_) fun e s₁ q=>?_) hf
 rotate_left
 ·refine hide fun G_ g_=>?_;rcases q with ⟨c',m',io',a,g,h1,h2,h3,h4,h5,h6⟩;refine g_ ?_;clear g_ G_
  exact XP.bind (R:=c r m) ⟨c',m',io',a,g,h1,h2,h3.wk (fun y_ q=>nomatch q),h4,h5,h6⟩ .refl (.refl _)
 ·refine hide fun G_ g_=>?_;rcases q with ⟨c',m',io',a,g,h1,h2,h3,h4,h5,h6⟩;refine g_ ?_;clear g_ G_
  exact XP.bind (R:=c r m) ⟨c',m',io',a,g,h1,h2,h3.wk (fun y_ q=>nomatch q),h4,h5,h6⟩ .refl (.refl _)
 refine hide fun G_ g_=>?_;rcases q with ⟨⟨vs,g⟩,m₂,io₂,e2,st₂,H₂,⟨I,wr,St,rfl,hw,h0,hnew⟩,sm₂⟩;refine g_ ?_;clear g_ G_
 have ee:bnd (c r) (fun p=>aN2 p.2 (fun v r'=>bnd (ca v r') fun r''=>cb r'') p.1 r) m=aN2 g (fun v r'=>bnd (ca v r') fun r''=>cb r'') vs r m₂:=by show (c r m).bind _=_;rw [e2];rfl
 dsimp only at hne ⊢
 rw [ee] at hne ⊢
 have hL:∃ o,s.heap.get? env.locals=some o:=by rcases Z.F.loc with ⟨y_,⟨o,y_,y_,ho,y_⟩,y_⟩;exact ⟨o,ho⟩
 have hC:∀ y c,env.cells.lookup y=some c->∃ o,s.heap.get? c=some o:=fun y c hy=>by rcases Z.F.cells y c hy with ⟨⟨y_,o,ho,y_⟩,y_⟩;exact ⟨o,ho⟩
 have hOwn:∀ b∈bN env,∃ o,s.heap.get? b=some o:=fun b hb=>by
  rcases List.mem_cons.mp hb with rfl | hb
  ·exact hL
  ·refine hide fun G_ g_=>?_;rcases List.mem_filterMap.mp hb with ⟨⟨y,c'⟩,hm,hq⟩;refine g_ ?_;clear g_ G_
   exact hC y b hq
 have hFr:∀ b∈frs (env::fs),∃ o,s.heap.get? b=some o:=fun b hb=>by
  refine hide fun G_ g_=>?_
  rcases List.mem_filterMap.mp hb with ⟨e,he,hf⟩
  rcases Z.sit.G e he with ⟨y_,L,o,y_,y_,h1,y_,y_,h4,y_⟩
  refine g_ ?_
  clear g_ G_
  rw [h1] at hf;(refine aF hf fun z1=>?_;clear hf;subst z1);exact ⟨o,h4⟩
 have hwr:∀ b∈wr,b∉bN env /\ b∉frs (env::fs):=fun b hb=>⟨fun q=>(by rcases hOwn b q with ⟨o,e⟩;rw [hnew b hb] at e;injection e),fun q=>(by rcases hFr b q with ⟨o,e⟩;rw [hnew b hb] at e;injection e)⟩
 have hbase:∀ b o,W.base.get? b=some o->s.heap.get? b=some o:=Z.H.keep
 refine codeAny_forLoop_any (I:=FInv W fs env vis s io m St g (fun v r'=>bnd (ca v r') fun r''=>cb r'') vs (aN2 g (fun v r'=>bnd (ca v r') fun r''=>cb r'') vs r m₂)) (fun k s' hI=>?_) vs.length ⟨0,r,io₂,m₂,by simp,Nat.zero_le _,st₂.wk (fun y_ q=>nomatch q),H₂,Z.F.step0 Z.H st₂,h0,sm₂,by simp⟩
 refine hide fun G_ g_=>?_;rcases hI with ⟨i,r',io',m',hk,hi,st,H,F,hst,sm,he⟩;refine g_ ?_;clear g_ G_
 have hne':aN2 g (fun v r'=>bnd (ca v r') fun r''=>cb r'') (vs.drop i) r' m'≠.bad:=by rw [he];exact hne
 have hg:=aN1 hne'
 have sft:=hw.soft hst
 by_cases hlt:i < vs.length
 ·have hv:vs[i]?=some vs[i]:=List.getElem?_eq_getElem hlt
  have hd:vs.drop i=vs[i]::vs.drop (i+1):=List.drop_eq_getElem_cons hlt
  refine hw.next hv hst H hg fun u h₁ tk hgo=>hgo fun h₂ ku2 hst₂ kk=>?_
  have sd:Side W wr s.heap s'.heap io' h₂:=⟨kk,hnew,fun b hb=>(sft b hb).1,fun b hb=>(sft b hb).2⟩
  have H2:=sd.hr H hbase
  have st2:=sd.step H st
  have F2:=F.side sd hL hC
  have Z2:Stt W fs env vis { s' with heap:=h₂,toks:=tk } io' m' r':=⟨H2,F2,Z.G.step st2 Z.dis,Z.fr,Z.dis⟩
  rw [hd] at he hne'
  rw [dG8 hg] at he hne'
  have hne1:ca vs[i] r' m'≠.bad:=fun q=>hne' (by show ((ca vs[i] r' m').bind cb).bind _=_;rw [q];rfl)
  refine wpAny_mono (ha _ io' m' r' vs[i] u Z2 ku2 hne1) (fun y_ s₃ q=>?_) fun e s₃ q=>?_
  rotate_left
  ·rw [<- he]
   exact aM4 hA Z.fr ((q.bind (f:=cb) .refl (.refl _)).bind st2 (sm.trans ⟨rfl,rfl⟩))
  refine hide fun G_ g_=>?_;rcases q with ⟨r₃,m₃,io₃,e3,st3,H3,F3,sm3⟩;refine g_ ?_;clear g_ G_
  have st3':=st2.trans st3
  have Z3:Stt W fs env vis s₃ io₃ m₃ r₃:=⟨H3,F3,Z.G.step st3' Z.dis,Z.fr,Z.dis⟩
  have e4:bnd (ca vs[i] r') (fun r''=>cb r'') m'=cb r₃ m₃:=by show (ca vs[i] r' m').bind _=_;rw [e3];rfl
  rw [e4] at he hne'
  have hne2:cb r₃ m₃≠.bad:=fun q=>hne' (by rw [q];rfl)
  refine wpAny_mono (hb s₃ io₃ m₃ r₃ Z3 hne2) (fun f s₄ q=>?_) fun e s₄ q=>?_
  rotate_left
  ·rw [<- he]
   exact aM4 hA Z.fr (q.bind st3' (sm.trans (Same.trans ⟨rfl,rfl⟩ sm3)))
  refine hide fun G_ g_=>?_;rcases q with ⟨⟨fl,r₄⟩,m₄,io₄,e5,st4,H4,⟨kf,F4⟩,sm4⟩;refine g_ ?_;clear g_ G_
  rw [e5] at he hne'
  have st4':=st3'.trans st4
  have go:aN2 g (fun v r'=>bnd (ca v r') fun r''=>cb r'') (vs.drop (i+1)) r₄ m₄=aN2 g (fun v r'=>bnd (ca v r') fun r''=>cb r'') vs r m₂->∃ k',k' < k /\ FInv W fs env vis s io m St g (fun v r'=>bnd (ca v r') fun r''=>cb r'') vs (aN2 g (fun v r'=>bnd (ca v r') fun r''=>cb r'') vs r m₂) k' s₄:=fun q=>by
   have hg4:g.stays m₄=true:=aN1 (by rw [q];exact hne)
   exact ⟨vs.length - (i+1),hk▸Nat.sub_succ_lt_self _ _ hlt,i+1,r₄,io₄,m₄,rfl,hlt,st4',H4,F4,hw.stay hst₂ H2 H4 (st3.trans st4) hwr hg hg4,sm.trans (Same.trans ⟨rfl,rfl⟩ (sm3.trans sm4)),q⟩
  cases kf with
  | next=>exact go he
  | cont=>exact go he
  | ret kv=>exact ⟨_,m₄,io₄,he.symm,st4',H4,⟨.ret kv,F4⟩,sm.trans (Same.trans ⟨rfl,rfl⟩ (sm3.trans sm4))⟩
 ·have hi':i=vs.length:=by lia
  subst hi'
  refine hw.done hst H hg fun h₁ tk kk=>?_
  have sd:Side W wr s.heap s'.heap io' h₁:=⟨kk,hnew,fun b hb=>(sft b hb).1,fun b hb=>(sft b hb).2⟩
  rw [List.drop_length] at he
  rw [dG7 hg] at he
  exact wpAny_execs_nil ⟨_,m',io',he.symm,sd.step H st,sd.hr H hbase,⟨.next,F.side sd hL hC⟩,sm.trans ⟨rfl,rfl⟩⟩
end
end Mini.Internal
namespace Mini.Internal
open PySem PySem.W
section
variable {W:Wd} {fs:List Env} {env:Env} {vis:List (Option Str)} {s s':Shared} {io io':Io} {m m':MH} {r r':Lo} {A:Around} {n:Nat} {pos p:Pos}
noncomputable def Tgs (env:Env) (vis:List (Option Str)):List Nat->List Expr->Prop
 | [],es=>es=[]
 | i::is,es=>∃ x p es',es=.Name x p::es' /\ vis[i]?=some (some x) /\ (env.kindOf x=some .local \/ env.kindOf x=some .cell) /\ Tgs env vis is es'
theorem Tgs.len:∀ {is:List Nat} {es:List Expr},Tgs env vis is es->(assignEach es env).length=is.length /\ (assignEach es env).findIdx? (·.1)=none
 | [],_,h=>by subst h;exact ⟨rfl,rfl⟩
 | i::is,_,z=>by
  rcases z with ⟨x,p,es',e,y_,y_,t⟩
  subst e
  rcases t.len with ⟨h1,h2⟩
  have e:assignEach (.Name x p::es') env=(false,assign (.Name x p) env)::assignEach es' env:=rfl
  rw [e,List.findIdx?_cons,h2]
  exact ⟨by simp [h1],rfl⟩
theorem aA1:∀ {is:List Nat} {vs:List V} {r r':Lo},cG is vs r=some r'->is.length=vs.length
 | [],[],_,_,_=>rfl
 | [],_::_,_,_,h=>by injection h
 | _::_,[],_,_,h=>by injection h
 | i::is,v::vs,r,r',h=>congrArg Nat.succ (aA1 (show cG is vs (r.set i (some v))=some r' from h))
theorem bT9:∀ {is:List Nat} {elts:List Expr},Tgs env vis is elts->∀ {vs:List V} {us:List Value} {s:Shared} {io:Io} {m:MH} {r:Lo},Stt W fs env vis s io m r->VRs W s.heap io vs us ->
  Si W (bN env) A (env::fs) (RP W env vis) (assignInOrder ((assignEach elts env).map (·.2)) us) s io m (ofO (cG is vs r) m)
 | [],_,h,vs,us,s,io,m,r,Z,k=>by
  subst h
  induction k using VRs.elim with
  | nil=>exact Si.pure (P:=RP W env vis) Z.H Z.F
  | cons y_ y_=>exact Si.bad
 | i::is,_,z,vs,us,s,io,m,r,Z,k=>by
  rcases z with ⟨x,p,es',e,hv,hk,t⟩
  subst e
  induction k using VRs.elim with
  | nil=>exact Si.bad
  | @cons v u vs us k1 k2=>
   refine Si.bind (R:=(.ok (r.set i (some v)) m:Res Lo)) (f:=fun r' m'=>ofO (cG is vs r') m') (.holding (aX7 (pos:=p) hv hk _ _ _ _ _ _ Z k1)) fun y_ s₁ io₁ m₁ r₁ e st H kF sm=>?_
   (refine aC5 e fun z1 z2=>?_;clear e;subst z1;subst z2)
   exact bT9 t (Z.stepO H st kF) (k2.step st)
theorem cO4 (hh:A.handled=none) {is:List Nat} {elts:List Expr} {x1:Nat} (ht:Tgs env vis is elts):SiA W A fs env vis (.Tuple elts x1 pos) (fun v r=>aH5 (.many is) v r):=by
 intro s io m r v u Z k
 induction k using VR.elim with
 | @tup a vs c xs h1 h4=>
  show Si W (bN env) A (env::fs) (RP W env vis) _ s io m (ofO (cG is xs r) m)
  intro hne
  have hl:is.length=xs.length:=by
   cases q:cG is xs r with
   | none=>rw [q] at hne;exact absurd rfl hne
   | some r'=>exact aA1 q
  refine wpAny_assign_Tuple hh ⟨_,h1,rfl,c,rfl⟩ (by rw [ht.len.1,hl];have:=h4.length;simpa using this.symm) ht.len.2 fun h' hx=>?_
  have hk:∀ b o,s.heap.get? b=some o->h'.get? b=some o:=fun b o e=>hx b o (fun q=>by rw [q,aZ] at e;injection e) e
  have st:Step (bN env) (frs (env::fs)) s.heap io m h' io m:=.of_keeps Z.H hk
  have st0:Step [] (frs (env::fs)) s.heap io m h' io m:=.of_keeps Z.H hk
  have Z':Stt W fs env vis { s with heap:=h' } io m r:=Z.step (Z.H.of_keeps hk) st0
  exact wpAny_mono (bT9 ht Z' (h4.step st) hne) (fun y_ y_ z=>z.mono st ⟨rfl,rfl⟩) fun y_ y_ z=>z.mono st ⟨rfl,rfl⟩
 | _=>exact Si.bad
end
end Mini.Internal
namespace Mini.Internal
open PySem PySem.W PyProof.Rows
noncomputable def SiQ (W:Wd) (A:Around) (fs:List Env) (env:Env) (vis:List (Option Str)) (t:Sem Flow) (c:Lo->Mn (Fl×Lo)):Prop:=
 ∀ (s:Shared) (io:Io) (m:MH) (r:Lo),Stt W fs env vis s io m r->Si W [] A (env::fs) (SP W env vis) t s io m (c r m)
section
variable {W:Wd} {K:Frag} {h h' h₀:Heap} {fs l:List Env} {env:Env} {vis:List (Option Str)} {s s':Shared} {io io':Io} {m m':MH} {r r':Lo} {own:List Addr} {A:Around} {n:Nat} {pos p:Pos}
theorem XP.wk {α:Type} {R:Res α} {e:Value} {own':List Addr} (x:XP W own l s io m R e s') (k:∀ b∈own,b∈own'):XP W own' l s io m R e s':=by
 refine hide fun G_ g_=>?_;rcases x with ⟨c,m',io',a,g,h1,h2,h3,h4,h5,h6⟩;refine g_ ?_;clear g_ G_
 exact ⟨c,m',io',a,g,h1,h2,h3.wk k,h4,h5,h6⟩
theorem cN0 {b:Addr} (F:FF W h io l) (hb:b∈frs l):∃ o es n,¬ dJ io b /\ h.get? b=some o /\ o.data=.dict es n:=by
 refine hide fun G_ g_=>?_
 rcases List.mem_filterMap.mp hb with ⟨e,he,hf⟩
 rcases F e he with ⟨y_,L,o,es,n,h1,y_,h3,h4,h5⟩
 refine g_ ?_
 clear g_ G_
 rw [h1] at hf;(refine aF hf fun z1=>?_;clear hf;subst z1)
 exact ⟨o,es,n,h3,h4,h5⟩
theorem land {g B h6:Heap} (G0:FF W h io l) (st:Step [] (frs l) h io m g io' m') (Hg:HR W g io' m') (kp:Kp W h io' l g B) (fl:B.StaysIn h6) (up:g.UpToSlots h6) :
  Step [] (frs l) h io m h6 io' m' /\ HR W h6 io' m':=by
 have get:∀ b o,g.get? b=some o->(dJ io' b \/ cX o \/ W.base.get? b=some o \/ ((∃ o',h.get? b=some o') /\ b∉frs l))->h6.get? b=some o:=fun b o e q=>fl b o (kp b o e q)
 have frm:∀ b,b∈frs l->∀ o,h.get? b=some o->∃ sl,h6.get? b=some { o with slots:=sl }:=fun b hb o ho=>by
  refine hide fun G_ g_=>?_;rcases cN0 G0 hb with ⟨o1,es,n,h1,h2,h3⟩;refine g_ ?_;clear g_ G_
  rw [ho] at h2;(refine aF h2 fun z1=>?_;clear h2;subst z1)
  rcases st.slots b o ho h1 (fun q=>nomatch q) with ⟨sl,e1⟩
  rcases up b _ e1 (fun vs q=>by rw [show ({ o with slots:=sl }:Obj).data=o.data from rfl,h3] at q;injection q) with ⟨sl2,e2⟩
  exact ⟨sl2,e2⟩
 have ft:∀ b o,dJ io' b->g.get? b=some o->h6.get? b=some o:=fun b o f e=>get b o e (.inl f)
 refine ⟨⟨fun b o e=>?_,fun b o e so=>get b o (st.solid b o e so) (.inr (.inl so)),fun b o e f1 f2 f3=>get b o (st.keep b o e f1 f2 f3) (.inr (.inr (.inr ⟨⟨o,e⟩,f3⟩))),fun b o e f1 f2=>?_,st.grow,fun n p kvs e hi hm=>?_⟩,?_⟩
 ·by_cases hb:b∈frs l
  ·rcases frm b hb o e with ⟨sl,q⟩;exact ⟨_,q⟩
  ·rcases st.alive b o e with ⟨o',q⟩;exact ⟨o',get b o' q (.inr (.inr (.inr ⟨⟨o,e⟩,hb⟩)))⟩
 ·by_cases hb:b∈frs l
  ·exact frm b hb o e
  ·rcases st.slots b o e f1 f2 with ⟨sl,q⟩;exact ⟨sl,get b _ q (.inr (.inr (.inr ⟨⟨o,e⟩,hb⟩)))⟩
 ·refine hide fun G_ g_=>?_;rcases st.dicts n p kvs e hi hm with ⟨k1,e1,h1,h2,h3⟩;refine g_ ?_;clear g_ G_
  refine ⟨k1,e1,h1,h2,fun q=>⟨?_,(h3 q).2⟩⟩
  rcases Hg.there (st.io_get hi) with ⟨o,ho⟩
  rw [<- (h3 q).1,ho]
  exact ft _ _ ⟨p,List.mem_of_getElem? (st.io_get hi),.inl rfl⟩ ho
 ·refine ⟨fun b o e=>get b o (Hg.keep b o e) (.inr (.inr (.inl e))),Hg.len,fun n p o hi hm=>?_,Hg.fresh,Hg.apart⟩
  exact (Hg.obj n p o hi hm).sol (fun b o e so=>get b o e (.inr (.inl so))) (fun o e=>ft _ o ⟨p,List.mem_of_getElem? hi,.inl rfl⟩ e) (fun o e=>ft _ o ⟨p,List.mem_of_getElem? hi,.inr rfl⟩ e)
theorem cP4 {x:Str} {c:Nat} {args:List Expr} {np cpos:Pos} {cl:Lo->Mn (List V)} {mg mb:Str->Option Value} {pp:Program} {loose:List Str} {bmB bmN:List Value} {Bn B newId nid initId inN:String} (gl:Gl W K) (hh:A.handled=none)
  (Fn:ExcBaseFacts Bn newId inN bmN) (hBn:bmB.contains (.type Bn)=true) (F:ExcBaseFacts B nid initId bmB) (hbase:bmB.contains (.type "BaseException")=true)
  (T:TopRead pp loose mg mb W.base) (e:nsIn K mainGlobals x=some (some (.ref (W.ca c)))) (hq:excIn K (W.ca c) bmB newId=true) (hx:env.kindOf x=some .globalImplicit) (hd:(x == ("__debug__":Str))=false) (hs:bE args=true)
  (hl:SiL W A (env::fs) env vis (spliced (backTo cpos (starEach args env))) cl) (hn:∀ r m vs m',cl r m=.ok vs m'->vs.length <= lid) :
  SiS W A fs env vis (exec (.Raise (some (.Call (.Name x np) args [] cpos)) none pos) env) (fun r=>bnd (cl r) fun y_ m=>.exc c m):=by
 intro s io m r Z hne
 have OW:=own_of_in gl.X T e hq
 refine hide fun G_ g_=>?_;rcases OW.obj with ⟨bm,N,nm,qn,bs,hdct,sn,sub,ab,col,dd,k0,k1,k2,k3,k5,mN,hC,hN,hni,TL0⟩;refine g_ ?_;clear g_ G_
 refine wpAny_Raise_call_subU Fn hBn F (mN:=mN) (bm:=bm) (N:=N) (nm:=nm) (q:=qn) (bs:=bs) (hdct:=hdct) (sn:=sn) (sub:=sub) (ab:=ab) (col:=col) (dd:=dd) (k0:=k0) (k1:=k1) (k2:=k2) (k3:=k3) (k5:=k5) (TL0.hasType hbase) hh (eE hs) hni (aM7 gl Z.sit e hx hd ⟨rfl,eR hs ?_⟩)
 refine wpAny_mono (hl s io m r Z.sit (Res.bind_ne hne)) (fun us s' q=>?_) fun y_ y_ q=>(q.bind .refl (.refl _)).wk fun y_ q=>nomatch q
 refine hide fun G_ g_=>?_;rcases q with ⟨vs,m',io',e',st,H,kv,sm⟩;refine g_ ?_;clear g_ G_
 have hlen:us.length <= sizeLine:=by rw [kv.length];exact aR (hn r m vs m' e')
 have ee:bnd (cl r) (fun y_ m=>.exc c m) m=(.exc c m':Res (Fl×Lo)):=by show (cl r m).bind _=_;rw [e'];rfl
 refine ⟨rfl,hlen,H.keep _ _ hC,?_,TL0.keeps H.keep,fun h' e0 hm=>?_⟩
 ·rcases hN with ⟨o,es,ep,ho,r⟩;exact ⟨o,es,ep,H.keep _ _ ho,r⟩
 dsimp only
 rw [ee]
 have G':FF W s'.heap io' (env::fs):=Z.sit.G.step0 st
 have hin:∀ e∈env::fs,∀ b,e.frame=some b->b∈frs (env::fs):=fun e he b hb=>List.mem_filterMap.mpr ⟨e,he,hb⟩
 refine ⟨c,m',io',e0,s'.heap,rfl,rfl,st.wk (fun y_ q=>nomatch q),H,⟨hideAll s'.heap (frs (env::fs)),fun b o q hk=>?_,.inr (.inr ⟨us,fun b o q=>of_hideAll _ q,funFrames_hide G'.funFrames hin,hm⟩)⟩,sm⟩
 refine hideAll_get _ q fun hb=>?_
 refine hide fun G_ g_=>?_;rcases cN0 G' hb with ⟨o1,es,n,h1,h2,h3⟩;refine g_ ?_;clear g_ G_
 rw [q] at h2;(refine aF h2 fun z1=>?_;clear h2;subst z1)
 rcases hk with hk | hk | hk | hk
 ·exact h1 hk
 ·rcases hk with ⟨_,vs,n,hv⟩ | ⟨C,vs,_,hv⟩
  ·rw [h3] at hv;injection hv
  ·rw [h3] at hv;injection hv
 ·refine hide fun G_ g_=>?_
  rcases List.mem_filterMap.mp hb with ⟨e1,he,hf⟩
  rcases G' e1 he with ⟨y_,L,y_,y_,y_,f1,f2,y_⟩
  refine g_ ?_
  clear g_ G_
  rw [f1] at hf;(refine aF hf fun z1=>?_;clear hf;subst z1)
  rw [f2] at hk;injection hk
 ·exact hk.2 hb
theorem q_nil:SiQ W A fs env vis (execs [] env) (fun r=>ret (.next,r)):=fun y_ y_ y_ y_ Z=>.pure (u:=Flow.next) Z.H ⟨.next,Z.F⟩
theorem dD5 {st:Stmt} {rest:List Stmt} {c1 c2:Lo->Mn (Fl×Lo)} (h1:SiQ W A fs env vis (exec st env) c1) (h2:SiQ W A fs env vis (execs rest env) c2) :
  SiQ W A fs env vis (execs (st::rest) env) (fun r=>bnd (c1 r) fun p=>match p.1 with | .next=>c2 p.2 | f=>ret (f,p.2)):=by
 intro s io m r Z
 rw [execs_cons]
 refine Si.bind (h1 s io m r Z) fun f s₁ io₁ m₁ p y_ st H₁ k sm=>?_
 rcases p with ⟨q,r₁⟩
 rcases k with ⟨kf,kF⟩
 cases kf with
 | next=>exact h2 _ _ _ _ (Z.stepO H₁ (st.wk fun y_ q=>nomatch q) kF)
 | cont=>exact .pure H₁ ⟨.cont,kF⟩
 | ret kv=>exact .pure H₁ ⟨.ret kv,kF⟩
theorem q_ret {e:Expr} {c:Lo->Mn V} (he:SiE W A (env::fs) env vis (eval e env) c):SiQ W A fs env vis (exec (.Return (some e) pos) env) (fun r=>bnd (c r) fun v=>ret (.ret v,r)):=by
 intro s io m r Z
 rw [exec_Return_some]
 refine .standAt (Si.bindE (he s io m r Z.sit) fun u s₁ io₁ m₁ v y_ st H₁ k sm=>?_)
 exact .pure H₁ ⟨.ret k,Z.F.step0 Z.H st⟩
theorem q_if {test:Expr} {body orelse:List Stmt} {ct:Lo->Mn Bool} {ca cb:Lo->Mn (Fl×Lo)} (ht:SiB W A (env::fs) env vis (isTrue test env (eval test env)) ct) (ha:SiQ W A fs env vis (execs body env) ca) (hb:SiQ W A fs env vis (execs orelse env) cb) :
  SiQ W A fs env vis (exec (.If test body orelse pos) env) (fun r=>bnd (ct r) fun t=>if t then ca r else cb r):=by
 intro s io m r Z
 rw [exec_If]
 refine .standAt (Si.bindE (ht s io m r Z.sit) fun u s₁ io₁ m₁ v y_ st H₁ k sm=>?_)
 subst k
 cases (v)
 ·exact hb _ _ _ r (Z.step H₁ st)
 ·exact ha _ _ _ r (Z.step H₁ st)
theorem q_exp {e:Expr} {c:Lo->Mn V} (hs:swapsWith e none pos.line env=Pure.pure false) (he:SiE W A (env::fs) env vis (eval e env) c):SiQ W A fs env vis (exec (.Expr e pos) env) (fun r=>bnd (c r) fun y_=>ret (.next,r)):=by
 intro s io m r Z
 rw [exec_Expr env e pos (by unfold interactive;rw [Z.F.kind];rfl) hs]
 refine .standAt (Si.bindE (he s io m r Z.sit) fun u s₁ io₁ m₁ v y_ st H₁ k sm=>?_)
 exact fun y_=>wpAny_dropValue ⟨_,m₁,io₁,rfl,.refl,H₁,⟨.next,Z.F.step0 Z.H st⟩,.refl _⟩
theorem bT8 {i:Nat} {x:Str} {k:Pos} (Z:Stt W fs env vis s io m r) (hv:vis[i]?=some (some x)) (hk:env.kindOf x=some .local) :
  Si W (bN env) A (env::fs) (RP W env vis) (do bindName env x .none;unbindBehindTheSuite env x k) s io m (.ok (r.set i none) m):=by
 intro y_
 have hi:i < vis.length:=(List.getElem?_eq_some_iff.mp hv).1
 have F:=Z.F
 have row:∀ (j:Nat) (y:Str) (w:V),vis[j]?=some (some y)->(r.set i none)[j]?=some (some w)->y≠x /\ r[j]?=some (some w):=by
  intro j y w h1 h2
  by_cases q:i=j
  ·subst q
   rw [List.getElem?_set_self (by rw [F.len];exact hi)] at h2
   (refine aF h2 fun z1=>?_;clear h2;(first | (injection z1;done) | subst z1 | cases (z1)))
  ·rw [List.getElem?_set_ne q] at h2
   exact ⟨fun e=>q (F.inj i j x hv (e▸h1)),h2⟩
 refine hide fun G_ g_=>?_
 rcases F.loc with ⟨mp,hn,hl⟩
 rcases id hn with ⟨oL,esL,epL,hoL,hdL,y_⟩
 refine g_ ?_
 clear g_ G_
 refine wpAny_nameGoes_keeps hk hn (by rw [F.kind];rfl) fun h' v' hn' hs=>?_
 have kk:∀ b o,b≠env.locals->s.heap.get? b=some o->h'.get? b=some o:=fun b o q e=>(hs.2 b q).trans e
 have lv:∀ o,s.heap.get? env.locals=some o->¬ cX o /\ ∃ o',h'.get? env.locals=some o':=fun o ho=>by
  rw [hoL] at ho;(refine aF ho fun z1=>?_;clear ho;subst z1)
  refine hide fun G_ g_=>?_;rcases id hn' with ⟨o',y_,y_,ho',y_⟩;refine g_ ?_;clear g_ G_
  exact ⟨cQ hdL,o',ho'⟩
 have st:Step (bN env) (frs (env::fs)) s.heap io m h' io m:=fN Z.H (L:=env.locals) (by simp [bN]) kk lv F.nofoot
 have H':HR W h' io m:=Z.H.ofOwn (own:=bN env) (L:=env.locals) (by simp [bN]) kk lv F.nofoot F.fresh
 refine ⟨_,m,io,rfl,st,H',?_,rfl,rfl⟩
 refine ⟨F.kind,F.glob,F.blt,F.nofoot,F.fresh,⟨_,hn',fun j y w h1 h2 h3=>?_⟩,fun j y w h1 h2 h3=>?_,fun y c hy=>?_,F.celex,F.apart,F.inj,by simp [F.len]⟩
 ·rcases row j y w h1 h2 with ⟨q,h2⟩
  refine hide fun G_ g_=>?_;rcases hl j y w h1 h2 h3 with ⟨u',e,k'⟩;refine g_ ?_;clear g_ G_
  exact ⟨u',by simp [q,e],k'.step st⟩
 ·rcases row j y w h1 h2 with ⟨q,h2⟩
  refine hide fun G_ g_=>?_;rcases F.cel j y w h1 h2 h3 with ⟨c,u',e,k1,k2⟩;refine g_ ?_;clear g_ G_
  refine ⟨c,u',e,?_,k2.step st⟩
  refine hide fun G_ g_=>?_;rcases k1 with ⟨oc,hoc,hdc⟩;refine g_ ?_;clear g_ G_
  exact ⟨oc,kk c oc (F.cells y c e).2.2 hoc,hdc⟩
 ·refine hide fun G_ g_=>?_;rcases F.cells y c hy with ⟨⟨o,oc,hoc,hdc⟩,k2,k3⟩;refine g_ ?_;clear g_ G_
  exact ⟨⟨o,oc,kk c oc k3 hoc,hdc⟩,k2,k3⟩
noncomputable def NmOk (env:Env) (vis:List (Option Str)):Option Str->Option Nat->Prop
 | none,none=>True
 | some x,some i=>vis[i]?=some (some x) /\ env.kindOf x=some .local
 | _,_=>False
theorem x_try {S:Sig} {x:Str} {c:Nat} {np hp rp:Pos} {body:List Stmt} {e:Expr} {nm:Option Str} {ni:Option Nat} {cb:Lo->Mn (Fl×Lo)} {ch:Lo->Mn V} (gl:Gl W K) (hA:A.frames=some (env::fs)) (hb:SiQ W A fs env vis (execs body env) cb)
  (he:∀ a,SiE W (A.mark (some (.ref a))) (env::fs) env vis (eval e env) ch) (ex:nsIn K mainGlobals x=some (some (.ref (W.ca c)))) (hx:env.kindOf x=some .globalImplicit) (hd:(x == ("__debug__":Str))=false)
  (hm:∀ d,((S.cls[d]?).any fun k=>k.supers.contains c)=true->exmOne K (.ref (W.ca d)) (.ref (W.ca c))=some true) (hnm:NmOk env vis nm ni) :
  SiS W A fs env vis (exec (.Try body [.ExceptHandler (some (.Name x np)) nm [.Return (some e) rp] hp] [] [] pos) env) (fun r=>bP0 S (cb r) c ni ch r):=by
 intro s io m r Z hne
 have hb':cb r m≠.bad:=fun q=>hne (by show bP0 S (cb r) c ni ch r m=_;unfold bP0;rw [q])
 refine wpAny_Try_except (wpAny_mono (hb s io m r Z hb') (fun f s₁ q=>?_) fun e1 s₁ q=>?_)
 ·refine hide fun G_ g_=>?_;rcases q with ⟨⟨fl,r1⟩,m1,io1,e1,st,H,⟨kf,F⟩,sm⟩;refine g_ ?_;clear g_ G_
  have ee:bP0 S (cb r) c ni ch r m=.ok (fl,r1) m1:=by unfold bP0;rw [e1]
  dsimp only
  rw [ee]
  have st':=st.wk (own':=bN env) (fun y_ q=>nomatch q)
  cases kf with
  | next=>exact wpAny_execs_nil ⟨_,m1,io1,rfl,st',H,⟨.next,F⟩,sm⟩
  | cont=>exact ⟨_,m1,io1,rfl,st',H,⟨.cont,F⟩,sm⟩
  | ret kv=>exact ⟨_,m1,io1,rfl,st',H,⟨.ret kv,F⟩,sm⟩
 ·refine hide fun G_ g_=>?_;rcases q with ⟨d,m1,io1,a,g,e1,rfl,st,Hg,fly,sm⟩;refine g_ ?_;clear g_ G_
  dsimp only at hne ⊢
  have ee:bP0 S (cb r) c ni ch r m=dB6 S c ni ch r d m1:=by unfold bP0;rw [e1]
  rw [ee] at hne ⊢
  by_cases hs:((S.cls[d]?).any fun k=>k.supers.contains c)=true
  rotate_left
  ·exact absurd (if_neg hs) hne
  ·have e0:dB6 S c ni ch r d m1=((ch (exR ni d r) m1).nox).bind fun v=>ret (.ret v,exN ni r):=if_pos hs
   rw [e0] at hne ⊢
   obtain ⟨v,m2,e2⟩:∃ v m2,ch (exR ni d r) m1=.ok v m2:=by
    cases q:ch (exR ni d r) m1 with
    | ok v m2=>exact ⟨v,m2,rfl⟩
    | exc c m2=>rw [q] at hne;exact absurd rfl hne
    | bad=>rw [q] at hne;exact absurd rfl hne
   have e3:((ch (exR ni d r) m1).nox).bind (fun v=>ret (Fl.ret v,exN ni r))=.ok (.ret v,exN ni r) m2:=by rw [e2];rfl
   rw [e3]
   refine bF0 hA Z.fr fly fun B h4 a0 kp held up4=>?_
   refine wpAny_landsW held fun h5 fl5 up5=>?_
   rcases land Z.sit.G st Hg kp fl5.1 (up4.trans up5) with ⟨st5,H5⟩
   have Z5:Sit W (env::fs) env vis { s₁ with heap:=h5 } io1 m1 r:=Z.sit.step H5 st5
   have LT:Looks (model W.prog W.w) h5 (typeOf (.ref a)) (.ref (W.ca d)):=by
    refine hide fun G_ g_=>?_;rcases fl5.there with ⟨ob,hob,hc⟩;refine g_ ?_;clear g_ G_
    rw [<- hc];exact (Looks.ld hob).andThen .now
   refine wpAny_handleBy_cons (codeAny_handlers_test (aM7 gl Z5 ex hx hd ((exm_one (gl.X.keeps H5.keep) LT (hm d hs)).here ?_))) (by intro q;injection q)
   have suite:∀ (s':Shared) (io':Io) (r':Lo),Stt W fs env vis s' io' m1 r'->r'=exR ni d r->Step (bN env) (frs (env::fs)) s.heap io m s'.heap io' m1->Same s s'->∀ (Q:Flow->Shared->Prop) (E:Value->Shared->Prop),
     (∀ f s₂,NP W (bN env) (frs (env::fs)) s io m (SP W env vis) (.ok (.ret v,r') m2) f s₂->Q f s₂)->wpAny (model W.prog W.w) (A.mark (some (.ref a))) (execs [.Return (some e) rp] env) Q E s':=by
    intro s' io' r' Z' hr st' sm' Q E hQ
    subst hr
    have key:=cK3 (dA1 (pos:=rp) (he a)) (dA3 (W:=W) (A:=A.mark (some (.ref a))) (fs:=fs) (env:=env) (vis:=vis)) s' io' m1 _ Z'
    have er:(bnd (bnd (ch (exR ni d r)) fun v=>ret (Fl.ret v,exR ni d r)) fun p=>match p.1 with | .next=>ret (.next,p.2) | f=>ret (f,p.2)) m1=.ok (.ret v,exR ni d r) m2:=by
     show Res.bind (Res.bind (ch (exR ni d r) m1) _) _=_
     rw [e2];rfl
    have key2:Si W (bN env) (A.mark (some (.ref a))) (env::fs) (SP W env vis) (execs [.Return (some e) rp] env) s' io' m1 (.ok (.ret v,exR ni d r) m2):=by
     rw [<- er];exact key
    refine wpAny_mono (key2 (fun q=>by injection q)) (fun f s₂ q=>hQ f s₂ (q.mono st' sm')) fun y_ y_ q=>?_
    refine hide fun G_ g_=>?_;rcases q with ⟨y_,y_,y_,y_,y_,q,y_⟩;refine g_ ?_;clear g_ G_
    injection q
   cases ni with
   | none=>
    cases nm with
    | some y=>exact hnm.elim
    | none=>
     refine codeAny_handlers_suite ?_
     refine lands_againW fl5 fun h6 fl6 up6=>?_
     rcases land Z.sit.G st Hg kp fl6.1 ((up4.trans up5).trans up6) with ⟨st6,H6⟩
     have Z6:Stt W fs env vis { s₁ with heap:=h6 } io1 m1 r:=⟨H6,Z.F.step0 Z.H st6,Z.G.step0 st6,Z.fr,Z.dis⟩
     exact suite _ _ r Z6 rfl (st6.wk fun y_ q=>nomatch q) ⟨sm.1,sm.2⟩ _ _ fun f s₂ q=>q
   | some i=>
    cases nm with
    | none=>exact hnm.elim
    | some y=>
     rcases hnm with ⟨hv,hk⟩
     refine codeAny_handlers_suite_as ?_
     refine lands_againW fl5 fun h6 fl6 up6=>?_
     rcases land Z.sit.G st Hg kp fl6.1 ((up4.trans up5).trans up6) with ⟨st6,H6⟩
     have Z6:Stt W fs env vis { s₁ with heap:=h6 } io1 m1 r:=⟨H6,Z.F.step0 Z.H st6,Z.G.step0 st6,Z.fr,Z.dis⟩
     refine hide fun G_ g_=>?_;rcases fl6.first with ⟨oe,ws,hoe,hoec,hoed,y_⟩;refine g_ ?_;clear g_ G_
     refine wpAny_mono (aS3 (A:=A.mark (some (.ref a))) Z6 hv (.inl hk) (.exc (c:=d) hoe hoec hoed) (fun q=>by injection q)) (fun y_ s₇ q=>?_) fun y_ y_ q=>?_
     rotate_left
     ·refine hide fun G_ g_=>?_;rcases q with ⟨y_,y_,y_,y_,y_,q,y_⟩;refine g_ ?_;clear g_ G_
      injection q
     refine hide fun G_ g_=>?_;rcases q with ⟨y_,y_,io7,e7,st7,H7,F7,sm7⟩;refine g_ ?_;clear g_ G_
     (refine aC5 e7 fun z1 z2=>?_;clear e7;subst z1;subst z2)
     have Z7:Stt W fs env vis s₇ io7 m1 (r.set i (some (.exc d))):=⟨H7,F7,(Z6.G.step st7 Z.dis),Z.fr,Z.dis⟩
     have st7':=(st6.wk (own':=bN env) fun y_ q=>nomatch q).trans st7
     refine suite _ _ _ Z7 rfl st7' (sm.trans ⟨sm7.1,sm7.2⟩) _ _ fun f s₈ q=>?_
     refine hide fun G_ g_=>?_;rcases q with ⟨y_,y_,io8,e8,st8,H8,⟨kf,F8⟩,sm8⟩;refine g_ ?_;clear g_ G_
     (refine aC5 e8 fun z1 z2=>?_;clear e8;subst z1;subst z2)
     have Z8:Stt W fs env vis s₈ io8 m2 (r.set i (some (.exc d))):=⟨H8,F8,Z.G.step st8 Z.dis,Z.fr,Z.dis⟩
     refine wpAny_mono (bT8 (A:=A) (k:=hp) Z8 hv hk (fun q=>by injection q)) (fun y_ s₉ q=>?_) fun y_ y_ q=>?_
     rotate_left
     ·refine hide fun G_ g_=>?_;rcases q with ⟨y_,y_,y_,y_,y_,q,y_⟩;refine g_ ?_;clear g_ G_
      injection q
     refine hide fun G_ g_=>?_;rcases q with ⟨y_,y_,io9,e9,st9,H9,F9,sm9⟩;refine g_ ?_;clear g_ G_
     (refine aC5 e9 fun z1 z2=>?_;clear e9;subst z1;subst z2)
     have st10:=st8.trans st9
     have er:(r.set i (some (V.exc d))).set i none=r.set i none:=List.set_set ..
     rw [er] at F9
     cases kf with
     | ret kv=>exact ⟨_,_,io9,rfl,st10,H9,⟨.ret (kv.step st9),F9⟩,sm8.trans sm9⟩
end
end Mini.Internal
namespace Mini.Internal
open PySem PySem.W
section
variable {W:Wd} {K:Frag} {h h':Heap} {fs:List Env} {env:Env} {vis:List (Option Str)} {s s':Shared} {io io' io₀:Io} {m m' m₀:MH} {r r':Lo} {fr own own':List Addr} {A:Around} {n:Nat} {pos p:Pos}
theorem Wk.range {I:Addr} {a c:Int} {k:Nat} {vs:List V} (hh:A.handled=none) (hk:k=vs.length) (hv:∀ (i:Nat) (v:V),vs[i]?=some v->v=.int (a+i * c)):Wk W A I [I] .none vs (fun i h io=>IsRangeIter h I (a+(i:Nat) * c) ((k:Int) - (i:Nat)) c /\ ¬ dJ io I):=
 Wk.of_walks (Walks.range hh I a c k) hk (fun i v u h io e ⟨t,q⟩=>by rw [hv i v e,q];exact .int _ _) (fun i h ht=>⟨_,_,_,ht,rfl,rfl,by decide⟩) fun b hb=>.inl (by simpa using hb)
theorem bJ3 {f:Nat->V} {k i:Nat} {v:V} (h:((List.range k).map f)[i]?=some v):v=f i:=by
 rw [List.getElem?_map] at h
 cases q:(List.range k)[i]? with
 | none=>rw [q] at h;injection h
 | some j=>
  rw [q] at h
  have hk:j=i:=by
   rcases List.getElem?_eq_some_iff.mp q with ⟨hlt,e⟩
   simp at e;lia
  (refine aF h fun z1=>?_;clear h;subst z1);rw [hk]
theorem aZ1 {a b:Int}:Builtin.Range.rangeSize a b 1=((b - a).toNat:Int):=by
 unfold Builtin.Range.rangeSize
 rw [if_pos (by decide)]
 by_cases h:a < b
 ·rw [if_pos h,Int.ediv_one,Int.sub_add_cancel,Int.toNat_of_nonneg (Int.le_of_lt (Int.sub_pos_of_lt h))]
 ·rw [if_neg h,Int.toNat_of_nonpos (Int.sub_nonpos_of_le (Int.not_lt.mp h))];rfl
theorem fitL {i:Int} (h1:-(2 ^ 40) <= i) (h2:i <= 2 ^ 40):Builtin.Range.rangeFitsLong i=true:=by
 unfold Builtin.Range.rangeFitsLong
 rw [Bool.and_eq_true]
 exact ⟨decide_eq_true (Int.le_trans (by decide) h1),decide_eq_true (Int.lt_of_le_of_lt h2 (by decide))⟩
theorem near {a:Int} (h:a.natAbs < 2 ^ 31):-(2 ^ 31) <= a /\ a <= 2 ^ 31:=⟨Int.neg_le_of_neg_le (Int.le_of_lt (Int.lt_of_le_of_lt Int.le_natAbs (by rw [Int.natAbs_neg];exact Int.ofNat_lt.mpr h))),Int.le_of_lt (Int.lt_of_le_of_lt Int.le_natAbs (Int.ofNat_lt.mpr h))⟩
theorem cJ1 {x c:Int} (hx:0 <= x) (h:x <= 2 ^ 32) (hc:0 < c):-(2 ^ 40) <= x / c+1 /\ x / c+1 <= 2 ^ 40:=by
 have h1:0 <= x / c:=Int.ediv_nonneg hx (Int.le_of_lt hc)
 have h2:x / c <= x:=Int.ediv_le_self _ hx
 exact ⟨Int.le_trans (by decide) (Int.add_le_add_right h1 1),Int.le_trans (Int.add_le_add_right (Int.le_trans h2 h) 1) (by decide)⟩
theorem gap {a b:Int} (a1:-(2 ^ 31) <= a) (b2:b <= 2 ^ 31) (h:a < b):0 <= b - a - 1 /\ b - a - 1 <= 2 ^ 32:=⟨Int.le_sub_one_of_lt (Int.sub_pos_of_lt h),Int.le_trans (Int.sub_le_self _ (by decide)) (Int.le_trans (Int.sub_le_sub b2 a1) (by decide))⟩
theorem bV2 {b c:Int} (b1:-(2 ^ 31) <= b) (b2:b <= 2 ^ 31) (c1:-(2 ^ 31) <= c) (c2:c <= 2 ^ 31):-(2 ^ 40) <= b+(c - 1) /\ b+(c - 1) <= 2 ^ 40:=⟨Int.le_trans (by decide) (Int.add_le_add b1 (Int.sub_le_sub_right c1 1)),Int.le_trans (Int.add_le_add b2 (Int.sub_le_sub_right c2 1)) (by decide)⟩
theorem aZ0 {a b c:Int} (ha:a.natAbs < 2 ^ 31) (hb:b.natAbs < 2 ^ 31) (hc:c.natAbs < 2 ^ 31) (h0:0 < c):Builtin.Range.small a b c=true:=by
 rcases near ha with ⟨a1,a2⟩
 rcases near hb with ⟨b1,b2⟩
 rcases near hc with ⟨c1,c2⟩
 have far:∀ {i:Int},-(2 ^ 31) <= i->i <= 2 ^ 31->Builtin.Range.rangeFitsLong i=true:=fun h1 h2=>fitL (Int.le_trans (by decide) h1) (Int.le_trans h2 (by decide))
 have hs:Builtin.Range.rangeFitsLong (Builtin.Range.rangeSize a b c)=true:=by
  unfold Builtin.Range.rangeSize
  rw [if_pos h0]
  by_cases h:a < b
  ·rw [if_pos h]
   have g:=gap a1 b2 h
   have d:=cJ1 g.1 g.2 h0
   exact fitL d.1 d.2
  ·rw [if_neg h];rfl
 have l:=bV2 b1 b2 c1 c2
 unfold Builtin.Range.small
 rw [far a1 a2,far b1 b2,far c1 c2,hs,if_pos h0,fitL l.1 l.2,Bool.or_true];rfl
theorem aL3 {vs:List V} {us:List Value} {l:List V} {m:MH} (H:HR W s.heap io m) (k:VRs W s.heap io vs us) (hr:aB9 vs=some l) {Q:Value->Shared->Prop} {E:Value->Shared->Prop}
  (hQ:∀ (a b c:Int) (o:Obj) (tk:Nat) (t u v:Tok),a.natAbs < 2 ^ 31->b.natAbs < 2 ^ 31->c.natAbs < 2 ^ 31->0 < c->(l.length:Int)=Builtin.Range.rangeSize a b c->(∀ (i:Nat) (v:V),l[i]?=some v->v=.int (a+i * c))->IsRange (s.heap.push o) s.heap.objs.size a b c t u v->Q (.ref s.heap.objs.size) { s with heap:=s.heap.push o,toks:=tk }) :
  wpAny (model W.prog W.w) A (call (.type "range") us) Q E s:=by
 have e30:(2:Nat) ^ 30 < 2 ^ 31:=by decide
 have one:∀ n:Int,vs=[.int n]->wpAny (model W.prog W.w) A (call (.type "range") us) Q E s:=fun n e=>by
  subst e
  have hr:(if n.natAbs < 2 ^ 30 then some (bE4 0 n) else Option.none)=some l:=hr
  by_cases hlt:n.natAbs < 2 ^ 30
  ·rw [if_pos hlt] at hr
   (refine aF hr fun z1=>?_;clear hr;subst z1)
   refine VRs.dCons k fun y_ y_ k1 k2=>?_
   subst k2
   refine VR.dInt k1 fun y_=>?_
   refine call_range_1 (hQ 0 _ 1 _ _ _ _ _ (by decide) (Nat.lt_trans hlt e30) (by decide) (by decide) ?_ (fun i v e=>?_) (.new _ _ _ _ _ _ _))
   ·rw [aZ1];unfold bE4;rw [List.length_map,List.length_range]
   ·rw [bJ3 e,Int.mul_one]
  ·rw [if_neg hlt] at hr;injection hr
 clear hQ
 cases vs with
 | nil=>injection hr
 | cons a vs=>
  cases vs with
  | nil=>
   cases a with
   | int n=>exact one n rfl
   | _=>injection hr
  | cons b vs=>cases (a) <;> injection hr
theorem bQ2 {x:Str} {es:List Expr} {cl:Lo->Mn (List V)} (hh:A.handled=none) (gl:Gl W K) (e:nsIn K mainGlobals x=some none) (hv:bootBuiltins x=some (.type "range")) (hn:(x == ("__name__":Str))=false) (hx:env.kindOf x=some .globalImplicit) (hd:(x == ("__debug__":Str))=false) (hs:bE es=true)
  (hl:SiL W A fs env vis (spliced (backTo pos (starEach es env))) cl):SiSrc W A fs env vis (.Call (.Name x p) es [] pos) (fun r=>bnd (cl r) fun vs=>match aB9 vs with | some l=>ret (l,.none) | none=>bad):=by
 intro s io m r Z hne
 dsimp only at hne ⊢
 refine wpAny_Call_NameR (aM8 gl Z e hv hn hx hd (callWith_type (eE hs) (eR hs ?_)))
 refine wpAny_mono (hl s io m r Z (Res.bind_ne hne)) (fun us s₁ q=>?_) fun y_ y_ q=>q.bind .refl (.refl _)
 refine hide fun G_ g_=>?_;rcases q with ⟨vs,m₁,io₁,e1,st,H,k,sm⟩;refine g_ ?_;clear g_ G_
 have ee:bnd (cl r) (fun vs=>match aB9 vs with | some l=>ret (l,Gd.none) | none=>bad) m=(match aB9 vs with | some l=>ret (l,Gd.none) | none=>bad) m₁:=by show (cl r m).bind _=_;rw [e1];rfl
 rw [ee] at hne ⊢
 show wpAny (model W.prog W.w) A (call (.type "range") us) _ _ s₁
 have fin:∀ (a b c:Int) (o:Obj) (tk:Nat) (t u v:Tok) (l:List V),a.natAbs < 2 ^ 31->b.natAbs < 2 ^ 31->c.natAbs < 2 ^ 31->0 < c->(l.length:Int)=Builtin.Range.rangeSize a b c->(∀ (i:Nat) (v:V),l[i]?=some v->v=.int (a+i * c))->IsRange (s₁.heap.push o) s₁.heap.objs.size a b c t u v ->
   wpAny (model W.prog W.w) A (pyIter (.ref s₁.heap.objs.size)) (fun it s₂=>NP W [] (frs fs) s io m (ItP W A s.heap) (.ok (l,Gd.none) m₁) it s₂) (XP W [] fs s io m (.ok (l,Gd.none) m₁:Res (List V×Gd))) { s₁ with heap:=s₁.heap.push o,toks:=tk }:=by
  intro a b c o tk t u v l ha hb hc h0 hsz hle hr
  have st1:Step [] (frs fs) s₁.heap io₁ m₁ (s₁.heap.push o) io₁ m₁:=.of_keeps H (aQ _)
  have H1:HR W (s₁.heap.push o) io₁ m₁:=H.of_keeps (aQ _)
  refine wpAny_pyIter_range hr (aZ0 ha hb hc h0) ?_
  have st2:Step [] (frs fs) (s₁.heap.push o) io₁ m₁ _ io₁ m₁:=.of_keeps H1 (aQ { cls:=.type "range_iterator",data:=.fields #[rawInt a,rawInt (Builtin.Range.rangeSize a b c),rawInt c] })
  refine ⟨(l,.none),m₁,io₁,rfl,(st.trans st1).trans st2,H1.of_keeps (aQ _),⟨_,_,_,rfl,Wk.range (a:=a) (c:=c) (k:=l.length) hh rfl hle,⟨?_,?_⟩,fun b hb=>?_⟩,sm⟩
  ·have:=Heap.get?_push_size (h:=s₁.heap.push o) (o:={ cls:=.type "range_iterator",data:=.fields #[rawInt a,rawInt (Builtin.Range.rangeSize a b c),rawInt c] }) rfl
   rw [<- hsz] at this ⊢
   simpa [IsRangeIter] using this
  ·exact dG (s:={ s₁ with heap:=s₁.heap.push o }) H1
  ·rw [List.mem_singleton.mp hb]
   exact eO (st.trans st1) (aZ _)
 cases hr:aB9 vs with
 | none=>rw [hr] at hne;exact absurd rfl hne
 | some l=>exact aL3 H k hr fun a b c o tk t u v ha hb hc h0 hsz hle hr=>fin a b c o tk t u v l ha hb hc h0 hsz hle hr
end
end Mini.Internal
namespace Mini.Internal
open PySem PySem.W
section
variable {W:Wd} {K:Frag} {h h':Heap} {fs:List Env} {env:Env} {vis:List (Option Str)} {s s':Shared} {io io' io₀:Io} {m m' m₀:MH} {r r':Lo} {fr own own':List Addr} {A:Around} {n:Nat} {pos p:Pos}
end
end Mini.Internal
namespace Mini.Internal
open PySem PySem.W
theorem aG1 {names:List Str} {us:List Value} (h:us.length=names.length):∀ n∈names,((names.zip us).lookup n).isNone=false:=by
 induction names generalizing us with
 | nil=>intro n hn;cases (hn)
 | cons a as ih=>
  cases us with
  | nil=>injection h
  | cons u us=>
   intro n hn
   simp only [List.zip_cons_cons,List.lookup_cons]
   cases q:n == a with
   | true=>rfl
   | false=>
    rcases List.mem_cons.mp hn with rfl | hn
    ·simp at q
    ·exact ih (by simpa using h) n hn
theorem aQ5 {names:List Str} {us:List Value} (h:us.length=names.length) (hd:names.Nodup):(names.filterMap fun n=>((names.zip us).lookup n).map (n,·))=names.zip us:=by
 have key:∀ (ns:List Str) (vs:List Value) (g:Str->Option Value),vs.length=ns.length->ns.Nodup->(∀ n v,(n,v)∈ns.zip vs->g n=some v)->(ns.filterMap fun n=>(g n).map (n,·))=ns.zip vs:=by
  intro ns
  induction ns with
  | nil=>intro vs g _ _ _;simp
  | cons a as ih=>
   intro vs g hl hn hg
   cases vs with
   | nil=>injection hl
   | cons u us=>
    have h1:=hg a u (by simp)
    rw [List.filterMap_cons]
    simp only [h1,Option.map_some,List.zip_cons_cons]
    rw [ih us g (by simpa using hl) (List.nodup_cons.mp hn).2 fun n v e=>hg n v (by simp [e])]
 refine key names us _ h hd fun n v e=>?_
 clear key
 induction names generalizing us with
 | nil=>simp at e
 | cons a as ih=>
  cases us with
  | nil=>simp at e
  | cons u us=>
   simp only [List.zip_cons_cons,List.mem_cons,Prod.mk.injEq] at e
   simp only [List.zip_cons_cons,List.lookup_cons]
   rcases e with ⟨rfl,rfl⟩ | e
   ·simp
   ·have:n≠a:=fun q=>(List.nodup_cons.mp hd).1 (q▸(List.of_mem_zip e).1)
    have:(n == a)=false:=by simpa using this
    rw [this]
    exact ih (by simpa using h) (List.nodup_cons.mp hd).2 e
theorem aL4 {fd:FuncData} {us:List Value} (hp:fd.params.posonlyargs=[]) (hk:fd.params.kwonlyargs=[]) (hv:fd.params.vararg=none) (hw:fd.params.kwarg=none) (hd:fd.defaults=.none) (hn:(fd.params.args.map (·.arg)).Nodup) (hl:us.length=fd.params.args.length) :
  bindArgs fd ⟨us,[]⟩=Pure.pure ((fd.params.args.map (·.arg)).zip us):=by
 have hm:∀ k,((List.take k (fd.params.args.map (·.arg))).filter fun n=>(((fd.params.args.map (·.arg)).zip us).lookup n).isNone)=[]:=by
  intro k
  rw [List.filter_eq_nil_iff]
  intro n hn' q
  rw [aG1 (by simpa using hl) n (List.mem_of_mem_take hn')] at q
  injection q
 have hz:=aQ5 (names:=fd.params.args.map (·.arg)) (us:=us) (by simpa using hl) hn
 rw [List.filterMap_map] at hz
 have e1:seqItems? Value.none=Pure.pure none:=rfl
 unfold bindArgs
 simp [hp,hk,hv,hw,hd,hl,e1,hm]
 exact congrArg Pure.pure hz
section
variable {W:Wd} {K:Frag} {h h' h₀:Heap} {fs:List Env} {env:Env} {vis:List (Option Str)} {s s':Shared} {io io' io₀:Io} {m m' m₀:MH} {r r':Lo} {fr fr' own own':List Addr} {A:Around} {n:Nat} {pos p:Pos}
theorem Step.shrink (H:HR W h₀ io m) (x:Step own fr h io m h' io' m') (k:∀ b o,h₀.get? b=some o->h.get? b=some o) (ho:∀ b∈own,h₀.get? b=none \/ b∈own') (hf:∀ b∈fr,h₀.get? b=none \/ b∈fr'):Step own' fr' h₀ io m h' io' m':=by
 have oo:∀ b o,h₀.get? b=some o->b∉own'->b∉own:=fun b o e q w=>by
  rcases ho b w with z | z
  ·rw [z] at e;injection e
  ·exact q z
 have ff:∀ b o,h₀.get? b=some o->b∉fr'->b∉fr:=fun b o e q w=>by
  rcases hf b w with z | z
  ·rw [z] at e;injection e
  ·exact q z
 refine ⟨fun b o e=>x.alive b o (k b o e),fun b o e so=>x.solid b o (k b o e) so,fun b o e f1 f2 f3=>x.keep b o (k b o e) f1 (oo b o e f2) (ff b o e f3),fun b o e f1 f2=>x.slots b o (k b o e) f1 (oo b o e f2),?_,?_⟩
 ·refine hide fun G_ g_=>?_;rcases x.grow with ⟨new,e,hn⟩;refine g_ ?_;clear g_ G_
  have back:∀ b,h.get? b=none->h₀.get? b=none:=fun b e=>by
   cases q:h₀.get? b with
   | none=>rfl
   | some o=>rw [k b o q] at e;injection e
  exact ⟨new,e,fun p hp=>⟨back _ (hn p hp).1,back _ (hn p hp).2⟩⟩
 ·intro i p kvs e hi hm
  refine hide fun G_ g_=>?_;rcases x.dicts i p kvs e hi hm with ⟨k',e',q1,q2,q3⟩;refine g_ ?_;clear g_ G_
  refine ⟨k',e',q1,q2,fun q=>⟨?_,(q3 q).2⟩⟩
  rcases H.there hi with ⟨o,ho⟩
  rw [(q3 q).1,ho,k _ _ ho]
theorem aJ5 {kind:Str->Option NameKind} {y:Str}:∀ (binds:List (Str×Value)) (mp:Str->Option Value),y∉binds.map (·.1)->bindL kind binds mp y=mp y
 | [],_,_=>rfl
 | (n,v)::r,mp,h=>by
  simp only [List.map_cons,List.mem_cons,not_or] at h
  simp only [bindL]
  rw [aJ5 r _ h.2]
  split
  ·simp [h.1]
  ·rfl
theorem aJ6 {kind:Str->Option NameKind} {y:Str}:∀ (binds:List (Str×Value)) (mp:Str->Option Value),y∉binds.map (·.1)->bindC kind binds mp y=mp y
 | [],_,_=>rfl
 | (n,v)::r,mp,h=>by
  simp only [List.map_cons,List.mem_cons,not_or] at h
  simp only [bindC]
  rw [aJ6 r _ h.2]
  split
  ·rfl
  ·simp [h.1]
theorem aW8 {kind:Str->Option NameKind} {y:Str} {u:Value} (hk:kind y=some .local):∀ (binds:List (Str×Value)) (mp:Str->Option Value),(binds.map (·.1)).Nodup->(y,u)∈binds->bindL kind binds mp y=some u
 | [],_,_,h=>nomatch h
 | (n,v)::r,mp,hn,h=>by
  simp only [List.map_cons,List.nodup_cons] at hn
  simp only [bindL]
  rcases List.mem_cons.mp h with e | h
  ·cases (e)
   rw [aJ5 r _ hn.1];simp [hk]
  ·exact aW8 hk r _ hn.2 h
theorem aW9 {kind:Str->Option NameKind} {y:Str} {u:Value} (hk:kind y=some .cell):∀ (binds:List (Str×Value)) (mp:Str->Option Value),(binds.map (·.1)).Nodup->(y,u)∈binds->bindC kind binds mp y=some u
 | [],_,_,h=>nomatch h
 | (n,v)::r,mp,hn,h=>by
  simp only [List.map_cons,List.nodup_cons] at hn
  simp only [bindC]
  rcases List.mem_cons.mp h with e | h
  ·cases (e)
   rw [aJ6 r _ hn.1];simp [hk]
  ·exact aW9 hk r _ hn.2 h
theorem aI7 {kindOf:Str->Option NameKind} {names:List Str} {np:Nat} {vs:List V} {us:List Value} {i:Nat} {x:Str} {v:V} (hl:vs.length=np) (hu:VRs W h io vs us) (hv:(names.map some)[i]?=some (some x)) (hr:(vs.map some++List.replicate (names.length - np) (none:Option V))[i]?=some (some v)) :
  ∃ u,(x,u)∈(names.take np).zip us /\ VR W h io v u:=by
 have hi:i < vs.length:=by
  rcases Nat.lt_or_ge i vs.length with q | q
  ·exact q
  ·rw [List.getElem?_append_right (by simpa using q)] at hr
   have:=List.mem_of_getElem? hr
   simp at this
 rw [List.getElem?_append_left (by simpa using hi),List.getElem?_map] at hr
 cases q:vs[i]? with
 | none=>rw [q] at hr;injection hr
 | some v'=>
  rw [q] at hr;(refine aF hr fun z1=>?_;clear hr;(first | (injection z1;done) | subst z1 | cases (z1)))
  refine hide fun G_ g_=>?_;rcases hu.get q with ⟨u,hu',ku⟩;refine g_ ?_;clear g_ G_
  refine ⟨u,?_,ku⟩
  rw [List.getElem?_map] at hv
  have hx:names[i]?=some x:=by
   cases w:names[i]? with
   | none=>rw [w] at hv;injection hv
   | some y=>rw [w] at hv;injection hv
  have:((names.take np).zip us)[i]?=some (x,u):=by
   rw [List.getElem?_zip_eq_some]
   exact ⟨by rw [List.getElem?_take_of_lt (by lia)];exact hx,hu'⟩
  exact List.mem_of_getElem? this
theorem bX4 {scope:Scope} {names:List Str} {np:Nat} {vs:List V} {us:List Value} {binds:List (Str×Value)} {qual:Str} {func:Option Addr} {code:Value} (H:HR W s.heap io m) (G:FF W s.heap io fs) (hl:vs.length=np) (hnp:np <= names.length) (hu:VRs W s.heap io vs us)
  (hk:scope.kind=.function) (hn:names.Nodup) (hkind:∀ x∈names,scope.names.lookup x=some .local \/ scope.names.lookup x=some .cell) (hb:binds=(names.take np).zip us)
  (he:env=newEnv scope s.heap.objs.size mainGlobals (cellsFrom (s.heap.objs.size+1) scope.names []) qual func code none builtinsNs) (hI:InCallC s env.locals (bindL env.kindOf binds fun y_=>none) env.cells (bindC env.kindOf binds fun y_=>none) s') :
  Stt W fs env (names.map some) s' io m (vs.map some++List.replicate (names.length - np) none) /\ (∀ b∈bN env,s.heap.get? b=none):=by
 have hloc:env.locals=s.heap.objs.size:=by rw [he];rfl
 have hkd:∀ x,env.kindOf x=scope.names.lookup x:=fun x=>by rw [he];rfl
 have keep:=hI.toInCall.keep
 have hsz:us.length=np:=by rw [hu.length,hl]
 have bn:binds.map (·.1)=names.take np:=by
  rw [hb,List.map_fst_zip (by rw [hsz,List.length_take];exact Nat.min_le_left _ _)]
 have bnd':(binds.map (·.1)).Nodup:=by rw [bn];exact hn.sublist (List.take_sublist _ _)
 have up:∀ b,s.heap.objs.size <= b->s.heap.get? b=none:=fun b hb=>by
  cases q:s.heap.get? b with
  | none=>rfl
  | some o=>exact absurd (Heap.lt_size q) (Nat.not_lt.mpr hb)
 have celUp:∀ q∈env.cells,s.heap.get? q.2=none:=fun q hq=>up _ (by have:=hI.above q.1 q.2 hq;rw [hloc] at this;exact Nat.le_of_lt this)
 have basN:∀ b,s.heap.get? b=none->W.base.get? b=none:=fun b e=>by
  cases q:W.base.get? b with
  | none=>rfl
  | some o=>rw [H.keep _ _ q] at e;injection e
 have nfN:∀ b,s.heap.get? b=none->¬ dJ io b:=fun b e f=>by
  refine hide fun G_ g_=>?_;rcases H.foot f with ⟨o,ho,y_⟩;refine g_ ?_;clear g_ G_
  rw [e] at ho;injection ho
 have st:Step [] [] s.heap io m s'.heap io m:=.of_keeps H keep
 have own0:∀ b∈bN env,s.heap.get? b=none:=fun b hb=>by
  rcases List.mem_cons.mp hb with rfl | hb
  ·exact up _ (by rw [hloc];exact Nat.le_refl _)
  ·refine hide fun G_ g_=>?_;rcases List.mem_filterMap.mp hb with ⟨q,hq,e⟩;refine g_ ?_;clear g_ G_
   exact celUp _ (mem_of_lookup e)
 have cex:∀ x,scope.names.lookup x=some .cell->∃ c,env.cells.lookup x=some c:=fun x hx=>by
  have:=cellsFrom_some scope.names (s.heap.objs.size+1) [] (x:=x) (.inl hx)
  have e:env.cells=cellsFrom (s.heap.objs.size+1) scope.names []:=by rw [he];rfl
  rw [e]
  exact Option.isSome_iff_exists.mp this
 have memNames:∀ (i:Nat) (x:Str),(names.map some)[i]?=some (some x)->names[i]?=some x:=fun i x hv=>by
  rw [List.getElem?_map] at hv
  cases w:names[i]? with
  | none=>rw [w] at hv;injection hv
  | some y=>rw [w] at hv;injection hv
 have nofree:∀ (i:Nat) (x:Str),(names.map some)[i]?=some (some x)->env.kindOf x≠some .free:=fun i x hv q=>by
  rw [hkd] at q
  rcases hkind x (List.mem_of_getElem? (memNames i x hv)) with e | e <;> rw [q] at e <;> (refine aF e fun z1=>?_;clear e;(first | (injection z1;done) | subst z1 | cases (z1)))
 refine ⟨⟨H.of_keeps keep,⟨?_,?_,?_,?_,?_,⟨_,hI.toInCall.ns,fun i x v h1 h2 h3=>?_⟩,fun i x v h1 h2 h3=>?_,fun x c hc=>?_,fun i x h1 h2=>?_,fun x y c h1 h2=>?_,fun i j x h1 h2=>?_,?_⟩,G.step0 st,?_,fun L hL q=>?_⟩,own0⟩
 ·rw [he];exact hk
 ·rw [he];rfl
 ·rw [he];rfl
 ·exact nfN _ (own0 _ (.head _))
 ·exact basN _ (own0 _ (.head _))
 ·refine hide fun G_ g_=>?_;rcases aI7 (kindOf:=env.kindOf) hl hu h1 h2 with ⟨u,hm,ku⟩;refine g_ ?_;clear g_ G_
  exact ⟨u,aW8 h3 binds _ bnd' (hb▸hm),ku.step st⟩
 ·rcases h3 with h3 | h3
  ·refine hide fun G_ g_=>?_;rcases aI7 (kindOf:=env.kindOf) hl hu h1 h2 with ⟨u,hm,ku⟩;refine g_ ?_;clear g_ G_
   rcases cex x (by rw [<- hkd];exact h3) with ⟨c,hc⟩
   refine ⟨c,u,hc,?_,ku.step st⟩
   have:=hI.cell x c hc
   rwa [aW9 h3 binds _ bnd' (hb▸hm)] at this
  ·exact absurd h3 (nofree i x h1)
 ·have hm:=mem_of_lookup hc
  exact ⟨⟨_,hI.cell x c hc⟩,basN _ (celUp _ hm),fun e=>by have:=hI.above x c hm;rw [e] at this;exact absurd this (Nat.lt_irrefl _)⟩
 ·rcases h2 with h2 | h2
  ·exact cex x (by rw [<- hkd];exact h2)
  ·exact absurd h2 (nofree i x h1)
 ·have h1':=mem_of_lookup h1
  have h2':=mem_of_lookup h2
  have:∀ (l:List (Str×Addr)),l.Pairwise (fun x y=>x.2≠y.2)->∀ a∈l,∀ b∈l,a.2=b.2->a=b:=by
   intro l hp
   induction l with
   | nil=>intro a ha;cases (ha)
   | cons z zs ih=>
    rcases List.pairwise_cons.mp hp with ⟨p1,p2⟩
    intro a ha b hb e
    rcases List.mem_cons.mp ha with ea | ha' <;> rcases List.mem_cons.mp hb with eb | hb'
    ·rw [ea,eb]
    ·rw [ea] at e;exact absurd e (p1 b hb')
    ·rw [eb] at e;exact absurd e.symm (p1 a ha')
    ·exact ih p2 a ha' b hb' e
  exact congrArg Prod.fst (this _ hI.apart _ h1' _ h2' rfl)
 ·have e1:=memNames i x h1
  have e2:=memNames j x h2
  exact (List.getElem?_inj (List.getElem?_eq_some_iff.mp e1).1 hn).mp (e1.trans e2.symm)
 ·simp [hl];exact Nat.add_sub_of_le hnp
 ·rw [he];rfl
 ·have:=own0 L q
  refine hide fun G_ g_=>?_
  rcases List.mem_filterMap.mp hL with ⟨e,hee,hf⟩
  rcases G e hee with ⟨y_,L',o,y_,y_,h1,y_,y_,h4,y_⟩
  refine g_ ?_
  clear g_ G_
  rw [h1] at hf;(refine aF hf fun z1=>?_;clear hf;subst z1);rw [this] at h4;injection h4
end
end Mini.Internal
namespace Mini.Internal
open PySem PySem.W
noncomputable def bW4 (K:Frag) (fd:FuncData) (d:FnD):Bool:=
 fd.scope.kind == .function&&!fd.scope.isCoroutine&&!fd.scope.isGenerator&&fd.globals == mainGlobals&&fd.builtins == builtinsNs&&fd.closure.isEmpty&&fd.params.posonlyargs.isEmpty&&fd.params.kwonlyargs.isEmpty&&fd.params.vararg.isNone&&fd.params.kwarg.isNone&&
 (match fd.defaults with | .none=>true | _=>false)&&decide (fd.params.args.map (·.arg)=d.names.take d.np)&&decide (d.np <= d.names.length)&&decide d.names.Nodup&&(d.names.all fun x=>fd.scope.names.lookup x == some .local||fd.scope.names.lookup x == some .cell)&&codeIn K fd.code fd.qualname
section
variable {W:Wd} {K:Frag} {h h' h₀:Heap} {fs:List Env} {env:Env} {vis:List (Option Str)} {s s':Shared} {io io' io₀:Io} {m m' m₀:MH} {r r':Lo} {fr fr' own own':List Addr} {A:Around} {n:Nat} {pos p:Pos}
theorem bV1 {e:Value} {α β:Type} {R:Res α} {f:α->Mn β} (hA:A.frames=some (env::fs)) (hf:env.frame=some env.locals) {s₀:Shared} (H:HR W s₀.heap io m) (k:∀ b o,s₀.heap.get? b=some o->s.heap.get? b=some o) (own0:∀ b∈bN env,s₀.heap.get? b=none) (sm:Same s₀ s)
  (x:XP W (bN env) (env::fs) s io m R e s'):wpAny (model W.prog W.w) A (leaving env e) (fun y_ s''=>XP W [] fs s₀ io m (R.bind f) e s'') (fun y_ y_=>False) s':=by
 refine hide fun G_ g_=>?_;rcases x with ⟨c,m',io',a,g,rfl,rfl,st,Hg,⟨B,kp,fly⟩,sm'⟩;refine g_ ?_;clear g_ G_
 have hL:s₀.heap.get? env.locals=none:=own0 _ (.head _)
 have frs':∀ b∈frs (env::fs),s₀.heap.get? b=none \/ b∈frs fs:=fun b hb=>by
  have e:frs (env::fs)=env.locals::frs fs:=by simp [frs,hf]
  rw [e] at hb
  rcases List.mem_cons.mp hb with rfl | hb
  ·exact .inl hL
  ·exact .inr hb
 have st0:Step [] (frs fs) s₀.heap io m g io' m':=st.shrink H k (fun b hb=>.inl (own0 b hb)) frs'
 have kp0:Kp W s₀.heap io' fs g B:=fun b o e q=>kp b o e (q.imp id (Or.imp id (Or.imp id fun ⟨⟨o',e'⟩,q⟩=>⟨⟨o',k b o' e'⟩,fun w=>by
  rcases frs' b w with z | z
  ·rw [z] at e';injection e'
  ·exact q z⟩)))
 rcases fly with ⟨a0,f1,f2⟩ | ⟨a0,L,env',f0,f0',f1,f2⟩ | ⟨args,f1,f2,f3⟩
 ·refine wpAny_leaves_onW hA hf f1 fun h' q1 q2=>?_
  exact ⟨c,m',io',a,g,rfl,rfl,st0,Hg,⟨B,kp0,.inl ⟨a0,q1,f2.trans q2⟩⟩,sm.trans ⟨sm'.1,sm'.2⟩⟩
 ·(refine aF f0 fun z1=>?_;clear f0;subst z1)
  unfold leaving
  refine wpAny_bind (wpAny_noteFrame_againW f0' f1.2.2.2 ?_)
  refine wpAny_landsW f1 fun h' q1 q2=>?_
  rcases q1 with ⟨k1,k2,⟨y_,y_,k3⟩,k4⟩
  exact ⟨c,m',io',a,g,rfl,rfl,st0,Hg,⟨B,kp0,.inl ⟨a0,⟨k1,k2,k3,k4⟩,f2.trans q2⟩⟩,sm.trans ⟨sm'.1,sm'.2⟩⟩
 ·refine wpAny_leaves_madeW hA hf f1 f2 f3 fun h' t q1 q2 q3 q4=>?_
  exact ⟨c,m',io',a,g,rfl,rfl,st0,Hg,⟨B,kp0,.inl ⟨_,q1,(Heap.UpToSlots.of_keeps f3.keeps).trans q4⟩⟩,sm.trans ⟨sm'.1,sm'.2⟩⟩
theorem AR.deeper {A:Around} (R:AR A fs (n+1)) (env:Env):AR (A.deeper env) (env::fs) n:=
 ⟨by show A.frames.map (env::·)=_;rw [R.frames];rfl,by have:=R.depth;exact Nat.le_trans (show A.depth+1+4 * n <= A.depth+4 * (n+1) by rw [Nat.mul_succ,Nat.add_assoc];exact Nat.add_le_add_left (by rw [Nat.add_comm];exact Nat.add_le_add_left (by decide:1 <= 4) _) _) this,by have:=R.units;show A.units+3+40 * n+400 <= 9000;lia⟩
set_option tactic.hygienic true in
theorem cJ6 {a:Addr} {o:Obj} {fd:FuncData} {body:List Stmt} {d:FnD} {Fb:Lo->Mn (Fl×Lo)} (gl:Gl W K) (R:AR A fs (n+1)) (ho:K.lookup a=some o) (hdata:o.data=.func fd) (hh:bW4 K fd d=true) (hb:fd.body=.stmts body)
  (hbody:∀ env:Env,env.scope=fd.scope->SiS W (A.deeper env) fs env (d.names.map some) (execs body env) Fb) :
  SiK W A fs (.ref a) (fun vs=>if vs.length=d.np then bnd (Fb (vs.map some++List.replicate (d.names.length - d.np) none)) finF else bad):=by
 intro s io m vs us H G hu
 dsimp only
 simp only [bW4,Bool.and_eq_true,beq_iff_eq,Bool.not_eq_true',decide_eq_true_eq,List.isEmpty_iff,Option.isNone_iff_eq_none] at hh
 refine hide fun G_ g_=>?_;rcases hh with ⟨⟨⟨⟨⟨⟨⟨⟨⟨⟨⟨⟨⟨⟨⟨h1,h2⟩,h3⟩,h4⟩,h5⟩,h6⟩,h7⟩,h8⟩,h9⟩,h10⟩,h11⟩,h12⟩,h13⟩,h14⟩,h15⟩,h16⟩;refine g_ ?_;clear g_ G_
 have hdef:fd.defaults=.none:=by
  cases q:fd.defaults <;> rw [q] at h11 <;> first | rfl | (exact absurd h11 Bool.false_ne_true)
 split
 ·rename_i hl
  intro hne
  have hlen:us.length=fd.params.args.length:=by
   have:=congrArg List.length h12
   simp at this
   rw [hu.length,hl];lia
  have hnd:(fd.params.args.map (·.arg)).Nodup:=by rw [h12];exact h14.sublist (List.take_sublist _ _)
  refine codeAny_call_function (by have:=R.depth;simp only [recursionLimit];lia) (H.get gl ho) hdata h2 h3 hb ((codeRec_of gl.X h16).keeps H.keep) ?_
  rw [aL4 h7 h8 h9 h10 hdef hnd hlen]
  refine wpAny_pure ?_
  rw [h4,h5,h6]
  have hkinds:∀ x∈d.names,fd.scope.names.lookup x=some .local \/ fd.scope.names.lookup x=some .cell:=fun x hx=>by
   have:=List.all_eq_true.mp h15 x hx
   simpa using this
  refine wpAny_newFunctionEnv_cells h1 (fun x hx=>?_) fun env he s₂ hI=>?_
  ·have hxn:x.1∈d.names:=by
    have:=(List.of_mem_zip (show (x.1,x.2)∈_ from hx)).1
    rw [h12] at this
    exact List.mem_of_mem_take this
   rcases hkinds _ hxn with e | e
   ·exact .inl e
   ·exact .inr ⟨e,cellsFrom_some _ _ _ (.inl e)⟩
  ·rw [h12] at hI
   rcases bX4 H G hl h13 hu h1 h14 hkinds rfl he hI with ⟨Z,own0⟩
   have keep:=hI.toInCall.keep
   refine hide fun G_ g_=>?_;rcases hI.toInCall.same with ⟨hs,htk,hse⟩;refine g_ ?_;clear g_ G_
   have sm:Same s s₂:=by rw [hse];exact ⟨rfl,rfl⟩
   refine ⟨gl.ok.nolimit.keeps (fun b o e=>keep b o (H.keep b o e)),codeAny_func ?_⟩
   have hsc:env.scope=fd.scope:=by rw [he];rfl
   have Rd:=R.deeper env
   refine wpAny_mono (hbody env hsc s₂ io m _ Z (Res.bind_ne hne)) (fun f s₃ q=>?_) fun e s₃ q=>?_
   ·refine hide fun G_ g_=>?_;rcases q with ⟨⟨fl,r₃⟩,m₃,io₃,e3,st3,H3,⟨kf,F3⟩,sm3⟩;refine g_ ?_;clear g_ G_
    have frs':∀ b∈frs (env::fs),s.heap.get? b=none \/ b∈frs fs:=fun b hb=>by
     have e:frs (env::fs)=env.locals::frs fs:=by simp [frs,Z.fr]
     rw [e] at hb
     rcases List.mem_cons.mp hb with rfl | hb
     ·exact .inl (own0 _ (.head _))
     ·exact .inr hb
    have st0:Step [] (frs fs) s.heap io m s₃.heap io₃ m₃:=st3.shrink H keep (fun b hb=>.inl (own0 b hb)) frs'
    have ee:∀ g:Fl×Lo->Mn V,bnd (Fb (vs.map some++List.replicate (d.names.length - d.np) none)) g m=g (fl,r₃) m₃:=fun g=>by show (Fb _ m).bind _=_;rw [e3];rfl
    rw [ee] at hne ⊢
    cases kf with
    | next=>exact ⟨_,m₃,io₃,rfl,st0,H3,.none,sm.trans sm3⟩
    | cont=>exact absurd rfl hne
    | ret kv=>exact ⟨_,m₃,io₃,rfl,st0,H3,kv,sm.trans sm3⟩
   ·exact wpAny_mono (bV1 Rd.frames Z.fr H keep own0 sm q) (fun y_ y_ q=>q) fun y_ y_ q=>q.elim
 ·exact fun h=>absurd rfl h
end
end Mini.Internal
namespace Mini.Internal
open PySem PySem.W
section
variable {W:Wd} {K:Frag} {h h' h₀:Heap} {fs:List Env} {env:Env} {vis:List (Option Str)} {s s':Shared} {io io' io₀:Io} {m m' m₀:MH} {r r':Lo} {fr fr' own own':List Addr} {A:Around} {n:Nat} {pos p:Pos}
theorem bL5 {scope:Scope} (hc:∀ x k,(x,k)∈scope.names->k=.free->∃ c,env.cells.lookup x=some c) :
    ∃ cl,closureFor scope env=Pure.pure cl /\ (∀ x c,cl.lookup x=some c->env.cells.lookup x=some c) /\ (∀ x,(x,NameKind.free)∈scope.names->∃ c,cl.lookup x=some c):=by
  have key:∀ (l:List (Str×NameKind)) (f:(Str×NameKind)->List (Str×Addr)->Sem (ForInStep (List (Str×Addr)))) (cs:List (Str×Addr)),
      (∀ x k cs,f (x,k) cs=if k == .free then (do let c <- cellOf env x;Pure.pure (.yield ((x,c)::cs))) else Pure.pure (.yield cs)) ->
      (∀ x k,(x,k)∈l->k=.free->∃ c,env.cells.lookup x=some c)->(∀ x c,cs.lookup x=some c->env.cells.lookup x=some c) ->
      ∃ cl,forIn l cs f=Pure.pure cl /\ (∀ x c,cl.lookup x=some c->env.cells.lookup x=some c) /\ (∀ x,(x,NameKind.free)∈l->∃ c,cl.lookup x=some c) /\ (∀ x c,cs.lookup x=some c->∃ c',cl.lookup x=some c'):=by
    intro l
    induction l with
    | nil=>intro f cs _ _ h2;exact ⟨cs,rfl,h2,fun y_ q=>(by cases (q)),fun x c q=>⟨c,q⟩⟩
    | cons p l ih=>
      intro f cs hf hl h2
      rcases p with ⟨x,k⟩
      rw [List.forIn_cons,hf]
      by_cases q:k=.free
      · subst q
        rcases hl x .free (.head _) rfl with ⟨c,hcx⟩
        have e1:cellOf env x=Pure.pure c:=by unfold cellOf;rw [hcx]
        rw [e1]
        rcases ih f ((x,c)::cs) hf (fun y j hy=>hl y j (.tail _ hy)) (fun y c' hy=>by
          rw [List.lookup_cons] at hy
          cases z:y == x with
          | true=>rw [z] at hy;(refine aF hy fun z1=>?_;clear hy;subst z1);rw [beq_iff_eq.mp z];exact hcx
          | false=>rw [z] at hy;exact h2 y c' hy) with ⟨cl,g1,g2,g3,g4⟩
        refine ⟨cl,g1,g2,fun y hy=>?_,fun y c' hy=>?_⟩
        · rcases List.mem_cons.mp hy with e | hy
          · cases (e);exact g4 x c (by simp)
          · exact g3 y hy
        · by_cases z:y=x
          · subst z;exact g4 y c (by simp)
          · exact g4 y c' (by rw [List.lookup_cons];have:(y == x)=false:=by simpa using z
                              rw [this];exact hy)
      · have q':(k == NameKind.free)=false:=by simpa using q
        simp only [q',Bool.false_eq_true,if_false]
        refine hide fun G_ g_=>?_;rcases ih f cs hf (fun y j hy=>hl y j (.tail _ hy)) h2 with ⟨cl,g1,g2,g3,g4⟩;refine g_ ?_;clear g_ G_
        refine ⟨cl,g1,g2,fun y hy=>?_,g4⟩
        rcases List.mem_cons.mp hy with e | hy
        · cases (e);exact absurd rfl q
        · exact g3 y hy
  have e:closureFor scope env=(forIn scope.names ([]:List (Str×Addr)) (fun (p:Str×NameKind) cs=>if p.2 == .free then (do let c <- cellOf env p.1;Pure.pure (ForInStep.yield ((p.1,c)::cs))) else Pure.pure (ForInStep.yield cs)) >>= fun cs=>Pure.pure cs):=rfl
  rw [e]
  rcases key scope.names (fun (p:Str×NameKind) cs=>if p.2 == .free then (do let c <- cellOf env p.1;Pure.pure (ForInStep.yield ((p.1,c)::cs))) else Pure.pure (ForInStep.yield cs)) [] (fun x k cs=>rfl) hc (fun y_ y_ q=>by injection q) with ⟨cl,g1,g2,g3,y_⟩
  exact ⟨cl,by rw [g1];rfl,g2,g3⟩
theorem aL8 (H:HR W s.heap io m) (F:FR W s.heap io env vis r) (ho:env.locals∈own) {i:Nat} {x:Str} {v:V} {u:Value} (hv:vis[i]?=some (some x)) (hk:env.kindOf x=some .local) (k:VR W s.heap io v u) :
  Si W own A fs (RP W env vis) (storeName env x u) s io m (.ok (r.set i (some v)) m):=by
 intro y_
 have hi:i < vis.length:=(List.getElem?_eq_some_iff.mp hv).1
 have row:∀ (j:Nat) (y:Str) (w:V),vis[j]?=some (some y)->(r.set i (some v))[j]?=some (some w)->(y=x /\ w=v) \/ (y≠x /\ r[j]?=some (some w)):=by
  intro j y w h1 h2
  by_cases q:i=j
  ·subst q
   rw [List.getElem?_set_self (by rw [F.len];exact hi)] at h2
   rw [hv] at h1
   (refine aF h1 fun z1=>?_;clear h1;(first | (injection z1;done) | subst z1 | cases (z1)));(refine aF h2 fun z1=>?_;clear h2;(first | (injection z1;done) | subst z1 | cases (z1)));exact .inl ⟨rfl,rfl⟩
  ·rw [List.getElem?_set_ne q] at h2
   refine .inr ⟨fun e=>q (F.inj i j x hv (e▸h1)),h2⟩
 refine hide fun G_ g_=>?_
 rcases F.loc with ⟨mp,hn,hl⟩
 rcases id hn with ⟨oL,esL,epL,hoL,hdL,y_⟩
 refine g_ ?_
 clear g_ G_
 refine wpAny_storeName_local hk hn (fun h' hn' hs=>?_) (by rw [F.kind];rfl)
 have kk:∀ b o,b≠env.locals->s.heap.get? b=some o->h'.get? b=some o:=fun b o q e=>(hs.2 b q).trans e
 have lv:∀ o,s.heap.get? env.locals=some o->¬ cX o /\ ∃ o',h'.get? env.locals=some o':=fun o ho=>by
  rw [hoL] at ho;(refine aF ho fun z1=>?_;clear ho;subst z1)
  refine hide fun G_ g_=>?_;rcases id hn' with ⟨o',y_,y_,ho',y_⟩;refine g_ ?_;clear g_ G_
  exact ⟨cQ hdL,o',ho'⟩
 have st:Step own (frs fs) s.heap io m h' io m:=fN H (L:=env.locals) ho kk lv F.nofoot
 have H':HR W h' io m:=H.ofOwn (own:=own) (L:=env.locals) ho kk lv F.nofoot F.fresh
 refine ⟨_,m,io,rfl,st,H',?_,rfl,rfl⟩
 refine ⟨F.kind,F.glob,F.blt,F.nofoot,F.fresh,⟨_,hn',fun j y w h1 h2 h3=>?_⟩,fun j y w h1 h2 h3=>?_,fun y c hy=>?_,F.celex,F.apart,F.inj,by simp [F.len]⟩
 ·rcases row j y w h1 h2 with ⟨rfl,rfl⟩ | ⟨q,h2⟩
  ·exact ⟨u,by simp,k.step st⟩
  ·refine hide fun G_ g_=>?_;rcases hl j y w h1 h2 h3 with ⟨u',e,k'⟩;refine g_ ?_;clear g_ G_
   exact ⟨u',by simp [q,e],k'.step st⟩
 ·rcases row j y w h1 h2 with ⟨rfl,rfl⟩ | ⟨q,h2⟩
  ·rw [hk] at h3;simp at h3
  ·refine hide fun G_ g_=>?_;rcases F.cel j y w h1 h2 h3 with ⟨c,u',e,k1,k2⟩;refine g_ ?_;clear g_ G_
   refine ⟨c,u',e,?_,k2.step st⟩
   refine hide fun G_ g_=>?_;rcases k1 with ⟨oc,hoc,hdc⟩;refine g_ ?_;clear g_ G_
   exact ⟨oc,kk c oc (F.cells y c e).2.2 hoc,hdc⟩
 ·refine hide fun G_ g_=>?_;rcases F.cells y c hy with ⟨⟨o,oc,hoc,hdc⟩,k2,k3⟩;refine g_ ?_;clear g_ G_
  exact ⟨⟨o,oc,kk c oc k3 hoc,hdc⟩,k2,k3⟩
theorem FR.weak (F:FR W h io env vis r) (k:∀ (j:Nat) (w:V),r'[j]?=some (some w)->r[j]?=some (some w)) (hl:r'.length=r.length):FR W h io env vis r':=by
 refine hide fun G_ g_=>?_;rcases F.loc with ⟨mp,hn,hl'⟩;refine g_ ?_;clear g_ G_
 exact ⟨F.kind,F.glob,F.blt,F.nofoot,F.fresh,⟨mp,hn,fun i x v h1 h2 h3=>hl' i x v h1 (k i v h2) h3⟩,fun i x v h1 h2 h3=>F.cel i x v h1 (k i v h2) h3,F.cells,F.celex,F.apart,F.inj,hl.trans F.len⟩
noncomputable def f8 (ifs:List Expr) (env:Env) (b:Bool):Sem Bool:=forIn ifs b fun c r=>if r=true then do let ok <- isTrue c env (eval c env);Pure.pure (ForInStep.yield ok) else Pure.pure (ForInStep.yield r)
theorem aY4 (ifs:List Expr):f8 ifs env false=Pure.pure false:=by
 induction ifs with
 | nil=>rfl
 | cons c cs ih=>unfold f8;rw [List.forIn_cons];exact ih
theorem dG5:SiB W A fs env vis (f8 [] env true) (fun y_=>ret true):=fun y_ y_ y_ y_ Z=>.pure (u:=true) Z.H rfl
theorem cW3 {c:Expr} {cs:List Expr} {ct cts:Lo->Mn Bool} (hc:SiB W A fs env vis (isTrue c env (eval c env)) ct) (hs:SiB W A fs env vis (f8 cs env true) cts) :
  SiB W A fs env vis (f8 (c::cs) env true) (fun r=>bnd (ct r) fun b=>if b then cts r else ret false):=by
 intro s io m r Z hne
 unfold f8
 rw [List.forIn_cons]
 refine wpAny_bind ?_
 simp only [if_true]
 refine wpAny_bind (wpAny_mono (hc s io m r Z (Res.bind_ne hne)) (fun b s₁ q=>wpAny_pure ?_) fun y_ y_ q=>q.bind .refl (.refl _))
 refine hide fun G_ g_=>?_;rcases q with ⟨b',m₁,io₁,e1,st,H₁,rfl,sm⟩;refine g_ ?_;clear g_ G_
 have ee:bnd (ct r) (fun b=>if b then cts r else ret false) m=(if b' then cts r else ret false) m₁:=by show (ct r m).bind _=_;rw [e1];rfl
 dsimp only at hne ⊢
 rw [ee] at hne ⊢
 cases b' with
 | false=>
  show wpAny _ _ (f8 cs env false) _ _ _
  rw [aY4]
  exact wpAny_pure ⟨false,m₁,io₁,rfl,st,H₁,rfl,sm⟩
 | true=>exact wpAny_mono (hs s₁ io₁ m₁ r (Z.step H₁ st) hne) (fun y_ y_ z=>z.mono st sm) fun y_ y_ z=>z.mono st sm
theorem aE3 {env:Env}:∀ {names:List (Str×NameKind)} {x:Str},names.lookup x=some .free ->
  (names.map fun (n,k)=>if (k == NameKind.free&&env.scope.kind == .function&&env.kindOf n == some .cell) then (n,NameKind.cell) else (n,k)).lookup x=some .cell \/ (names.map fun (n,k)=>if (k == NameKind.free&&env.scope.kind == .function&&env.kindOf n == some .cell) then (n,NameKind.cell) else (n,k)).lookup x=some .free
 | [],_,h=>by simp at h
 | (n,k)::r,x,h=>by
  have ih:=@aE3 env r x
  simp only [List.map_cons]
  cases hx:x == n with
  | true=>
   simp only [List.lookup_cons,hx] at h
   (refine aF h fun z1=>?_;clear h;subst z1)
   by_cases hc:(NameKind.free == NameKind.free&&env.scope.kind == .function&&env.kindOf n == some .cell)=true
   ·rw [if_pos hc];left;simp [List.lookup_cons,hx]
   ·rw [if_neg hc];right;simp [List.lookup_cons,hx]
  | false=>
   simp only [List.lookup_cons,hx] at h
   by_cases hc:(k == NameKind.free&&env.scope.kind == .function&&env.kindOf n == some .cell)=true
   ·rw [if_pos hc];simp only [List.lookup_cons,hx];exact ih h
   ·rw [if_neg hc];simp only [List.lookup_cons,hx];exact ih h
structure CompOk (scope:Scope) (env:Env) (vis vis':List (Option Str)) (nl:Nat):Prop where
 kind:scope.kind=.function
 names:∀ x∈scope.names,x.2=.local->scope.names.lookup x.1=some .local
 cell:∀ x∈scope.names,x.2≠.cell
 cap:∀ x∈scope.names,x.2=.free->∃ i:Nat,vis[i]?=some (some x.1) /\ (env.kindOf x.1=some .cell \/ env.kindOf x.1=some .free)
 see:∀ (i:Nat) (x:Str),vis'[i]?=some (some x)->(vis.length <= i /\ scope.names.lookup x=some .local) \/ (vis[i]?=some (some x) /\ scope.names.lookup x=some .free)
 inj:∀ (i j:Nat) (x:Str),vis'[i]?=some (some x)->vis'[j]?=some (some x)->i=j
 len:vis'.length=vis.length+nl
theorem bL3 {scope:Scope} {vis':List (Option Str)} {nl:Nat} {cl:List (Str×Addr)} {C:Addr} (ck:CompOk scope env vis vis' nl) (H:HR W h io m) (F:FR W h io env vis r) (g2:∀ x c,cl.lookup x=some c->env.cells.lookup x=some c) (g3:∀ x,(x,NameKind.free)∈scope.names->∃ c,cl.lookup x=some c)
  (hk:∀ b o,h.get? b=some o->h'.get? b=some o) (hC:h.get? C=none) (hn:h'.Ns C (fun y_=>none)):FR W h' io (compEnvC scope cl C env) vis' (r++List.replicate nl none):=by
 have basN:W.base.get? C=none:=by
  cases q:W.base.get? C with
  | none=>rfl
  | some o=>rw [H.keep _ _ q] at hC;injection hC
 have nf:¬ dJ io C:=fun f=>by
  refine hide fun G_ g_=>?_;rcases H.foot f with ⟨o,ho,y_⟩;refine g_ ?_;clear g_ G_
  rw [hC] at ho;injection ho
 have st:Step [] [] h io m h' io m:=.of_keeps H hk
 have F':=F.step0 H st
 have old:∀ (i:Nat) (x:Str) (v:V),vis'[i]?=some (some x)->(r++List.replicate nl none)[i]?=some (some v)->vis[i]?=some (some x) /\ scope.names.lookup x=some .free /\ r[i]?=some (some v):=by
  intro i x v h1 h2
  have hi:i < r.length:=by
   rcases Nat.lt_or_ge i r.length with q | q
   ·exact q
   ·rw [List.getElem?_append_right q] at h2
    have:=List.mem_of_getElem? h2
    simp at this
  rw [List.getElem?_append_left hi] at h2
  rcases ck.see i x h1 with ⟨q,_⟩ | ⟨q1,q2⟩
  ·rw [F.len] at hi;lia
  ·exact ⟨q1,q2,h2⟩
 have kd:∀ x,scope.names.lookup x=some .free->(compEnvC scope cl C env).kindOf x=some .cell \/ (compEnvC scope cl C env).kindOf x=some .free:=fun x hx=>aE3 hx
 have capk:∀ x,scope.names.lookup x=some .free->env.kindOf x=some .cell \/ env.kindOf x=some .free:=fun x hx=>by
  refine hide fun G_ g_=>?_;rcases ck.cap (x,.free) (mem_of_lookup hx) rfl with ⟨i,y_,q⟩;refine g_ ?_;clear g_ G_
  exact q
 refine ⟨ck.kind,F.glob,F.blt,nf,basN,⟨_,hn,fun i x v h1 h2 h3=>?_⟩,fun i x v h1 h2 h3=>?_,fun x c hc=>?_,fun i x h1 h2=>?_,fun x y c h1 h2=>F.apart x y c (g2 x c h1) (g2 y c h2),ck.inj,by simp [F.len,ck.len]⟩
 ·refine hide fun G_ g_=>?_;rcases old i x v h1 h2 with ⟨q1,q2,q3⟩;refine g_ ?_;clear g_ G_
  rcases kd x q2 with e | e <;> rw [e] at h3 <;> (refine aF h3 fun z1=>?_;clear h3;(first | (injection z1;done) | subst z1 | cases (z1)))
 ·refine hide fun G_ g_=>?_
  rcases old i x v h1 h2 with ⟨q1,q2,q3⟩
  rcases F'.cel i x v q1 q3 (capk x q2) with ⟨c,u,e,k1,k2⟩
  refine g_ ?_
  clear g_ G_
  rcases g3 x (mem_of_lookup q2) with ⟨c',hc'⟩
  have:=g2 x c' hc'
  rw [e] at this;(refine aF this fun z1=>?_;clear this;subst z1)
  exact ⟨c,u,hc',k1,k2⟩
 ·refine hide fun G_ g_=>?_;rcases F'.cells x c (g2 x c hc) with ⟨k1,k2,k3⟩;refine g_ ?_;clear g_ G_
  refine ⟨k1,k2,fun e=>?_⟩
  refine hide fun G_ g_=>?_;rcases F.cells x c (g2 x c hc) with ⟨⟨y_,o,ho,y_⟩,y_⟩;refine g_ ?_;clear g_ G_
  rw [e] at ho;rw [show (compEnvC scope cl C env).locals=C from rfl,hC] at ho;injection ho
 ·rcases ck.see i x h1 with ⟨_,q⟩ | ⟨q1,q2⟩
  ·have:(compEnvC scope cl C env).kindOf x=some .local:=lookup_relabel_local q
   rcases h2 with e | e <;> rw [this] at e <;> (refine aF e fun z1=>?_;clear e;(first | (injection z1;done) | subst z1 | cases (z1)))
  ·exact g3 x (mem_of_lookup q2)
theorem cJ3 {g:Gd} {step:V->Mn (Option V)}:∀ {vs:List V} {m:MH},bS g step vs m≠.bad->∃ l m',bS g step vs m=.ok l m':=by
 intro vs
 induction vs with
 | nil=>
  intro m h
  by_cases q:g.stays m=true
  ·exact ⟨[],m,if_pos q⟩
  ·exact absurd (if_neg q) h
 | cons v vs ih=>
  intro m h
  by_cases q:g.stays m=true
  ·have ec:bS g step (v::vs) m=((step v m).nox).bind (fun o=>bnd (bS g step vs) fun r=>ret (eP o r)):=if_pos q
   rw [ec] at h ⊢
   cases e:step v m with
   | bad=>rw [e] at h;exact absurd rfl h
   | exc c m'=>rw [e] at h;exact absurd rfl h
   | ok o m'=>
    rw [e] at h
    have h':(bS g step vs m').bind (fun r=>ret (eP o r))≠.bad:=h
    refine hide fun G_ g_=>?_;rcases ih (Res.bind_ne h') with ⟨l,m'',e'⟩;refine g_ ?_;clear g_ G_
    refine ⟨eP o l,m'',?_⟩
    show (bS g step vs m').bind (fun r=>ret (eP o r))=_
    rw [e'];rfl
  ·exact absurd (if_neg q) h
theorem bL4 {g:Gd} {step:V->Mn (Option V)} {v:V} {vs:List V} {L:List V} {m mL:MH} (h:bS g step (v::vs) m=.ok L mL):g.stays m=true /\ ∃ o m' L',step v m=.ok o m' /\ bS g step vs m'=.ok L' mL /\ L=eP o L':=by
 by_cases q:g.stays m=true
 ·have ec:bS g step (v::vs) m=((step v m).nox).bind (fun o=>bnd (bS g step vs) fun r=>ret (eP o r)):=if_pos q
  rw [ec] at h
  refine ⟨q,?_⟩
  cases e:step v m with
  | bad=>rw [e] at h;injection h
  | exc c m'=>rw [e] at h;injection h
  | ok o m'=>
   rw [e] at h
   have h':(bS g step vs m').bind (fun r=>ret (eP o r))=.ok L mL:=h
   cases e2:bS g step vs m' with
   | bad=>rw [e2] at h';injection h'
   | exc c m''=>rw [e2] at h';injection h'
   | ok l m''=>
    rw [e2] at h'
    (refine aC5 h' fun z1 z2=>?_;clear h';subst z1;subst z2)
    exact ⟨o,m',l,rfl,e2,rfl⟩
 ·have ec:bS g step (v::vs) m=.bad:=if_neg q
  rw [ec] at h;injection h
theorem b7 {g:Gd} {step:V->Mn (Option V)} {vs:List V} {L:List V} {m mL:MH} (h:bS g step vs m=.ok L mL):g.stays m=true:=by
 cases q:g.stays m with
 | true=>rfl
 | false=>
  have z:¬ g.stays m=true:=by rw [q];exact Bool.false_ne_true
  have ec:bS g step vs m=.bad:=by cases vs with
   | nil=>exact if_neg z
   | cons y_ y_=>exact if_neg z
  rw [ec] at h;injection h
end
end Mini.Internal
namespace Mini.Internal
open PySem PySem.W
section
variable {W:Wd} {K:Frag} {h h' h₀:Heap} {fs:List Env} {env:Env} {vis:List (Option Str)} {s s' s₀:Shared} {io io' io₀:Io} {m m' m₀:MH} {r r':Lo} {fr fr' own own':List Addr} {A:Around} {n:Nat} {pos p:Pos}
noncomputable def TgL (vis vis':List (Option Str)):List Nat->List Expr->Prop
 | [],es=>es=[]
 | i::is,es=>∃ x p es',es=.Name x p::es' /\ vis'[i]?=some (some x) /\ vis.length <= i /\ TgL vis vis' is es'
inductive CTg (A:Around) (vis vis':List (Option Str)):CT->Expr->Prop
 | one (j:Nat) (x:Str) (px:Pos):vis'[j]?=some (some x)->vis.length <= j->CTg A vis vis' (.one j) (.Name x px)
 | many (is:List Nat) (es:List Expr) (k:Nat) (p:Pos):A.handled=none->TgL vis vis' is es->CTg A vis vis' (.many is) (.Tuple es k p)
noncomputable def Hol (vis:List (Option Str)) (row r:Lo):Prop:=r.length=row.length /\ ∀ a w,a < vis.length->row[a]?=some (some w)->r[a]?=some (some w)
theorem Hol.set {vis:List (Option Str)} {row r:Lo} {j:Nat} {v:Option V} (h:Hol vis row r) (hj:vis.length <= j):Hol vis row (r.set j v):=
 ⟨by rw [List.length_set];exact h.1,fun a w ha e=>by rw [List.getElem?_set_ne (fun q=>Nat.not_lt.mpr hj (by rw [q];exact ha))];exact h.2 a w ha e⟩
theorem cE0 {t:CT} {v:V} {r r':Lo} {m m':MH} (h:aH5 t v r m=.ok r' m'):m'=m:=by
 cases t with
 | one i=>(refine aC5 h fun z1 z2=>?_;clear h;subst z1;subst z2);rfl
 | many is=>
  cases v with
  | tup vs=>
   have h:ofO (cG is vs r) m=.ok r' m':=h
   cases q:cG is vs r with
   | none=>rw [q] at h;injection h
   | some r1=>rw [q] at h;(refine aC5 h fun z1 z2=>?_;clear h;subst z1;subst z2);rfl
  | _=>injection h
theorem TgL.tgs {cenv:Env} {vis vis':List (Option Str)} (lk:∀ (j:Nat) (x:Str),vis'[j]?=some (some x)->vis.length <= j->cenv.kindOf x=some .local):∀ {is:List Nat} {es:List Expr},TgL vis vis' is es->Tgs cenv vis' is es
 | [],_,h=>h
 | i::is,_,h=>by
  rcases h with ⟨x,p,es',e,hv,hi,t⟩
  exact ⟨x,p,es',e,hv,.inl (lk i x hv hi),t.tgs lk⟩
theorem cN2 {cenv:Env} {vis':List (Option Str)} {row:Lo} (lk:∀ (j:Nat) (x:Str),vis'[j]?=some (some x)->vis.length <= j->cenv.kindOf x=some .local):∀ {is:List Nat} {elts:List Expr},TgL vis vis' is elts->∀ {vs:List V} {us:List Value} {s:Shared} {io:Io} {m:MH} {r:Lo},HR W s.heap io m->FR W s.heap io cenv vis' r->Hol vis row r->VRs W s.heap io vs us ->
  Si W [cenv.locals] A fs (fun h io r' (_:Unit)=>FR W h io cenv vis' r' /\ Hol vis row r') (assignInOrder ((assignEach elts cenv).map (·.2)) us) s io m (ofO (cG is vs r) m)
 | [],_,h,vs,us,s,io,m,r,H,F,hl,k=>by
  subst h
  induction k using VRs.elim with
  | nil=>exact Si.pure (P:=fun h io r' (_:Unit)=>FR W h io cenv vis' r' /\ Hol vis row r') H ⟨F,hl⟩
  | cons y_ y_=>exact Si.bad
 | i::is,_,z,vs,us,s,io,m,r,H,F,hl,k=>by
  rcases z with ⟨x,p,es',e,hv,hi,t⟩
  subst e
  induction k using VRs.elim with
  | nil=>exact Si.bad
  | @cons v u vs us k1 k2=>
   refine Si.bind (R:=(.ok (r.set i (some v)) m:Res Lo)) (f:=fun r' m'=>ofO (cG is vs r') m') (.holding (.standAt (pos:=p) (.bindName (aL8 (own:=[cenv.locals]) H F (.head _) hv (lk i x hv hi) k1)))) fun y_ s₁ io₁ m₁ r₁ e st H1 kF sm=>?_
   (refine aC5 e fun z1 z2=>?_;clear e;subst z1;subst z2)
   exact cN2 lk t H1 kF (hl.set hi) (k2.step st)
theorem bX8 {cenv:Env} {vis':List (Option Str)} {row:Lo} {t:CT} {tg:Expr} (g:CTg A vis vis' t tg) (lk:∀ (j:Nat) (x:Str),vis'[j]?=some (some x)->vis.length <= j->cenv.kindOf x=some .local) {v:V} {u:Value} (H:HR W s.heap io m) (F:FR W s.heap io cenv vis' row) (k:VR W s.heap io v u) :
  Si W [cenv.locals] A fs (fun h io r' (_:Unit)=>FR W h io cenv vis' r' /\ Hol vis row r') (assign tg cenv u) s io m (aH5 t v row m):=by
 have h0:Hol vis row row:=⟨rfl,fun y_ y_ y_ e=>e⟩
 cases g with
 | one j x px hv hj=>
  intro hne
  refine wpAny_assign_Name (wpAny_mono (aL8 (own:=[cenv.locals]) (A:=A) (fs:=fs) H F (.head _) hv (lk j x hv hj) k (fun q=>nomatch q)) (fun y_ s₂ q=>?_) fun y_ y_ q=>q)
  rcases q with ⟨r₂,mq,io₂,e2,st2,H2,F2,sm2⟩
  (refine aC5 e2 fun z1 z2=>?_;clear e2;subst z1;subst z2)
  exact ⟨_,_,_,rfl,st2,H2,⟨F2,h0.set hj⟩,sm2⟩
 | many is es c p hh ht=>
  induction k using VR.elim with
  | @tup a vs c xs h1 h4=>
   show Si W [cenv.locals] A fs _ _ s io m (ofO (cG is xs row) m)
   intro hne
   have hl:is.length=xs.length:=by
    cases q:cG is xs row with
    | none=>rw [q] at hne;exact absurd rfl hne
    | some r'=>exact aA1 q
   have tl:=(ht.tgs lk).len
   refine wpAny_assign_Tuple hh ⟨_,h1,rfl,c,rfl⟩ (by rw [tl.1,hl];have:=h4.length;simpa using this.symm) tl.2 fun h' hx=>?_
   have hk:∀ b o,s.heap.get? b=some o->h'.get? b=some o:=fun b o e=>hx b o (fun q=>by rw [q,aZ] at e;injection e) e
   have st:Step [cenv.locals] (frs fs) s.heap io m h' io m:=.of_keeps H hk
   have st0:Step [] (frs fs) s.heap io m h' io m:=.of_keeps H hk
   exact wpAny_mono (cN2 (s:={ s with heap:=h' }) lk ht (H.of_keeps hk) (F.step0 H st0) h0 (h4.step st) hne) (fun y_ y_ z=>z.mono st ⟨rfl,rfl⟩) fun y_ y_ z=>z.mono st ⟨rfl,rfl⟩
  | _=>exact Si.bad
theorem bY0 {elt target iter:Expr} {ifs:List Expr} {scope:Scope} {it acc:Value} {env:Env} {R:Result->Shared->Prop} (I:Nat->Shared->Prop)
  (turn:∀ n s,I n s->wpAny (model W.prog W.w) A (pyNext it) (fun o s₁=>match o with
   | none=>R (.ok .next) s₁
   | some v=>wpAny (model W.prog W.w) A (letOwnedTupleGo target it v) (fun y_ s₁=>wpAny (model W.prog W.w) A (assign target env v) (fun y_ s₂=>wpAny (model W.prog W.w) A (f8 ifs env true) (fun ok s₃=>
     if ok=true then wpAny (model W.prog W.w) A (eval elt env) (fun x s₄=>wpAny (model W.prog W.w) A (call (.builtin "list.append") [acc,x]) (fun y_ s₅=>∃ k,k < n /\ I k s₅) (notedBy (model W.prog W.w) A env fun e s'=>R (.error e) s') s₄) (notedBy (model W.prog W.w) A env fun e s'=>R (.error e) s') s₃
     else ∃ k,k < n /\ I k s₃) (notedBy (model W.prog W.w) A env fun e s'=>R (.error e) s') s₂) (notedBy (model W.prog W.w) A env fun e s'=>R (.error e) s') s₁) (notedBy (model W.prog W.w) A env fun e s'=>R (.error e) s') s₁) (notedBy (model W.prog W.w) A env fun e s'=>R (.error e) s') s)
  (n:Nat) (h:I n s):codeAny (model W.prog W.w) A (.compLoop (.ListComp elt [⟨target,iter,ifs,0⟩] scope pos) 0 it acc env) R s:=by
 refine codeAny_loop rfl I (fun n s hI=>?_) n h
 refine wpAny_noted ?_
 rw [compTurn_list]
 have up:∀ {α:Type} {t:Sem α} {Q Q':α->Shared->Prop} {E:Value->Shared->Prop} {s:Shared},wpAny (model W.prog W.w) A t Q E s->(∀ a s,Q a s->Q' a s)->wpAny (model W.prog W.w) A t Q' E s:=fun h k=>wpAny_mono h k fun y_ y_ q=>q
 refine wpAny_bind (wpAny_standAt (wpAny_bind (up (turn n s hI) fun o s₁ h₁=>?_)))
 cases o with
 | none=>exact wpAny_pure h₁
 | some v=>
  refine wpAny_bind (up h₁ fun y_ s₁ h₁=>wpAny_bind (up h₁ fun y_ s₂ h₂=>wpAny_bind (up h₂ fun ok s₃ h₃=>?_)))
  cases ok with
  | false=>exact wpAny_pure ⟨rfl,h₃⟩
  | true=>exact wpAny_bind (wpAny_bind (up h₃ fun x s₄ h₄=>wpAny_bind (up h₄ fun y_ s₅ h₅=>wpAny_pure (wpAny_pure ⟨rfl,h₅⟩))))
noncomputable def fF (t:CT) (row:Lo) (cif:Lo->Mn Bool) (celt:Lo->Mn V) (v:V):Mn (Option V):=
 bnd (aH5 t v row) fun r'=>bnd (cif r') fun b=>if b then bnd (celt r') fun x=>ret (some x) else ret none
theorem aK2 {us:Array Value} {c:Nat}:¬ cX (fQ us c):=by
 rintro (⟨e,y_⟩ | ⟨y_,y_,y_,e⟩)
 ·simp at e
 ·injection e
inductive CInv (W:Wd) (fs:List Env) (s₀:Shared) (io₀:Io) (m₀:MH) (cenv:Env) (vis':List (Option Str)) (row:Lo) (St:Nat->Heap->Io->Prop) (D:Addr) (g:Gd) (f:V->Mn (Option V)) (vs L:List V) (mL:MH) (k:Nat) (s':Shared):Prop
 | mk (i:Nat) (io':Io) (m':MH) (outs L':List V) (us:Array Value) (c:Nat):k=vs.length - i->i <= vs.length->Step [] (frs fs) s₀.heap io₀ m₀ s'.heap io' m'->HR W s'.heap io' m'->FR W s'.heap io' cenv vis' row->St i s'.heap io'->s'.heap.get? D=some (fQ us c)->VRs W s'.heap io' outs us.toList->¬ dJ io' D->Same s₀ s' ->
   bS g f (vs.drop i) m'=.ok L' mL->L=outs++L'->CInv W fs s₀ io₀ m₀ cenv vis' row St D g f vs L mL k s'
theorem bY1 {elt iter:Expr} {ifs:List Expr} {scope:Scope} {cpos:Pos} {tg:Expr} {t:CT} {cenv:Env} {vis':List (Option Str)} {row:Lo} {D I:Addr} {wr:List Addr} {g:Gd} {vs L:List V} {St:Nat->Heap->Io->Prop} {c0:Nat} {cif:Lo->Mn Bool} {celt:Lo->Mn V} {io₂:Io} {m₂ mL:MH} {RR:Result->Shared->Prop}
  (H0:HR W s₀.heap io₀ m₀) (G0:FF W s₀.heap io₀ fs) (hw:Wk W A I wr g vs St) (hnew:∀ b∈wr,s₀.heap.get? b=none) (hD0:s₀.heap.get? D=none) (hC0:s₀.heap.get? cenv.locals=none) (hDC:D≠cenv.locals) (hDw:D∉wr) (hCw:cenv.locals∉wr)
  (hg:CTg A vis vis' t tg) (lk:∀ (j:Nat) (x:Str),vis'[j]?=some (some x)->vis.length <= j->cenv.kindOf x=some .local) (hrow:∀ a w,row[a]?=some (some w)->a < vis.length) (hcel:∀ y c,cenv.cells.lookup y=some c->∃ o,s₀.heap.get? c=some o)
  (hifs:SiB W A fs cenv vis' (f8 ifs cenv true) cif) (helt:SiE W A fs cenv vis' (eval elt cenv) celt)
  (st₂:Step [] (frs fs) s₀.heap io₀ m₀ s.heap io₂ m₂) (H₂:HR W s.heap io₂ m₂) (F₂:FR W s.heap io₂ cenv vis' row) (hst₂:St 0 s.heap io₂) (hD₂:s.heap.get? D=some (fQ #[] c0)) (nfD:¬ dJ io₂ D) (sm₂:Same s₀ s)
  (hL:bS g (fF t row cif celt) vs m₂=.ok L mL) (hlen:L.length <= lid)
  (fin:∀ s' io' us c,Step [] (frs fs) s₀.heap io₀ m₀ s'.heap io' mL->HR W s'.heap io' mL->s'.heap.get? D=some (fQ us c)->VRs W s'.heap io' L us.toList->¬ dJ io' D->(∃ mC,s'.heap.Ns cenv.locals mC) /\ ¬ dJ io' cenv.locals->Same s₀ s'->RR (.ok .next) s') :
  codeAny (model W.prog W.w) A (.compStart (.ListComp elt [⟨tg,iter,ifs,0⟩] scope cpos) 0 (.ref I) (.ref D) cenv) RR s:=by
 have hFr:∀ b∈frs fs,∃ o,s₀.heap.get? b=some o:=fun b hb=>by
  refine hide fun G_ g_=>?_
  rcases List.mem_filterMap.mp hb with ⟨e,he,hf⟩
  rcases G0 e he with ⟨y_,L,o,y_,y_,h1,y_,y_,h4,y_⟩
  refine g_ ?_
  clear g_ G_
  rw [h1] at hf;(refine aF hf fun z1=>?_;clear hf;subst z1);exact ⟨o,h4⟩
 have frN:∀ b,s₀.heap.get? b=none->b∉frs fs:=fun b e q=>by rcases hFr b q with ⟨o,ho⟩;rw [e] at ho;injection ho
 have hbase:∀ b o,W.base.get? b=some o->s₀.heap.get? b=some o:=H0.keep
 have basD:W.base.get? D=none:=by
  cases q:W.base.get? D with
  | none=>rfl
  | some o=>rw [hbase _ _ q] at hD0;injection hD0
 have celN:∀ y c,cenv.cells.lookup y=some c->∀ b,s₀.heap.get? b=none->c≠b:=fun y c hy b hb e=>by
  rcases hcel y c hy with ⟨o,ho⟩
  rw [e,hb] at ho;injection ho
 have loop:codeAny (model W.prog W.w) A (.compLoop (.ListComp elt [⟨tg,iter,ifs,0⟩] scope cpos) 0 (.ref I) (.ref D) cenv) RR s:=by
  refine bY0 (I:=CInv W fs s₀ io₀ m₀ cenv vis' row St D g (fF t row cif celt) vs L mL) (fun k s' hI=>?_) vs.length ⟨0,io₂,m₂,[],L,#[],c0,by simp,Nat.zero_le _,st₂,H₂,F₂,hst₂,hD₂,.nil,nfD,sm₂,by simpa using hL,by simp⟩
  refine hide fun G_ g_=>?_;rcases hI with ⟨i,io',m',outs,L',us,c,hk',hi,st,H,F,hst,hD,hus,nf,sm,he,hLe⟩;refine g_ ?_;clear g_ G_
  have hgd:=b7 he
  have sft:=hw.soft hst
  by_cases hlt:i < vs.length
  ·have hvi:vs[i]?=some vs[i]:=List.getElem?_eq_getElem hlt
   rw [List.drop_eq_getElem_cons hlt] at he
   refine hide fun G_ g_=>?_;rcases bL4 he with ⟨y_,o,m₅,L₅,es,ec,eL⟩;refine g_ ?_;clear g_ G_
   refine hw.item hvi hst H hgd fun u h₂ tk ku hst₂ kk₂=>hw.lot (s:={ s' with heap:=h₂,toks:=tk }) hst₂ fun h₁ hst₁ kk₁=>?_
   have kk:∀ b o,b∉wr->s'.heap.get? b=some o->h₁.get? b=some o:=fun b o hb e=>kk₁ b o hb (kk₂ b o hb e)
   have sd:Side W wr s₀.heap s'.heap io' h₁:=⟨kk,hnew,fun b hb=>(sft b hb).1,fun b hb=>(sft b hb).2⟩
   have H1:=sd.hr H hbase
   have st1:=sd.step H st
   have F1:=F.sideN sd hCw fun y c hy q=>celN y c hy c (hnew c q) rfl
   have hD1:h₁.get? D=some (fQ us c):=kk _ _ hDw hD
   have hus1:=hus.sol sd.sol
   have ku1:=ku.sol sd.sol
   have es0:(aH5 t vs[i] row m').bind (fun r'=>bnd (cif r') fun b=>if b then bnd (celt r') fun x=>ret (some x) else ret none)=.ok o m₅:=es
   have hne0:aH5 t vs[i] row m'≠.bad:=fun q=>by rw [q] at es0;injection es0
   refine wpAny_mono (bX8 (s:={ s' with heap:=h₁,toks:=tk }) (A:=A) (fs:=fs) hg lk H1 F1 ku1 hne0) (fun y_ s₂ q=>?_) fun e s₂ q=>?_
   rotate_left
   ·refine hide fun G_ g_=>?_;rcases q with ⟨c',m'',io'',a,g',h1,y_⟩;refine g_ ?_;clear g_ G_
    rw [h1] at es0;injection es0
   refine hide fun G_ g_=>?_;rcases q with ⟨r₂,mq,io₂',e2,st2,H2,⟨F2,hol⟩,sm2⟩;refine g_ ?_;clear g_ G_
   have em:=(cE0 e2).symm
   subst em
   rw [e2] at es0
   have st2':Step [] (frs fs) s₀.heap io₀ m₀ s₂.heap io₂' m':=by
    refine ((st1.wk (own':=[cenv.locals]) fun y_ q=>nomatch q).trans st2).shrink H0 (fun y_ y_ e=>e) (fun b hb=>?_) fun b hb=>.inr hb
    rw [List.mem_singleton.mp hb];exact .inl hC0
   have hD2:s₂.heap.get? D=some (fQ us c):=st2.keep _ _ hD1 nf (by simpa using hDC) (frN _ hD0)
   have nf2:¬ dJ io₂' D:=st2.nofoot hD1 nf
   have hus2:=hus1.step st2
   have hst2:St (i+1) s₂.heap io₂':=hw.stay hst₁ H1 H2 st2 (fun b hb=>⟨fun q=>hCw (by rw [<- List.mem_singleton.mp q];exact hb),frN _ (hnew b hb)⟩) hgd hgd
   have Z2:Sit W fs cenv vis' s₂ io₂' m' r₂:=⟨H2,F2,G0.step0 st2'⟩
   have es':(cif r₂ m').bind (fun b=>if b then bnd (celt r₂) fun x=>ret (some x) else ret none)=.ok o m₅:=es0
   have hne1:cif r₂ m'≠.bad:=fun q=>by rw [q] at es';injection es'
   refine wpAny_mono (hifs s₂ io₂' m' _ Z2 hne1) (fun ok s₃ q=>?_) fun e s₃ q=>?_
   rotate_left
   ·refine hide fun G_ g_=>?_;rcases q with ⟨c',m'',io'',a,g',h1,y_⟩;refine g_ ?_;clear g_ G_
    rw [h1] at es';injection es'
   refine hide fun G_ g_=>?_;rcases q with ⟨ok',m₃,io₃,e3,st3,H3,rfl,sm3⟩;refine g_ ?_;clear g_ G_
   rw [e3] at es'
   have Z3:=Z2.step H3 st3
   have hD3:s₃.heap.get? D=some (fQ us c):=st3.keep _ _ hD2 nf2 (fun q=>nomatch q) (frN _ hD0)
   have wrN:∀ b∈wr,b∉([]:List Addr) /\ b∉frs fs:=fun b hb=>⟨(fun q=>nomatch q),frN _ (hnew b hb)⟩
   have weak:∀ {h:Heap} {io:Io},FR W h io cenv vis' r₂->FR W h io cenv vis' row:=fun F=>F.weak (fun a w e=>hol.2 a w (hrow a w e) e) hol.1.symm
   cases ok' with
   | false=>
    simp only [Bool.false_eq_true,if_false]
    have es2:(Res.ok none m₃:Res (Option V))=.ok o m₅:=es'
    (refine aC5 es2 fun z1 z2=>?_;clear es2;subst z1;subst z2)
    refine ⟨vs.length - (i+1),hk'▸Nat.sub_succ_lt_self _ _ hlt,i+1,io₃,m₃,outs,L₅,us,c,rfl,hlt,st2'.trans st3,H3,weak Z3.F,hw.stay hst2 H2 H3 st3 wrN hgd (b7 ec),hD3,hus2.step st3,st3.nofoot hD2 nf2,(sm.trans (Same.trans ⟨rfl,rfl⟩ sm2)).trans sm3,ec,?_⟩
    rw [hLe,eL];rfl
   | true=>
    simp only [if_true]
    have es2:(celt r₂ m₃).bind (fun x=>ret (some x))=.ok o m₅:=es'
    have hne2:celt r₂ m₃≠.bad:=fun q=>by rw [q] at es2;injection es2
    refine wpAny_mono (helt s₃ io₃ m₃ _ Z3 hne2) (fun y s₄ q=>?_) fun e s₄ q=>?_
    rotate_left
    ·refine hide fun G_ g_=>?_;rcases q with ⟨c',m'',io'',a,g',h1,y_⟩;refine g_ ?_;clear g_ G_
     rw [h1] at es2;injection es2
    refine hide fun G_ g_=>?_;rcases q with ⟨y',m₄,io₄,e4,st4,H4,k4,sm4⟩;refine g_ ?_;clear g_ G_
    rw [e4] at es2
    (refine aC5 es2 fun z1 z2=>?_;clear es2;subst z1;subst z2)
    have nf3:=st3.nofoot hD2 nf2
    have hD4:s₄.heap.get? D=some (fQ us c):=st4.keep _ _ hD3 nf3 (fun q=>nomatch q) (frN _ hD0)
    have nf4:=st4.nofoot hD3 nf3
    have hus4:=(hus2.step st3).step st4
    have hst4:St (i+1) s₄.heap io₄:=hw.stay hst2 H2 H4 (st3.trans st4) wrN hgd (b7 ec)
    have ol:us.size <= lid:=by
     have e1:=hus.length
     have e2:L.length=outs.length+L'.length:=by rw [hLe,List.length_append]
     have:us.size=outs.length:=by simpa using e1
     lia
    refine wpAny_list_append_plain ⟨c,hD4⟩ (fun h₅ ⟨c5,hD5⟩ hs5=>?_) (aR ol)
    have kk5:∀ b o,b≠D->s₄.heap.get? b=some o->h₅.get? b=some o:=fun b o q e=>(hs5.2 b q).trans e
    have lv5:∀ o,s₄.heap.get? D=some o->¬ cX o /\ ∃ o',h₅.get? D=some o':=fun o ho=>by
     rw [hD4] at ho;(refine aF ho fun z1=>?_;clear ho;subst z1);exact ⟨aK2,_,hD5⟩
    have st5:Step [D] (frs fs) s₄.heap io₄ m₄ h₅ io₄ m₄:=fN H4 (L:=D) (.head _) kk5 lv5 nf4
    have H5:HR W h₅ io₄ m₄:=H4.ofOwn (own:=[D]) (L:=D) (.head _) kk5 lv5 nf4 basD
    have st5':Step [] (frs fs) s₀.heap io₀ m₀ h₅ io₄ m₄:=by
     refine ((((st2'.trans st3).trans st4).wk (own':=[D]) fun y_ q=>nomatch q).trans st5).shrink H0 (fun y_ y_ e=>e) (fun b hb=>?_) fun b hb=>.inr hb
     rw [List.mem_singleton.mp hb];exact .inl hD0
    have F5:FR W h₅ io₄ cenv vis' row:=(weak (Z3.F.step0 H3 st4)).step H4 st5 (by simpa using Ne.symm hDC) fun y c hy=>by simpa using celN y c hy D hD0
    refine ⟨vs.length - (i+1),hk'▸Nat.sub_succ_lt_self _ _ hlt,i+1,io₄,m₄,outs++[y'],L₅,us.push y,c5,rfl,hlt,st5',H5,F5,hw.stay hst4 H4 H5 st5 (fun b hb=>⟨fun q=>hDw (by rw [<- List.mem_singleton.mp q];exact hb),frN _ (hnew b hb)⟩) (b7 ec) (b7 ec),hD5,?_,nf4,((sm.trans (Same.trans ⟨rfl,rfl⟩ sm2)).trans sm3).trans (sm4.trans ⟨rfl,rfl⟩),ec,?_⟩
    ·rw [Array.toList_push];exact (hus4.step st5).snoc (VR.step st5 k4)
    ·rw [hLe,eL];simp [eP]
  ·have hi':i=vs.length:=by lia
   subst hi'
   refine hw.done hst H hgd fun h₁ tk kk=>?_
   have sd:Side W wr s₀.heap s'.heap io' h₁:=⟨kk,hnew,fun b hb=>(sft b hb).1,fun b hb=>(sft b hb).2⟩
   rw [List.drop_length] at he
   have ec:∀ {step:V->Mn (Option V)},bS g step [] m'=.ok [] m':=if_pos hgd
   rw [ec] at he
   (refine aC5 he fun z1 z2=>?_;clear he;subst z1;subst z2)
   rw [List.append_nil] at hLe
   subst hLe
   have F1:=F.sideN sd hCw fun y c hy q=>celN y c hy c (hnew c q) rfl
   refine hide fun G_ g_=>?_;rcases F1.loc with ⟨mC,hn,y_⟩;refine g_ ?_;clear g_ G_
   exact fin { s' with heap:=h₁,toks:=tk } io' us c (sd.step H st) (sd.hr H hbase) (kk _ _ hDw hD) (hus.sol sd.sol) nf ⟨⟨mC,hn⟩,F1.nofoot⟩ (sm.trans ⟨rfl,rfl⟩)
 exact codeAny_compStart_list loop (hw.self hst₂ loop)
end
end Mini.Internal
namespace Mini.Internal
open PySem PySem.W
section
variable {W:Wd} {K:Frag} {h h' h₀:Heap} {fs:List Env} {env:Env} {vis:List (Option Str)} {s s' s₀:Shared} {io io' io₀:Io} {m m' m₀:MH} {r r':Lo} {fr fr' own own':List Addr} {A:Around} {n:Nat} {pos p:Pos}
theorem VRs.ext (x:∀ (n:Nat) (p:Addr×Addr),io[n]?=some p->io'[n]?=some p) {v:List V} {u:List Value} (k:VRs W h io v u):VRs W h io' v u:=k.mono (fun y_ y_ e y_=>e) x
theorem ERs.ext (x:∀ (n:Nat) (p:Addr×Addr),io[n]?=some p->io'[n]?=some p) {kvs:List (Ky×V)} {es:List DictEntry} (e:ERs W h io kvs es):ERs W h io' kvs es:=e.mono (fun y_ y_ e y_=>e) x
theorem FEs.ext (x:∀ (n:Nat) (p:Addr×Addr),io[n]?=some p->io'[n]?=some p) {fs:List (Nat×V)} {mA:Str->Option Value} (e:FEs W h io fs mA):FEs W h io' fs mA:=e.mono (fun y_ y_ e y_=>e) x
theorem OR.ext (x:∀ (n:Nat) (p:Addr×Addr),io[n]?=some p->io'[n]?=some p) {a d:Addr} {o:MObj} (k:OR W h io a d o):OR W h io' a d o:=by
 cases o with
 | list xs=>
  rcases k with ⟨e,vs,n,h1,h4,h5⟩
  exact ⟨e,vs,n,h1,h4.ext x,h5⟩
 | dict kvs ep=>
  rcases k with ⟨e,o,es,n,h1,h2,h3,h4,h5⟩
  exact ⟨e,o,es,n,h1,h2,h3,h4.ext x,h5⟩
 | inst c fs=>
  rcases k with ⟨e,mA,h1,h2,h3,h4⟩
  exact ⟨e,mA,h1,h2,h3.ext x,h4⟩
theorem dJ3 {D:Addr} {ob:MObj} (st:Step own fr h₀ io₀ m₀ h io m) (H:HR W h io m) (hO:OR W h (io++[(D,D)]) D D ob) (nf:¬ dJ io D) (hD0:h₀.get? D=none) (basD:W.base.get? D=none) :
  Step own fr h₀ io₀ m₀ h (io++[(D,D)]) (m++[ob]) /\ HR W h (io++[(D,D)]) (m++[ob]) /\ VR W h (io++[(D,D)]) (.ref m.length) (.ref D):=by
 have ex:∀ (n:Nat) (p:Addr×Addr),io[n]?=some p->(io++[(D,D)])[n]?=some p:=fun n p e=>by
  rw [List.getElem?_append_left (List.getElem?_eq_some_iff.mp e).1];exact e
 have last:(io++[(D,D)])[m.length]?=some (D,D):=by rw [<- H.len];simp
 refine ⟨⟨st.alive,st.solid,st.keep,st.slots,?_,fun n p kvs e hi hm=>?_⟩,⟨H.keep,by simp [H.len],fun n p o hi hm=>?_,fun b f=>?_,fun i j p q hij hi hj=>?_⟩,.ref last⟩
 ·rcases st.grow with ⟨new,e,hn⟩
  refine ⟨new++[(D,D)],by rw [e,List.append_assoc],fun p hp=>?_⟩
  rcases List.mem_append.mp hp with hp | hp
  ·exact hn p hp
  ·rw [List.mem_singleton.mp hp];exact ⟨hD0,hD0⟩
 ·rcases st.dicts n p kvs e hi hm with ⟨k',e',q1,q2,q3⟩
  exact ⟨k',e',by rw [List.getElem?_append_left (List.getElem?_eq_some_iff.mp q1).1];exact q1,q2,q3⟩
 ·rcases Nat.lt_or_ge n m.length with hlt | hge
  ·rw [List.getElem?_append_left hlt] at hm
   rw [List.getElem?_append_left (by rw [H.len];exact hlt)] at hi
   exact (H.obj n p o hi hm).ext ex
  ·have hn:n=m.length:=by
    have:=(List.getElem?_eq_some_iff.mp hm).1
    simp at this;lia
   subst hn
   rw [last] at hi
   (refine aF hi fun z1=>?_;clear hi;subst z1)
   rw [List.getElem?_append_right (Nat.le_refl _)] at hm
   simp at hm
   subst hm
   exact hO
 ·rcases eK f with f | ⟨p,hp,e⟩
  ·exact H.fresh b f
  ·rw [List.mem_singleton.mp hp] at e
   rcases e with e | e <;> rw [e] <;> exact basD
 ·have nfp:∀ (k:Nat) (p:Addr×Addr),io[k]?=some p->p.1≠D /\ p.2≠D:=fun k p hk=>⟨fun e=>nf ⟨p,List.mem_of_getElem? hk,.inl e.symm⟩,fun e=>nf ⟨p,List.mem_of_getElem? hk,.inr e.symm⟩⟩
  have cut:∀ (k:Nat) (p:Addr×Addr),(io++[(D,D)])[k]?=some p->io[k]?=some p \/ (k=io.length /\ p=(D,D)):=fun k p hk=>by
   rcases Nat.lt_or_ge k io.length with hlt | hge
   ·rw [List.getElem?_append_left hlt] at hk;exact .inl hk
   ·have:=(List.getElem?_eq_some_iff.mp hk).1
    simp at this
    have hn:k=io.length:=by lia
    subst hn
    simp at hk
    exact .inr ⟨rfl,hk.symm⟩
  rcases cut i p hi with a | ⟨a,rfl⟩ <;> rcases cut j q hj with b | ⟨b,rfl⟩
  ·exact H.apart i j p q hij a b
  ·have:=nfp i p a;exact ⟨this.1,this.1,this.2⟩
  ·have:=nfp j q b;exact ⟨Ne.symm this.1,Ne.symm this.2,Ne.symm this.2⟩
  ·lia
theorem cZ2 {D:Addr} {us:Array Value} {c:Nat} {L:List V} (st:Step own fr h₀ io₀ m₀ h io m) (H:HR W h io m) (hD:h.get? D=some (fQ us c)) (hus:VRs W h io L us.toList) (hl:L.length <= lid) (nf:¬ dJ io D) (hD0:h₀.get? D=none) (basD:W.base.get? D=none) :
  Step own fr h₀ io₀ m₀ h (io++[(D,D)]) (m++[.list L]) /\ HR W h (io++[(D,D)]) (m++[.list L]) /\ VR W h (io++[(D,D)]) (.ref m.length) (.ref D):=
 dJ3 st H ⟨rfl,us,c,hD,hus.ext fun n p e=>by rw [List.getElem?_append_left (List.getElem?_eq_some_iff.mp e).1];exact e,hl⟩ nf hD0 basD
theorem bH4 {elt iter:Expr} {ifs:List Expr} {scope:Scope} {tg:Expr} {t:CT} {fp:Pos} {vis':List (Option Str)} {nl:Nat} {csrc:Lo->Mn (List V×Gd)} {cif:Lo->Mn Bool} {celt:Lo->Mn V} {use:Option (Value->Sem Unit)} {Q:Value->Shared->Prop} {E:Value->Shared->Prop}
  (ck:CompOk scope env vis vis' nl) (hs:∀ x,foldedSetIterable iter env x=Pure.pure x) (hg:CTg A vis vis' t tg) (hsrc:SiSrc W A fs env vis iter csrc)
  (hifs:∀ cl C,SiB W A fs (compEnvC scope cl C env) vis' (f8 ifs (compEnvC scope cl C env) true) cif) (helt:∀ cl C,SiE W A fs (compEnvC scope cl C env) vis' (eval elt (compEnvC scope cl C env)) celt)
  (Z:Sit W fs env vis s io m r) (hne:(csrc r m).bind (fun p=>bnd (bS p.2 (fF t (r++List.replicate nl none) cif celt) p.1) fun l=>if l.length <= lid then alloc (.list l) else bad)≠.bad)
  (hX:∀ e s',XP W [] fs s io m (csrc r m) e s'->E e s')
  (fin:∀ s' io' D C L us c mL p m₂,csrc r m=.ok p m₂->bS p.2 (fF t (r++List.replicate nl none) cif celt) p.1 m₂=.ok L mL->L.length <= lid->s.heap.get? D=none->s.heap.get? C=none->D≠C->Step [] (frs fs) s.heap io m s'.heap io' mL->HR W s'.heap io' mL->s'.heap.get? D=some (fQ us c)->VRs W s'.heap io' L us.toList->¬ dJ io' D->(∃ mC,s'.heap.Ns C mC) /\ ¬ dJ io' C->Same s s'->compPost (model W.prog W.w) A E use Q (.ref D) C (.ok .next) s') :
  wpAny (model W.prog W.w) A (comprehension (.ListComp elt [⟨tg,iter,ifs,0⟩] scope pos) scope env fp (newList []) false (eval iter env) use) Q E s:=by
 obtain ⟨cl,g1,g2,g3⟩:=bL5 (scope:=scope) (env:=env) fun y k hy hk=>by
  rcases ck.cap (y,k) hy hk with ⟨i,q1,q2⟩
  exact Z.F.celex i y q1 q2
 refine wpAny_comprehension_free (g:=⟨tg,iter,ifs,0⟩) (gs:=[]) rfl hs g1 ck.kind ck.names ?_
 refine wpAny_mono (hsrc s io m r Z (Res.bind_ne hne)) (fun xv s₁ q=>wpAny_mono q (fun it s₂ q=>?_) hX) hX
 rcases q with ⟨⟨vs,g⟩,m₂,io₂,e2,st₂,H₂,⟨I,wr,St,rfl,hw,h0,hnew⟩,sm₂⟩
 rw [e2] at hne
 have hne':(bS g (fF t (r++List.replicate nl none) cif celt) vs m₂).bind (fun l=>if l.length <= lid then alloc (.list l) else bad)≠.bad:=hne
 rcases cJ3 (Res.bind_ne hne') with ⟨L,mL,eL⟩
 have hlen:L.length <= lid:=by
  rcases Nat.lt_or_ge lid L.length with q | q
  ·refine absurd ?_ hne'
   rw [eL]
   show (if L.length <= lid then alloc (.list L) else bad) mL=_
   rw [if_neg (by lia)];rfl
  ·exact q
 have Z2:=Z.step H₂ st₂
 refine wpAny_newList ?_ (by decide)
 have k3:∀ b o,s₂.heap.get? b=some o->(s₂.heap.push (fQ #[] 0)).get? b=some o:=aQ _
 refine wpAny_newFunctionEnv ck.cell (fun y hy=>nomatch hy) (fun h₄ hn₄ hs₄=>?_) ck.kind
 have k4:∀ b o,(s₂.heap.push (fQ #[] 0)).get? b=some o->h₄.get? b=some o:=fun b o e=>by
  have hb:b≠(s₂.heap.push (fQ #[] 0)).objs.size:=fun q=>by rw [q,aZ] at e;injection e
  exact (hs₄.2 b hb).trans (aQ _ _ _ e)
 have sz:(s₂.heap.push (fQ #[] 0)).objs.size=s₂.heap.objs.size+1:=Heap.size_push ..
 have kk:∀ b o,s₂.heap.get? b=some o->h₄.get? b=some o:=fun b o e=>k4 b o (k3 b o e)
 have cD:s₂.heap.get? s₂.heap.objs.size=none:=aZ _
 have cC3:(s₂.heap.push (fQ #[] 0)).get? (s₂.heap.push (fQ #[] 0)).objs.size=none:=aZ _
 have cC:s₂.heap.get? (s₂.heap.push (fQ #[] 0)).objs.size=none:=by
  cases q:s₂.heap.get? (s₂.heap.push (fQ #[] 0)).objs.size with
  | none=>rfl
  | some o=>rw [k3 _ _ q] at cC3;injection cC3
 have hD0:s.heap.get? s₂.heap.objs.size=none:=eO st₂ cD
 have hC0:s.heap.get? (s₂.heap.push (fQ #[] 0)).objs.size=none:=eO st₂ cC
 have hDC:s₂.heap.objs.size≠(s₂.heap.push (fQ #[] 0)).objs.size:=by rw [sz];exact Nat.ne_of_lt (Nat.lt_succ_self _)
 have st4:Step [] (frs fs) s₂.heap io₂ m₂ h₄ io₂ m₂:=.of_keeps H₂ kk
 have H4:HR W h₄ io₂ m₂:=H₂.of_keeps kk
 have hn':h₄.Ns (s₂.heap.push (fQ #[] 0)).objs.size (fun y_=>none):=hn₄
 have F4:FR W h₄ io₂ (compEnvC scope cl (s₂.heap.push (fQ #[] 0)).objs.size env) vis' (r++List.replicate nl none):=bL3 ck H₂ Z2.F g2 g3 kk cC hn'
 have lk:∀ (j:Nat) (x:Str),vis'[j]?=some (some x)->vis.length <= j->(compEnvC scope cl (s₂.heap.push (fQ #[] 0)).objs.size env).kindOf x=some .local:=fun j x hv hj=>by
  refine lookup_relabel_local ?_
  rcases ck.see j x hv with ⟨_,q⟩ | ⟨q,_⟩
  ·exact q
  ·exact absurd (List.getElem?_eq_some_iff.mp q).1 (Nat.not_lt.mpr hj)
 have hrow:∀ (a:Nat) (w:V),(r++List.replicate nl (none:Option V))[a]?=some (some w)->a < vis.length:=fun a w e=>by
  rcases Nat.lt_or_ge a r.length with q | q
  ·rw [<- Z.F.len];exact q
  ·rw [List.getElem?_append_right q] at e
   have:=List.mem_of_getElem? e
   simp at this
 show codeAny (model W.prog W.w) A (.compStart _ 0 (.ref I) (.ref s₂.heap.objs.size) (compEnvC scope cl (s₂.heap.push (fQ #[] 0)).objs.size env)) _ _
 refine bY1 (s:={ s₂ with heap:=h₄,toks:=s₂.toks+0 }) (s₀:=s) (c0:=0) Z.H Z.G hw hnew hD0 hC0 hDC ?_ ?_ hg lk hrow (fun y c hy=>?_) (hifs _ _) (helt _ _) (st₂.trans st4) H4 F4 (hw.stay h0 H₂ H4 st4 (fun b hb=>⟨(fun q=>nomatch q),?_⟩) (b7 eL) (b7 eL)) (k4 _ _ (Heap.get?_push_size _ rfl)) (fun f=>?_) (sm₂.trans ⟨rfl,rfl⟩) eL hlen
  fun s' io' us c a1 a2 a3 a4 a5 a6 a7=>fin s' io' _ _ L us c mL _ m₂ e2 eL hlen hD0 hC0 hDC a1 a2 a3 a4 a5 a6 a7
 ·intro q;rcases hw.alive h0 _ q with ⟨y_,hz⟩;rw [cD] at hz;injection hz
 ·intro q;rcases hw.alive h0 _ q with ⟨y_,hz⟩;rw [show (compEnvC scope cl (s₂.heap.push (fQ #[] 0)).objs.size env).locals=(s₂.heap.push (fQ #[] 0)).objs.size from rfl,cC] at hz;injection hz
 ·rcases Z.F.cells y c (g2 y c hy) with ⟨⟨y_,o,ho,y_⟩,y_⟩
  exact ⟨o,ho⟩
 ·intro q
  rcases List.mem_filterMap.mp q with ⟨e,he,hf⟩
  rcases Z.G e he with ⟨y_,L',o,y_,y_,h1,y_,y_,h4,y_⟩
  rw [h1] at hf;(refine aF hf fun z1=>?_;clear hf;subst z1);rw [hnew _ hb] at h4;injection h4
 ·rcases H₂.foot f with ⟨o,ho,y_⟩
  rw [cD] at ho;injection ho
theorem bR3 {C:Addr} {mC:Str->Option Value} (hC0:h₀.get? C=none) (hn:h.Ns C mC) (nf:¬ dJ io C) (hs:Heap.SameBut C h h'):Side W [C] h₀ h io h':=
 ⟨fun b o hb e=>(hs.2 b (by simpa using hb)).trans e,fun b hb=>by rw [List.mem_singleton.mp hb];exact hC0,fun b hb=>by rw [List.mem_singleton.mp hb];exact nf,fun b hb o ho=>by
  rw [List.mem_singleton.mp hb] at ho
  rcases hn with ⟨o',es,ep,ho',hd,y_⟩
  rw [ho'] at ho;(refine aF ho fun z1=>?_;clear ho;subst z1);exact cQ hd⟩
theorem dH7 {elt iter:Expr} {ifs:List Expr} {scope:Scope} {tg:Expr} {t:CT} {vis':List (Option Str)} {nl:Nat} {csrc:Lo->Mn (List V×Gd)} {cif:Lo->Mn Bool} {celt:Lo->Mn V}
  (ck:CompOk scope env vis vis' nl) (hs:∀ x,foldedSetIterable iter env x=Pure.pure x) (hg:CTg A vis vis' t tg) (hsrc:SiSrc W A fs env vis iter csrc)
  (hifs:∀ cl C,SiB W A fs (compEnvC scope cl C env) vis' (f8 ifs (compEnvC scope cl C env) true) cif) (helt:∀ cl C,SiE W A fs (compEnvC scope cl C env) vis' (eval elt (compEnvC scope cl C env)) celt) :
  SiE W A fs env vis (eval (.ListComp elt [⟨tg,iter,ifs,0⟩] scope pos) env) (fun r=>bnd (csrc r) fun p=>bnd (bS p.2 (fF t (r++List.replicate nl none) cif celt) p.1) fun l=>if l.length <= lid then alloc (.list l) else bad):=by
 intro s io m r Z hne
 dsimp only at hne ⊢
 refine bH4 (Q:=NP W [] (frs fs) s io m (VP W) _) (use:=none) ck hs hg hsrc hifs helt Z hne (fun e s' q=>q.bind .refl (.refl _)) ?_
 intro s' io' D C L us c mL p m₂ e1 e2 hl hD0 hC0 hDC st H hD hus nf hC sm
 rcases hC with ⟨⟨mC,hn⟩,nfC⟩
 refine ⟨mC,hn,fun h' hs'=>?_⟩
 have sd:Side W [C] s.heap s'.heap io' h':=bR3 hC0 hn nfC hs'
 have st':=sd.step H st
 have H':=sd.hr H Z.H.keep
 have basD:W.base.get? D=none:=by
  cases q:W.base.get? D with
  | none=>rfl
  | some o=>rw [Z.H.keep _ _ q] at hD0;injection hD0
 rcases cZ2 st' H' (sd.keep _ _ (by simpa using hDC) hD) (hus.sol sd.sol) hl nf hD0 basD with ⟨a1,a2,a3⟩
 refine ⟨.ref mL.length,mL++[.list L],_,?_,a1,a2,a3,sm.trans ⟨rfl,rfl⟩⟩
 show (csrc r m).bind _=_
 rw [e1]
 show (bS p.2 _ p.1 m₂).bind _=_
 rw [e2]
 show (if L.length <= lid then alloc (.list L) else bad) mL=_
 rw [if_pos hl];rfl
noncomputable def dI (csrc:Lo->Mn (List V×Gd)) (cif:Lo->Mn Bool) (celt:Lo->Mn V) (t:CT) (nl i:Nat) (r:Lo) (m:MH):Res (Fl×Lo):=
 bnd (bnd (csrc r) fun p=>bnd (bS p.2 (fF t (r++List.replicate nl none) cif celt) p.1) fun l=>if l.length <= lid then alloc (.list l) else bad) (fun v=>bnd (fun m=>.ok (r.set i (some v)) m) fun r'=>ret (Fl.next,r')) m
theorem bI5 {elt iter:Expr} {ifs:List Expr} {scope:Scope} {tg:Expr} {t:CT} {py cpos:Pos} {vis':List (Option Str)} {nl i:Nat} {y:Str} {csrc:Lo->Mn (List V×Gd)} {cif:Lo->Mn Bool} {celt:Lo->Mn V}
  (ck:CompOk scope env vis vis' nl) (hs:∀ x,foldedSetIterable iter env x=Pure.pure x) (hg:CTg A vis vis' t tg) (hsrc:SiSrc W A (env::fs) env vis iter csrc)
  (hifs:∀ cl C,SiB W A (env::fs) (compEnvC scope cl C env) vis' (f8 ifs (compEnvC scope cl C env) true) cif) (helt:∀ cl C,SiE W A (env::fs) (compEnvC scope cl C env) vis' (eval elt (compEnvC scope cl C env)) celt)
  (hsw:swapsWithSole [.Name y py] (.ListComp elt [⟨tg,iter,ifs,0⟩] scope cpos) pos.line env=Pure.pure true) (hyv:vis[i]?=some (some y)) (hyk:env.kindOf y=some .local) :
  SiS W A fs env vis (exec (.Assign [.Name y py] (.ListComp elt [⟨tg,iter,ifs,0⟩] scope cpos) pos) env) (fun r=>bnd (bnd (csrc r) fun p=>bnd (bS p.2 (fF t (r++List.replicate nl none) cif celt) p.1) fun l=>if l.length <= lid then alloc (.list l) else bad) fun v=>bnd (fun m=>.ok (r.set i (some v)) m) fun r'=>ret (.next,r')):=by
 intro s io m r Z
 show Si W (bN env) A (env::fs) (SP W env vis) _ s io m (dI csrc cif celt t nl i r m)
 intro hne
 rw [exec_Assign_arm]
 refine wpAny_bind (wpAny_standAt ?_)
 rw [hsw]
 refine wpAny_bind (wpAny_pure ?_)
 simp only [if_true]
 have hne0:(csrc r m).bind (fun p=>bnd (bS p.2 (fF t (r++List.replicate nl none) cif celt) p.1) fun l=>if l.length <= lid then alloc (.list l) else bad)≠.bad:=Res.bind_ne hne
 refine wpAny_bind ?_
 suffices main:wpAny (model W.prog W.w) A (comprehension (.ListComp elt [⟨tg,iter,ifs,0⟩] scope cpos) scope env (firstIterPos [⟨tg,iter,ifs,0⟩] cpos) (newList []) false (eval iter env) (some fun v=>assignAll v ((assignEach [.Name y py] env).map (·.2)))) (fun y_ s'=>NP W (bN env) (frs (env::fs)) s io m (SP W env vis) (dI csrc cif celt t nl i r m) Flow.next s') (XP W (bN env) (env::fs) s io m (dI csrc cif celt t nl i r m)) s from
  wpAny_bind (wpAny_mono main (fun y_ s' q=>wpAny_pure (wpAny_pure q)) fun y_ y_ q=>q)
 have lift:∀ e s',XP W [] (env::fs) s io m (csrc r m) e s'->XP W (bN env) (env::fs) s io m (dI csrc cif celt t nl i r m) e s':=fun e s' q=>by
  rcases q with ⟨c',m',io',a,g,h1,h2,h3,h4,h5,h6⟩
  refine ⟨c',m',io',a,g,?_,h2,h3.wk (fun y_ q=>nomatch q),h4,h5,h6⟩
  simp only [dI,bnd,h1,Res.bind]
 have go:=bH4 (W:=W) (A:=A) (fs:=env::fs) (env:=env) (vis:=vis) (s:=s) (io:=io) (m:=m) (r:=r) (pos:=cpos) (fp:=firstIterPos [⟨tg,iter,ifs,0⟩] cpos) (elt:=elt) (iter:=iter) (ifs:=ifs) (scope:=scope) (tg:=tg) (t:=t) (vis':=vis') (nl:=nl) (csrc:=csrc) (cif:=cif) (celt:=celt)
  (use:=some fun v=>assignAll v ((assignEach [.Name y py] env).map (·.2))) (Q:=fun y_ s'=>NP W (bN env) (frs (env::fs)) s io m (SP W env vis) (dI csrc cif celt t nl i r m) Flow.next s') (E:=XP W (bN env) (env::fs) s io m (dI csrc cif celt t nl i r m)) ck hs hg hsrc hifs helt Z.sit hne0 lift
 refine go ?_
 clear go
 intro s' io' D C L us c mL p m₂ e1 e2 hl hD0 hC0 hDC st H hD hus nf hC sm
 rcases hC with ⟨⟨mC,hn⟩,nfC⟩
 have eT:dI csrc cif celt t nl i r m=.ok (.next,r.set i (some (.ref mL.length))) (mL++[.list L]):=by
  simp only [dI,bnd,e1,Res.bind,e2,if_pos hl,alloc,ret]
 have basD:W.base.get? D=none:=by
  cases q:W.base.get? D with
  | none=>rfl
  | some o=>rw [Z.H.keep _ _ q] at hD0;injection hD0
 rcases cZ2 st H hD hus hl nf hD0 basD with ⟨a1,a2,a3⟩
 have nfC':¬ dJ (io'++[(D,D)]) C:=fun f=>by
  rcases eK f with f | ⟨q,hq,e⟩
  ·exact nfC f
  ·rw [List.mem_singleton.mp hq] at e
   rcases e with e | e <;> exact hDC e.symm
 have Z':Stt W fs env vis s' (io'++[(D,D)]) (mL++[.list L]) r:=⟨a2,Z.F.step0 Z.H a1,Z.G.step0 a1,Z.fr,Z.dis⟩
 have hLo:∃ o,s.heap.get? env.locals=some o:=by rcases Z.F.loc with ⟨y_,⟨o,y_,y_,ho,y_⟩,y_⟩;exact ⟨o,ho⟩
 have hCl:C∉bN env:=fun q=>by
  rcases List.mem_cons.mp q with e | q
  ·rcases hLo with ⟨o,ho⟩;rw [<- e,hC0] at ho;injection ho
  ·rcases List.mem_filterMap.mp q with ⟨⟨z,c'⟩,hm,hq⟩
   rcases Z.F.cells z C hq with ⟨⟨y_,o,ho,y_⟩,y_⟩
   rw [hC0] at ho;injection ho
 have nfr:C∉frs (env::fs):=fun q=>by
  rcases List.mem_filterMap.mp q with ⟨e,he,hf⟩
  rcases Z.sit.G e he with ⟨y_,L',o,y_,y_,h1,y_,y_,h4,y_⟩
  rw [h1] at hf;(refine aF hf fun z1=>?_;clear hf;subst z1);rw [hC0] at h4;injection h4
 have as:=aX7 (W:=W) (fs:=fs) (A:=A) (pos:=py) hyv (.inl hyk) s' _ _ r _ _ Z' a3 (fun q=>nomatch q)
 have key:wpAny (model W.prog W.w) A (assign (.Name y py) env (.ref D)) (fun y_ s''=>∃ mC,s''.heap.Ns C mC /\ ∀ h',Heap.SameBut C s''.heap h'->NP W (bN env) (frs (env::fs)) s io m (SP W env vis) (dI csrc cif celt t nl i r m) Flow.next { s'' with heap:=h' }) (XP W (bN env) (env::fs) s io m (dI csrc cif celt t nl i r m)) s':=by
  refine wpAny_mono as (fun y_ s'' q=>?_) fun e s'' q=>?_
  rotate_left
  ·rcases q with ⟨c',m',io',a,g,h1,y_⟩;injection h1
  rcases q with ⟨r₂,m₃,io₃,e3,st3,H3,F3,sm3⟩
  (refine aC5 e3 fun z1 z2=>?_;clear e3;subst z1;subst z2)
  rcases hn with ⟨oC,esC,epC,hoC,hdC,hrC⟩
  have hoC':=st3.keep _ _ hoC nfC' hCl nfr
  have hn3:s''.heap.Ns C mC:=⟨oC,esC,epC,hoC',hdC,hrC⟩
  refine ⟨mC,hn3,fun h' hs'=>?_⟩
  have nfC3:=st3.nofoot hoC nfC'
  have sd:Side W [C] s.heap s''.heap io₃ h':=bR3 hC0 hn3 nfC3 hs'
  have stT:=(a1.wk (own':=bN env) fun y_ q=>nomatch q).trans st3
  have F':FR W h' io₃ env vis (r.set i (some (.ref mL.length))):=F3.side sd hLo fun z c hz=>by rcases Z.F.cells z c hz with ⟨⟨y_,o,ho,y_⟩,y_⟩;exact ⟨o,ho⟩
  exact ⟨(.next,r.set i (some (.ref mL.length))),_,io₃,eT,sd.step H3 stT,sd.hr H3 Z.H.keep,⟨.next,F'⟩,(sm.trans sm3).trans ⟨rfl,rfl⟩⟩
 exact key
end
end Mini.Internal
namespace Mini.Internal
open PySem PySem.W
noncomputable def dZ:Ty->String
 | .int=>"int"
 | .bool=>"bool"
 | .str=>"str"
 | .list=>"list"
 | .tuple=>"tuple"
 | .dict=>"dict"
 | .cls _=>""
section
variable {W:Wd} {K:Frag} {h h' h₀:Heap} {fs:List Env} {env:Env} {vis:List (Option Str)} {s s' s₀:Shared} {io io' io₀:Io} {m m' m₀:MH} {r r':Lo} {fr fr' own own':List Addr} {A:Around} {n:Nat} {pos p:Pos}
structure IsiT (W:Wd) (A:Around) (E:Value->Shared->Prop) (t:Ty):Prop where
 fn:∀ {s:Shared} {Q:Value->Shared->Prop},(∀ tk,Q (.bool false) { s with toks:=tk })->wpAny (model W.prog W.w) A (call (.builtin "isinstance") [.none,.type (dZ t)]) Q E s
 fb:∀ {s:Shared} {Q:Value->Shared->Prop} (c:Bool),(∀ tk,Q (.bool (t == .int||t == .bool)) { s with toks:=tk })->wpAny (model W.prog W.w) A (call (.builtin "isinstance") [.bool c,.type (dZ t)]) Q E s
 fi:∀ {s:Shared} {Q:Value->Shared->Prop} (k:Int) (u:Tok),(∀ tk,Q (.bool (t == .int)) { s with toks:=tk })->wpAny (model W.prog W.w) A (call (.builtin "isinstance") [.int k u,.type (dZ t)]) Q E s
 fs:∀ {s:Shared} {Q:Value->Shared->Prop} (x:Str) (u:Tok),(∀ tk,Q (.bool (t == .str)) { s with toks:=tk })->wpAny (model W.prog W.w) A (call (.builtin "isinstance") [.str x u,.type (dZ t)]) Q E s
 ft:∀ {s:Shared} {Q:Value->Shared->Prop} (a:Addr) (o:Obj),s.heap.get? a=some o->o.cls=.type "tuple"->(∀ tk,Q (.bool (t == .tuple)) { s with toks:=tk })->wpAny (model W.prog W.w) A (call (.builtin "isinstance") [.ref a,.type (dZ t)]) Q E s
 fl:∀ {s:Shared} {Q:Value->Shared->Prop} (a:Addr) (o:Obj),s.heap.get? a=some o->o.cls=.type "list"->(∀ tk,Q (.bool (t == .list)) { s with toks:=tk })->wpAny (model W.prog W.w) A (call (.builtin "isinstance") [.ref a,.type (dZ t)]) Q E s
 fd:∀ {s:Shared} {Q:Value->Shared->Prop} (a:Addr) (o:Obj),s.heap.get? a=some o->o.cls=.type "dict"->(∀ tk,Q (.bool (t == .dict)) { s with toks:=tk })->wpAny (model W.prog W.w) A (call (.builtin "isinstance") [.ref a,.type (dZ t)]) Q E s
theorem isiT (E:Value->Shared->Prop) {t:Ty} (ht:∀ c,t≠.cls c):IsiT W A E t:=by
 cases t with
 | int=>exact ⟨fun {s} {Q} h=>IsiPair.NoneType_int (h _),fun {s} {Q} y_ h=>IsiPair.bool_int (h s.toks),fun {s} {Q} y_ y_ h=>IsiPair.int_int (h s.toks),fun {s} {Q} y_ y_ h=>IsiPair.str_int (h _),fun {s} {Q} y_ y_ e c h=>IsiPair.tuple_int e c (h _),fun {s} {Q} y_ y_ e c h=>IsiPair.list_int e c (h _),fun {s} {Q} y_ y_ e c h=>IsiPair.dict_int e c (h _)⟩
 | bool=>exact ⟨fun {s} {Q} h=>IsiPair.NoneType_bool (h _),fun {s} {Q} y_ h=>IsiPair.bool_bool (h s.toks),fun {s} {Q} y_ y_ h=>IsiPair.int_bool (h _),fun {s} {Q} y_ y_ h=>IsiPair.str_bool (h _),fun {s} {Q} y_ y_ e c h=>IsiPair.tuple_bool e c (h _),fun {s} {Q} y_ y_ e c h=>IsiPair.list_bool e c (h _),fun {s} {Q} y_ y_ e c h=>IsiPair.dict_bool e c (h _)⟩
 | str=>exact ⟨fun {s} {Q} h=>IsiPair.NoneType_str (h _),fun {s} {Q} y_ h=>IsiPair.bool_str (h _),fun {s} {Q} y_ y_ h=>IsiPair.int_str (h _),fun {s} {Q} y_ y_ h=>IsiPair.str_str (h s.toks),fun {s} {Q} y_ y_ e c h=>IsiPair.tuple_str e c (h _),fun {s} {Q} y_ y_ e c h=>IsiPair.list_str e c (h _),fun {s} {Q} y_ y_ e c h=>IsiPair.dict_str e c (h _)⟩
 | list=>exact ⟨fun {s} {Q} h=>IsiPair.NoneType_list (h _),fun {s} {Q} y_ h=>IsiPair.bool_list (h _),fun {s} {Q} y_ y_ h=>IsiPair.int_list (h _),fun {s} {Q} y_ y_ h=>IsiPair.str_list (h _),fun {s} {Q} y_ y_ e c h=>IsiPair.tuple_list e c (h _),fun {s} {Q} y_ y_ e c h=>IsiPair.list_list e c (h s.toks),fun {s} {Q} y_ y_ e c h=>IsiPair.dict_list e c (h _)⟩
 | tuple=>exact ⟨fun {s} {Q} h=>IsiPair.NoneType_tuple (h _),fun {s} {Q} y_ h=>IsiPair.bool_tuple (h _),fun {s} {Q} y_ y_ h=>IsiPair.int_tuple (h _),fun {s} {Q} y_ y_ h=>IsiPair.str_tuple (h _),fun {s} {Q} y_ y_ e c h=>IsiPair.tuple_tuple e c (h s.toks),fun {s} {Q} y_ y_ e c h=>IsiPair.list_tuple e c (h _),fun {s} {Q} y_ y_ e c h=>IsiPair.dict_tuple e c (h _)⟩
 | dict=>exact ⟨fun {s} {Q} h=>IsiPair.NoneType_dict (h _),fun {s} {Q} y_ h=>IsiPair.bool_dict (h _),fun {s} {Q} y_ y_ h=>IsiPair.int_dict (h _),fun {s} {Q} y_ y_ h=>IsiPair.str_dict (h _),fun {s} {Q} y_ y_ e c h=>IsiPair.tuple_dict e c (h _),fun {s} {Q} y_ y_ e c h=>IsiPair.list_dict e c (h _),fun {s} {Q} y_ y_ e c h=>IsiPair.dict_dict e c (h s.toks)⟩
 | cls c=>exact absurd rfl (ht c)
structure IsiE (S:Sig) (m:MH) (t:Ty):Prop where
 en:eB S .none t m=.ok false m
 eb:∀ b,eB S (.bool b) t m=.ok (t == .int||t == .bool) m
 ei:∀ i,eB S (.int i) t m=.ok (t == .int) m
 es:∀ x,eB S (.str x) t m=.ok (t == .str) m
 et:∀ x,eB S (.tup x) t m=.ok (t == .tuple) m
 er:∀ n,eB S (.ref n) t m=(match m[n]? with | some (.list _)=>.ok (t == .list) m | some (.dict _ _)=>.ok (t == .dict) m | _=>.bad)
 ef:∀ k,eB S (.fn k) t m=.bad
 ee:∀ k,eB S (.exc k) t m=.bad
 ec:∀ k,eB S (.scr k) t m=.bad
theorem dF7 {S:Sig} {t:Ty} (ht:∀ c,t≠.cls c):IsiE S m t:=by
 cases t with
 | cls c=>exact absurd rfl (ht c)
 | _=>exact ⟨rfl,fun y_=>rfl,fun y_=>rfl,fun y_=>rfl,fun y_=>rfl,fun y_=>rfl,fun y_=>rfl,fun y_=>rfl,fun y_=>rfl⟩
theorem cV0 {S:Sig} (H:HR W s.heap io m) {t:Ty} (ht:∀ c,t≠.cls c) {v:V} {u:Value} (k:VR W s.heap io v u):Si W own A fs BV (call (.builtin "isinstance") [u,.type (dZ t)]) s io m (eB S v t m):=by
 have X:=fun E=>isiT (W:=W) (A:=A) E ht
 have e:=dF7 (S:=S) (m:=m) ht
 induction k using VR.elim with
 | none=>rw [e.en];exact fun y_=>(X _).fn fun tk=>aA3 H
 | bool b=>rw [e.eb];exact fun y_=>(X _).fb b fun tk=>aA3 H
 | int i t=>rw [e.ei];exact fun y_=>(X _).fi i t fun tk=>aA3 H
 | str x t hx=>rw [e.es];exact fun y_=>(X _).fs x t fun tk=>aA3 H
 | tup ha hx=>rw [e.et];exact fun y_=>(X _).ft _ _ ha rfl fun tk=>aA3 H
 | @ref n a d hi=>
  rw [e.er]
  cases hm:m[n]? with
  | none=>exact .bad
  | some o=>
   have ho:=H.obj _ _ _ hi hm
   cases o with
   | list xs=>
    rcases ho with ⟨y_,us,c,h1,y_⟩
    exact fun y_=>(X _).fl _ _ h1 rfl fun tk=>aA3 H
   | dict kvs e=>
    rcases ho with ⟨y_,o,es,c,h1,h2,y_⟩
    exact fun y_=>(X _).fd _ _ h1 h2.1 fun tk=>aA3 H
   | inst c fs=>exact .bad
 | fn k=>rw [e.ef];exact .bad
 | exc=>rw [e.ee];exact .bad
 | scr=>rw [e.ec];exact .bad
end
end Mini.Internal
namespace Mini.Internal
open PySem PySem.W PyProof.Rows PySem.Calls PySem.Builtin PySem.Builtin.ObjectAttr PySem.Builtin.Getset_descriptor
noncomputable def fL (K:Frag) (D:Addr):Bool:=
 findIn K (.ref D) "__getattribute__" == some (some (.builtin "BaseException.__getattribute__"))&&findIn K (.ref D) "__getattr__" == some none&&findIn K (.ref D) "__class__" == some (some (.builtin "object.__class__"))&&specialIn K (.builtin "object.__class__") "__get__" == some (some (.builtin "getset_descriptor.__get__"))&&takesIn K (.builtin "object.__class__") == some true&&
 mroIn K D (.type "object") == some true&&mroIn K D (.type "BaseException") == some true&&(match K.lookup D with | some o=>(match o.data with | .cls _=>true | _=>false) | none=>false)
section
variable {prog:Program} {w:World} {A:Around} {E:Value->Shared->Prop} {h:Heap} {g:Array GenState} {d:Drawn} {t:Nat} {os:OsState} {a D:Addr} {K:Frag}
theorem cW8 {R:Result->Shared->Prop} (X:K.In h) (L0:Looks (model prog w) h (typeOf (.ref a)) (.ref D)) (hm:mroIn K D (.type "object")=some true) (hq:R (.ok (.ret (.ref D))) ⟨h,g,d,t,os⟩) :
  codeAny (model prog w) A (.call (.builtin "getset_descriptor.__get__") ⟨[.builtin "object.__class__",.ref a,.ref D],[]⟩) R ⟨h,g,d,t,os⟩:=by
 have L1:=looks_mroIn (M:=model prog w) X hm
 refine codeAny_call_builtin KF.slot_gs.plain KF.entry_gs (KF.slot_gs.check _ _ _ _ _ _ _ _ KF.type_class (KF.args_gs _ _ _) ?_)
 unfold Builtin.«getset_descriptor.__get__» descrGet
 rw [dga_obj]
 refine wpAny_bind (wpAny_pure ?_)
 unfold descrGetter descrCheckInstance descrNameAndClass isInstance
 simp only [KF.owner_class]
 repeat lk
 refine ⟨Code.quiet_builtin _ (by decide +kernel),codeAny_builtin KF.entry_class ?_⟩
 unfold Builtin.«object.__class__» shownTypeOf
 repeat lk
 exact hq
theorem bW8 {tk:Tok} {Q:Fin->Shared->Prop} (X:K.In h) (L0:Looks (model prog w) h (typeOf (.ref a)) (.ref D)) (hm:mroIn K D (.type "object")=some true) (LF:Looks (model prog w) h (find (.ref a) (.ref D) "__class__") (.bind (.builtin "getset_descriptor.__get__") (.builtin "object.__class__"))) (hq:Q (.done (.ret (.ref D))) ⟨h,g,d,t,os⟩) :
  wpAny (model prog w) A (Builtin.«object.__getattribute__» ⟨[.ref a,.str "__class__" tk],[]⟩) Q E ⟨h,g,d,t,os⟩:=by
 repeat (any_goals (first | assumption | with_reducible refine Looks.at L0 ?_ | with_reducible refine Looks.at LF ?_ | wp_step))
 refine cW8 X L0 hm ?_
 repeat (any_goals (first | assumption | wp_step))
theorem bW9 {M:Model} {nameV:Value} {Q:Unit->Shared->Prop} (X:K.In h) (L0:Looks M h (typeOf (.ref a)) (.ref D)) (hb:mroIn K D (.type "BaseException")=some true) (hq:Q () ⟨h,g,d,t,os⟩):wpAny M A (checkBuiltinCall "BaseException.__getattribute__" ⟨[.ref a,nameV],[]⟩) Q E ⟨h,g,d,t,os⟩:=by
 have hk:builtinKind "BaseException.__getattribute__"=some .slot:=by decide +kernel
 have hsplit:splitId "BaseException.__getattribute__"=some ("BaseException","__getattribute__"):=by decide +kernel
 have L1:=looks_mroIn (M:=M) X hb
 have ha:=F.args_bexc_ga (.ref a) nameV
 simp only [checkBuiltinCall,hk,hsplit]
 refine wpAny_bind ?_
 unfold isInstance
 repeat (first | with_reducible refine Looks.at L0 ?_ | with_reducible refine Looks.at L1 ?_ | wp_step)
 exact hq
theorem cI5 {tk:Tok} {R:Result->Shared->Prop} (X:K.In h) (L0:Looks (model prog w) h (typeOf (.ref a)) (.ref D)) (hm:mroIn K D (.type "object")=some true) (hb:mroIn K D (.type "BaseException")=some true) (LF:Looks (model prog w) h (find (.ref a) (.ref D) "__class__") (.bind (.builtin "getset_descriptor.__get__") (.builtin "object.__class__"))) (hq:R (.ok (.ret (.ref D))) ⟨h,g,d,t,os⟩) :
  codeAny (model prog w) A (.call (.builtin "BaseException.__getattribute__") ⟨[.ref a,.str "__class__" tk],[]⟩) R ⟨h,g,d,t,os⟩:=
 codeAny_call_builtin F.attr_ValueError.ga.plain F.entry_bexc_ga (bW9 X L0 hb (bW8 X L0 hm LF hq))
theorem dG9 {tk:Tok} {Q:Value->Shared->Prop} (X:K.In h) (L0:Looks (model prog w) h (typeOf (.ref a)) (.ref D)) (hc:fL K D=true) (hq:Q (.ref D) ⟨h,g,d,t,os⟩) :
  wpAny (model prog w) A (getAttrBy (.ref a) (.str "__class__" tk) false) Q E ⟨h,g,d,t,os⟩:=by
 simp only [fL,Bool.and_eq_true,beq_iff_eq] at hc
 refine hide fun G_ g_=>?_;rcases hc with ⟨⟨⟨⟨⟨⟨⟨c1,c2⟩,c3⟩,c4⟩,c5⟩,c6⟩,c7⟩,c8⟩;refine g_ ?_;clear g_ G_
 have L1:=looks_findIn (M:=model prog w) X c1
 have L2:=looks_findIn (M:=model prog w) X c2
 have f3:=F.attr_ValueError.ga.bind (.ref a)
 have hx2:(Value.builtin "BaseException.__getattribute__" == Value.builtin "object.__getattribute__")=false:=by decide +kernel
 have hx1:(onTheHeap (Value.ref D)&&Value.builtin "BaseException.__getattribute__" == Value.builtin "object.__getattribute__")=false:=by rw [hx2];rfl
 have LF:Looks (model prog w) h (find (.ref a) (.ref D) "__class__") (.bind (.builtin "getset_descriptor.__get__") (.builtin "object.__class__")):=by
  refine (looks_findIn (M:=model prog w) X c3).andThen ((looks_specialIn (M:=model prog w) X c4).andThen ?_)
  exact (show Looks (model prog w) h (dataDescriptor? (some (.builtin "object.__class__")) (some (.builtin "getset_descriptor.__get__"))) (some (.builtin "getset_descriptor.__get__",.builtin "object.__class__")) from (looks_takesIn (M:=model prog w) X c5).andThen .now).andThen (Looks.tag .now)
 repeat (any_goals (first | assumption | with_reducible refine Looks.at L0 ?_ | with_reducible refine Looks.at L1 ?_ | with_reducible refine Looks.at L2 ?_ | wp_step))
 refine cI5 X L0 c6 c7 LF ?_
 repeat (any_goals (first | assumption | wp_step))
theorem cI6 {Q:Option Value->Shared->Prop} (X:K.In h) (L0:Looks (model prog w) h (typeOf (.ref a)) (.ref D)) (hc:fL K D=true) (hq:Q (some (.ref D)) ⟨h,g,d,t+1,os⟩) :
  wpAny (model prog w) A (getAttr? (.ref a) "__class__") Q E ⟨h,g,d,t,os⟩:=by
 unfold getAttr? getAttrBy?
 repeat (any_goals (first | assumption | with_reducible apply dG9 X L0 hc | wp_step))
end
noncomputable def ExcAt (a D:Addr) (h:Heap):Prop:=∃ o,h.get? a=some o /\ o.cls=.ref D
theorem ExcAt.ty {a D:Addr} {h:Heap} {M:Model} (p:ExcAt a D h):Looks M h (typeOf (.ref a)) (.ref D):=by
 refine hide fun G_ g_=>?_;rcases p with ⟨o,h1,h2⟩;refine g_ ?_;clear g_ G_
 exact h2▸(Looks.ld h1).andThen .now
set_option tactic.hygienic true in
theorem cG3 {K:Frag} {a D:Addr} (hc:fL K D=true):KitX K (.ref a) (.ref D) (ExcAt a D) where
 ty:=fun y_ y_ y_ p=>p.ty
 it:=fun M h X y_=>by
  simp only [fL,Bool.and_eq_true] at hc
  have hc:=hc.2
  split at hc
  ·rename_i o ho
   split at hc
   ·rename_i cd hd
    intro A' Q' E' s' k q
    refine hide fun G_ g_=>?_;rcases o with ⟨oc,odi,oda,osl⟩;refine g_ ?_;clear g_ G_
    dsimp only at hd
    subst hd
    unfold isType loadHead
    exact wpAny_bind (wpAny_loadPart (k _ _ (X _ _ ho)) (wpAny_pure q))
   ·injection hc
  ·injection hc
 ne:=fun h tp dd its n sl X htp=>by
  refine Bool.eq_false_iff.mpr fun q=>?_
  have e:D=tp:=Value.ref.inj (beq_iff_eq.mp q)
  subst e
  simp only [fL,Bool.and_eq_true] at hc
  have hc:=hc.2
  split at hc
  ·rename_i o ho
   split at hc
   ·rename_i cd hd
    have z:=(X _ _ ho).symm.trans htp
    (refine aF z fun z1=>?_;clear z;subst z1)
    injection hd
   ·injection hc
  ·injection hc
 ca:=fun {_ _ _ _ _ s} X p k=>by rcases s with ⟨h,g,d,t,os⟩;exact cI6 X p.ty hc k
theorem bV7 {W:Wd} {S:Sig} {K:Frag} {A:Around} {fs:List Env} {s:Shared} {io:Io} {m:MH} {own:List Addr} {c:Nat} {cv:Value} (X:K.In W.base) (hrel:∀ d x,S.cls[d]?=some x->x.exc=true->fL K (W.ca d)=true /\ kitOne K (.ref (W.ca d)) cv=some (x.supers.contains c))
  (H:HR W s.heap io m) {v:V} {u:Value} (k:VR W s.heap io v u):Si W own A fs BV (call (.builtin "isinstance") [u,cv]) s io m (eB S v (.cls c) m):=by
 induction k using VR.elim with
 | @exc d a o vs h1 h2 h3=>
  have e0:eB S (.exc d) (.cls c) m=(match S.cls[d]? with | some x=>if x.exc then .ok (x.supers.contains c) m else .bad | none=>.bad):=rfl
  rw [e0]
  cases ed:S.cls[d]? with
  | none=>exact .bad
  | some x=>
   dsimp only
   by_cases hx:x.exc=true
   ·rw [if_pos hx]
    rcases hrel d x ed hx with ⟨q1,q2⟩
    exact fun y_=>kia_one (cG3 q1) (X.keeps H.keep) ⟨o,h1,h2⟩ q2 (by intro q;injection q) fun tk=>⟨_,m,io,rfl,.refl,H,rfl,rfl,rfl⟩
   ·rw [if_neg hx];exact .bad
 | _=>exact .bad
end Mini.Internal
namespace Mini.Internal
open PySem PyProof.Rows
section
variable {prog:Program} {w:World} {A:Around} {E:Value->Shared->Prop} {s:Shared} {a₀:Array Keyed}
theorem dC8 {st:SortSt} {Q:Option Nat->SortSt->Prop} (h0:IntKeys a₀) (h1:1 <= a₀.size) (hB:SBase a₀ st) (hs:SortedTo (arrOf st) a₀.size) (h:Q (some a₀.size) st):wpS (model prog w) A E s (countRun' 0 a₀.size) Q st:=by
 rw [countRun0_eq]
 refine wpS_bind (wpS_ascLoop h0 (Nat.le_refl _) (Nat.le_refl 1) h1 hB (fun i j hij hj=>hs i j hij (Nat.lt_of_lt_of_le hj h1)) fun n hn1 hn2 hsn hor=>?_)
 have e:n=a₀.size:=by
  rcases hor with e | e
  ·exact e
  ·rcases Nat.lt_or_ge n a₀.size with q | q
   ·exact absurd e (Int.not_lt.mpr (hs (n - 1) n (Nat.sub_le _ _) q))
   ·exact Nat.le_antisymm hn2 q
 dsimp only
 rw [if_pos (by simpa using e),e]
 exact wpS_pure h
theorem aT7:∀ (f n r:Nat),r <= 1->minRun' f n r <= n+r
 | 0,_,_,_=>Nat.le_refl _
 | f+1,n,r,h=>by
  rw [minRun'_succ]
  by_cases q:n < 64
  ·rw [if_pos q];exact Nat.le_refl _
  ·rw [if_neg q]
   have mx:max r (n % 2) <= 1:=Nat.max_le.mpr ⟨h,Nat.le_of_lt_succ (Nat.mod_lt n (by decide))⟩
   have h2:n / 2+1 <= n:=Nat.div_lt_self (Nat.lt_of_lt_of_le (by decide) (Nat.not_lt.mp q)) (by decide)
   exact Nat.le_trans (aT7 f (n / 2) _ mx) (Nat.le_trans (Nat.add_le_add_left mx _) (Nat.le_trans h2 (Nat.le_add_right _ _)))
theorem cK5 {c:Prop} [Decidable c] {α:Type} {x y:StateT SortSt Sem α} {Q:α->SortSt->Prop} {st:SortSt} (h:¬ c) (k:wpS (model prog w) A E s y Q st):wpS (model prog w) A E s (if c then x else y) Q st:=by rw [if_neg h];exact k
theorem bM4 {c:Prop} [Decidable c] {α:Type} {x y:StateT SortSt Sem α} {Q:α->SortSt->Prop} {st:SortSt} (h:c) (k:wpS (model prog w) A E s x Q st):wpS (model prog w) A E s (if c then x else y) Q st:=by rw [if_pos h];exact k
theorem cR5 {st:SortSt} {Q:Unit->SortSt->Prop} (h0:IntKeys (arrOf st)) (hB:SBase (arrOf st) st) (h2:1 <= (arrOf st).size) (hs:SortedTo (arrOf st) (arrOf st).size)
  (h:∀ st',(arrOf st').Perm (arrOf st)->failedOf st'=none->SortedTo (arrOf st') (arrOf st).size->Q () st'):wpS (model prog w) A E s sortRuns' Q st:=by
 have hmr:minRun' (arrOf st).size (arrOf st).size 0 <= (arrOf st).size:=aT7 _ _ 0 (Nat.zero_le _)
 rw [sortRuns'_eq]
 refine wpS_bind (wpS_get (wpS_bind (wpS_mono (wpS_forRange
  (I:=fun x c st'=>(x=0 /\ c=(none,0) /\ st'=st) \/ (1 <= x /\ c=(none,(arrOf st).size) /\ SDone (arrOf st) st'))
  (Q:=fun c st'=>c=(none,(arrOf st).size) /\ SDone (arrOf st) st') ?step ?fin (.inl ⟨rfl,rfl,rfl⟩)) ?post)))
 case fin=>
  rintro c st' (⟨hx,y_,y_⟩ | ⟨y_,hc,hD⟩)
  ·lia
  ·exact ⟨hc,hD⟩
 case step=>
  rintro x c st' y_ hx (⟨rfl,rfl,rfl⟩ | ⟨hx1,rfl,hD⟩)
  ·refine cK5 (Nat.not_le.mpr h2) (wpS_bind ?_)
   refine dC8 h0 h2 hB hs ?_
   refine cK5 (Nat.not_lt.mpr hmr) (wpS_bind (wpS_get ?_))
   have hb:(pendingOf st').back?=none:=by rw [hB.pend];rfl
   rw [hb]
   exact wpS_bind (wpS_modify (wpS_pure (.inr ⟨by lia,by rw [Nat.zero_add],hB.done hs⟩)))
  ·exact bM4 (Nat.le_refl _) (wpS_pure ⟨rfl,hD⟩)
 case post=>
  rintro c st' ⟨rfl,hD⟩
  refine wpS_bind (wpS_mono (wpS_forRange (I:=fun y_ c st''=>st''=st' /\ c=(none,())) (Q:=fun c st''=>st''=st' /\ c=(none,())) ?_ (fun y_ y_ hh=>hh) ⟨rfl,rfl⟩) ?_)
  ·rintro x c st'' y_ y_ ⟨rfl,rfl⟩
   exact wpS_bind (wpS_get (bM4 (by rw [hD.2.2.1];exact Nat.le_refl 1) (wpS_pure ⟨rfl,rfl⟩)))
  ·rintro c st'' ⟨rfl,rfl⟩
   exact wpS_pure (h _ hD.1 hD.2.1 hD.2.2.2)
theorem bQ8 {vs:List Value} {ns:List Int} (hI:IntsAre vs ns) (hp:ns.Pairwise (· < ·)):SortedTo (pairsOf vs) (pairsOf vs).size:=by
 intro i j hij hj
 have hi:i < (pairsOf vs).size:=Nat.lt_of_le_of_lt hij hj
 rw [K_eq hi,K_eq hj]
 rw [pairsOf_size] at hi hj
 have e:∀ (k:Nat) (hk:k < vs.length) (hk':k < (pairsOf vs).size),(pairsOf vs)[k].1=vs[k]:=fun k hk hk'=>by simp [pairsOf]
 rw [e i hi,e j hj]
 have hn:=hI.nums
 have g:∀ (k:Nat) (hk:k < vs.length),∃ hk':k < ns.length,numOf vs[k]=ns[k]:=fun k hk=>by
  subst hn
  exact ⟨by rw [List.length_map];exact hk,by rw [List.getElem_map]⟩
 rcases g i hi with ⟨hi',e1⟩
 rcases g j hj with ⟨hj',e2⟩
 rw [e1,e2]
 rcases Nat.lt_or_ge i j with q | q
 ·exact Int.le_of_lt (List.pairwise_iff_getElem.mp hp i j hi' hj' q)
 ·have:=Nat.le_antisymm hij q
  subst this
  exact Int.le_refl _
theorem aU1 {a:Addr} {vs:List Value} {ns:List Int} {n:Nat} {P:Fin->Shared->Prop} (ho:s.heap.get? a=some (seqObj "list" vs.toArray n))
  (hI:IntsAre vs ns) (hc:vs.length < 64 \/ ns.Pairwise (· < ·)) (hl:vs.length <= sizeLine)
  (h:∀ (out:Array Value) (ns':List Int),IntsAre out.toList ns'->ns'.Perm ns->ns'.Pairwise (· <= ·)->P (.done (.ret .none)) { s with heap:=sortedHeap s.heap a vs out }) :
  wpAny (model prog w) A (Builtin.«list.sort» ⟨[.ref a],[]⟩) P E s:=by
 rcases hc with h64 | hp
 ·exact list_sort_tree ho hI h64 h
 by_cases h64:vs.length < 64
 ·exact list_sort_tree ho hI h64 h
 rw [list_sort_plain]
 have ha:a < s.heap.objs.size:=Heap.lt_size ho
 refine wpAny_bind (listItems_at ho rfl ?_)
 refine wpAny_bind (listUpdate_at ho rfl ?_ (hsz:=by simpa using hl))
 obtain ⟨e1,ho1⟩:∃ e1,(s.heap.update a (Obj.mapSeq fun y_=>#[])).get? a=some (seqObj "list" #[] e1):=⟨_,get?_update_seq ho (fun y_=>#[])⟩
 refine wpAny_bind (seqEpoch_at ho1 rfl ?_)
 refine wpAny_bind (wpAny_newTuple ?_ (by simpa using hl))
 refine wpAny_bind (wpAny_newList ?_)
 refine wpAny_holding ?_
 have ho6:(((s.heap.update a (Obj.mapSeq fun y_=>#[])).push (seqObj "tuple" vs.toArray 0)).push (seqObj "list" #[] 0)).get? a=some (seqObj "list" #[] e1):=by
  rw [Heap.get?_push_ne _ _ _ (by rw [size_push',Heap.size_update];exact Nat.ne_of_lt (Nat.lt_succ_of_lt ha)),Heap.get?_push_ne _ _ _ (by rw [Heap.size_update];exact Nat.ne_of_lt ha)]
  exact ho1
 show wpAny (model prog w) A _ P E { s with heap:=((s.heap.update a (Obj.mapSeq fun y_=>#[])).push (seqObj "tuple" vs.toArray 0)).push (seqObj "list" #[] 0) }
 dsimp only
 have hsz:vs.toArray.size=vs.length:=by simp
 have h2:¬ vs.toArray.size < 2:=by lia
 rw [if_neg h2,if_neg h2]
 obtain ⟨v₁,v₂,rest,rfl⟩:∃ v₁ v₂ rest,vs=v₁::v₂::rest:=by
  cases vs with
  | nil=>exact absurd (by decide) h64
  | cons v₁ vs=>
   cases vs with
   | nil=>exact absurd (show 1 < 64 by decide) h64
   | cons v₂ rest=>exact ⟨v₁,v₂,rest,rfl⟩
 rw [keyKind_ints hI]
 refine wpAny_bind (wpAny_pure ?_)
 refine wpAny_bind (wpAny_mono (cR5 (st:=SortSt.mk' oneType' ((v₁::v₂::rest).toArray.zip (v₁::v₂::rest).toArray) #[] 7 none)
  (Q:=fun y_ st'=>(arrOf st').Perm (pairsOf (v₁::v₂::rest)) /\ failedOf st'=none /\ SortedTo (arrOf st') (pairsOf (v₁::v₂::rest)).size)
  hI.intKeys ⟨Array.Perm.refl _,rfl,rfl,rfl⟩ (by rw [show arrOf _=pairsOf (v₁::v₂::rest) from rfl,pairsOf_size];simp) (bQ8 hI hp) fun st' a1 a2 a3=>⟨a1,a2,a3⟩) ?_ fun y_ y_ e=>e)
 rintro ⟨⟨⟩,st'⟩ s' ⟨rfl,hp',hf,hs⟩
 dsimp only
 refine wpAny_bind (seqEpoch_at ho6 rfl ?_)
 refine wpAny_bind (listUpdate_at ho6 rfl ?_ (hsz2:=by refine Nat.le_trans (Nat.le_of_eq ((Array.size_map ..).trans (hp'.size_eq.trans (pairsOf_size _)))) ?_;exact Nat.le_succ_of_le hl))
 rw [hf]
 simp only [bne_self_eq_false,Bool.false_eq_true,if_false]
 rcases sorted_out hI hp' hs with ⟨ns',q1,q2,q3⟩
 exact wpAny_pure (h _ ns' q1 q2 q3)
end
end Mini.Internal
namespace Mini.Internal
open PySem PySem.W PySem.Calls PyProof.Rows
section
variable {prog:Program} {w:World} {A:Around} {d:Addr} {ep:Nat} {o:Obj} {es:Array DictEntry}
noncomputable def cU9 (es:Array DictEntry) (i:Nat) (v:Value):Prop:=∃ e,es[i]?=some e /\ v=e.key
theorem bV4 (hh:A.handled=none) {I:Addr} (hne:d≠I) (hdat:o.data=.dict es ep):Walks prog w A I [I,d] [I] es.size (cU9 es) (fun i h=>h.IsKeyIter I d i es.size ep /\ h.get? d=some o) where
 sub:=fun b hb=>by rw [List.mem_singleton.mp hb];exact .head _
 frame:=fun y_ y_ y_ st hk=>⟨st.1.at fun o e=>hk I (.head _) o e,hk d (.tail _ (.head _)) o st.2⟩
 item:=fun i s Q E hi st hQ=>by
  refine aU2 st.1 st.2 hdat hi fun h' hit' hs'=>?_
  exact hQ _ h' s.toks ⟨_,Array.getElem?_eq_getElem hi,rfl⟩ ⟨hit',hs'.extBut d o hne st.2⟩ fun b o hb e=>hs'.extBut b o (fun h=>hb (by rw [h];exact .head _)) e
 done:=fun s Q E st hQ=>bG1 hh st.1 st.2 hdat (Nat.le_refl _) fun h' he'=>hQ h' s.toks fun b o hb e=>he' b o (fun h=>hb (by rw [h];exact .head _)) e
 self:=fun y_ y_ y_ y_ st hQ=>wpAny_pyIter_keyiter st.1 hQ
theorem kraw (hd:(d == sysModules)=false) (hc:o.ExactDict) (hdat:o.data=.dict es ep):KdlSrc prog w "dict" d d es.size (cU9 es) (fun h=>h.get? d=some o) where
 type:=fun y_ hm=>⟨o,hm,hc.1⟩
 there:=fun y_ hm=>⟨Heap.lt_size hm,Heap.lt_size hm⟩
 keep:=fun y_ y_ hm hk=>hk d (.inl rfl) o hm
 notList:=by decide
 notTuple:=by decide
 hint:=fun y_ y_ y_ y_ hm hq=>kdl_hint_dict ⟨o,hm,hc.1⟩ hq
 iter:=fun y_ y_ hh hm=>⟨_,_,(fun y_ y_ hq=>aU3 hd hm hc hdat hq),bV4 hh (Nat.ne_of_lt (Heap.lt_size hm)) hdat,⟨⟨_,Heap.get?_push_size _ rfl,rfl,rfl⟩,Heap.get?_push_of_some _ hm⟩⟩
theorem bK3 {acc:Array Value} (h:ItemsOf (cU9 es) acc es.size):acc.toList=es.toList.map (·.key):=by
 refine List.ext_getElem? fun i=>?_
 rw [Array.getElem?_toList,List.getElem?_map,Array.getElem?_toList]
 rcases Nat.lt_or_ge i acc.size with q | q
 ·rcases h.2 i _ (Array.getElem?_eq_getElem q) with ⟨e,h1,h2⟩
  rw [Array.getElem?_eq_getElem q,h1,h2];rfl
 ·rw [Array.getElem?_eq_none q,Array.getElem?_eq_none (by rw [<- h.1];exact q)];rfl
end
end Mini.Internal
namespace Mini.Internal
open PySem PySem.W PyProof.Rows
noncomputable def dI9:Bi->Value
 | .len=>.builtin "len"
 | .abs=>.builtin "abs"
 | .int=>.type "int"
 | .str=>.type "str"
 | .list=>.type "list"
 | .tuple=>.type "tuple"
 | .dict=>.type "dict"
 | .sorted=>.builtin "sorted"
 | .max2=>.builtin "max"
 | .min2=>.builtin "min"
 | .max1=>.builtin "max"
 | .lenset=>.none
section
variable {W:Wd} {K:Frag} {h h' h₀:Heap} {fs:List Env} {env:Env} {vis:List (Option Str)} {s s' s₀:Shared} {io io' io₀:Io} {m m' m₀:MH} {r r':Lo} {fr fr' own own':List Addr} {A:Around} {n:Nat} {pos p:Pos}
theorem bT2 {D:Addr} {us:Array Value} {c tk:Nat} {L:List V} (H:HR W s.heap io m) (hk:∀ b o,s.heap.get? b=some o->h'.get? b=some o) (hD:h'.get? D=some (fQ us c)) (hus:VRs W s.heap io L us.toList) (hl:L.length <= lid) (hD0:s.heap.get? D=none) :
  NP W own fr s io m (VP W) (alloc (.list L) m) (.ref D) { s with heap:=h',toks:=tk }:=by
 have st:Step own fr s.heap io m h' io m:=.of_keeps H hk
 have nf:¬ dJ io D:=fun f=>by
  refine hide fun G_ g_=>?_;rcases H.foot f with ⟨o,ho,y_⟩;refine g_ ?_;clear g_ G_
  rw [hD0] at ho;injection ho
 have basD:W.base.get? D=none:=by
  cases q:W.base.get? D with
  | none=>rfl
  | some o=>rw [H.keep _ _ q] at hD0;injection hD0
 refine hide fun G_ g_=>?_;rcases cZ2 st (H.of_keeps hk) hD (hus.step st) hl nf hD0 basD with ⟨a1,a2,a3⟩;refine g_ ?_;clear g_ G_
 exact ⟨_,_,_,rfl,a1,a2,a3,rfl,rfl⟩
theorem aB3 {k:Nat} (hk:k <= lid):(k:Int) < 2 ^ 63:=Int.lt_of_le_of_lt (Int.ofNat_le.mpr hk) (by decide)
theorem cV6 {xs:List V} {is:List Int} {us:List Value} (h:eY xs=some is) (k:VRs W s.heap io xs us):IntsAre us is /\ is.length=xs.length:=by
 induction xs generalizing is us with
 | nil=>subst k;(refine aF h fun z1=>?_;clear h;subst z1);exact ⟨.nil,rfl⟩
 | cons x xs ih=>
  refine VRs.dCons k fun y_ y_ k1 k2=>?_
  ·
   induction k1 using VR.elim <;> first | (exact nomatch (show (none:Option (List Int))=some _ from h)) | skip
   cases q:eY xs with
   | none=>have h:(eY xs).map _=some is:=h;rw [q] at h;injection h
   | some js=>
    have h:(eY xs).map _=some is:=h
    rw [q] at h
    simp only [Option.map_some,Option.some.injEq] at h
    subst h
    rcases ih q k2 with ⟨a,b⟩
    exact ⟨.cons _ _ a,by simp [b]⟩
theorem cA7 {us:List Value} {is:List Int} (k:IntsAre us is):VRs W h io (is.map V.int) us:=by
 induction k with
 | nil=>exact .nil
 | cons n t y_ ih=>exact .cons (.int n t) ih
theorem aD6 (x:Int):∀ l:List Int,(Mini.Internal.insI x l).Perm (x::l)
 | []=>.refl _
 | y::r=>by
  unfold Mini.Internal.insI;split
  ·exact .refl _
  ·exact ((aD6 x r).cons y).trans (.swap _ _ _)
theorem aA0:∀ ns,(Mini.Internal.sortI ns).Perm ns
 | []=>.refl _
 | x::r=>(aD6 x _).trans ((aA0 r).cons x)
theorem aI6 (x:Int):∀ l:List Int,l.Pairwise (· <= ·)->(Mini.Internal.insI x l).Pairwise (· <= ·)
 | [],_=>by simp [Mini.Internal.insI]
 | y::r,h=>by
  rcases List.pairwise_cons.mp h with ⟨h1,h2⟩
  unfold Mini.Internal.insI;split
  ·refine List.pairwise_cons.mpr ⟨fun z hz=>?_,h⟩
   rcases List.mem_cons.mp hz with rfl | hz
   ·assumption
   ·have:=h1 z hz;lia
  ·refine List.pairwise_cons.mpr ⟨fun z hz=>?_,aI6 x r h2⟩
   rcases List.mem_cons.mp ((aD6 x r).mem_iff.mp hz) with rfl | hz
   ·lia
   ·exact h1 z hz
theorem aE2:∀ ns,(Mini.Internal.sortI ns).Pairwise (· <= ·)
 | []=>.nil
 | x::r=>aI6 x _ (aE2 r)
theorem bX2 {ns ns':List Int} (hp:ns'.Perm ns) (hs:ns'.Pairwise (· <= ·)):ns'=Mini.Internal.sortI ns:=
 List.Perm.eq_of_pairwise (fun y_ y_ y_ y_ a b=>Int.le_antisymm a b) hs (aE2 ns) (hp.trans (aA0 ns).symm)
theorem int_dict (H:HR W s.heap io m) {k:Nat} {p:Addr×Addr} {kvs:List (Ky×V)} {e:Nat} {is:List Int} (hi:io[k]?=some p) (hm:m[k]?=some (.dict kvs e)) (hk:fY kvs=some is) :
  ∃ (l:List (Int×Value)) (ep:Nat),s.heap.DictAt (intKind W.prog W.w) p.1 l ep /\ l.map (·.1)=is /\ is.length=kvs.length /\ kvs.length <= lid:=by
 refine hide fun G_ g_=>?_
 rcases H.obj _ _ _ hi hm with ⟨y_,o,es,c,h1,h2,h3,h4,h5,h6⟩
 have keys:∀ (kvs:List (Ky×V)) (is:List Int),fY kvs=some is->kvs.map (·.1)=is.map Ky.int:=by
  intro kvs
  induction kvs with
  | nil=>intro is h;(refine aF h fun z1=>?_;clear h;subst z1);rfl
  | cons q r ih=>
   intro is h
   rcases q with ⟨q1,q2⟩
   cases (q1) <;> first | (exact nomatch (show (none:Option (List Int))=some is from h)) | skip
   cases w:fY r with
   | none=>have h:(fY r).map _=some is:=h;rw [w] at h;injection h
   | some js=>
    have h:(fY r).map _=some is:=h
    rw [w] at h
    simp only [Option.map_some,Option.some.injEq] at h
    subst h
    simp [ih js w]
 have ke:=keys kvs is hk
 have hall:∀ q∈kvs,∃ j,q.1=Ky.int j:=fun q hq=>by
  have:q.1∈kvs.map (·.1):=List.mem_map.mpr ⟨q,hq,rfl⟩
  rw [ke] at this
  refine hide fun G_ g_=>?_;rcases List.mem_map.mp this with ⟨j,y_,e⟩;refine g_ ?_;clear g_ G_
  exact ⟨j,e.symm⟩
 rcases h4.pairs intEmb hall with ⟨l,l1,l2,l3⟩
 refine g_ ?_
 clear g_ G_
 have l4:l.map (·.1)=is:=by
  rw [ke] at l2
  have:(l.map (·.1)).map Ky.int=is.map Ky.int:=by rw [List.map_map];exact l2
  exact (List.map_inj_right fun y_ y_ e=>dF3 e).mp this
 refine ⟨l,c,⟨o,es,h1,h2,h3,?_,l1,?_⟩,l4,?_,h6⟩
 ·intro e he
  exact h4.keysOf intEmb hall e (by simpa using he)
 ·rw [l4]
  rw [ke] at h5
  exact (List.pairwise_map.mp h5).imp fun h q=>h (by rw [q])
 ·have:=congrArg List.length ke
  simpa using this.symm
noncomputable def cZ9:Bi->Bool
 | .len | .abs | .list | .sorted | .max1=>true
 | _=>false
set_option tactic.hygienic true in
theorem cG4 {l:List (Int×Value)} {acc:Array Value} (h:ItemsOf (fun i v=>∃ k x,l[i]?=some (k,x) /\ (intKind W.prog W.w).is k v=true) acc l.length):IntsAre acc.toList (l.map (·.1)):=by
 have key:∀ (l:List (Int×Value)) (vs:List Value),vs.length=l.length->(∀ (j:Nat) (v:Value),vs[j]?=some v->∃ k x,l[j]?=some (k,x) /\ (intKind W.prog W.w).is k v=true)->IntsAre vs (l.map (·.1)):=by
  intro l
  induction l with
  | nil=>intro vs hl _;cases vs with
   | nil=>exact .nil
   | cons=>injection hl
  | cons q r ih=>
   intro vs hl hv
   cases vs with
   | nil=>injection hl
   | cons v vs=>
    refine hide fun G_ g_=>?_;rcases hv 0 v rfl with ⟨k,x,e1,e2⟩;refine g_ ?_;clear g_ G_
    simp at e1
    subst e1
    have:∃ t,v=.int k t:=by
     cases (v) <;> simp [intKind,Value.isInt] at e2
     rename_i j t
     exact ⟨t,by rw [e2]⟩
    rcases this with ⟨t,rfl⟩
    exact .cons k t (ih vs (by simpa using hl) fun j v e=>by simpa using hv (j+1) v (by simpa using e))
 exact key l acc.toList (by simpa using h.1) fun j v e=>h.2 j v (by rw [<- Array.getElem?_toList];exact e)
theorem cV7 {l:List Value} {ns:List Int} (h:IntsAre l ns):∀ {i:Nat} {a:Int} {t:Tok},l[i]?=some (.int a t)->ns[i]?=some a:=by
 induction h with
 | nil=>
  intro i a t h
  injection (show none=some (Value.int a t) from h)
 | cons n t' h ih=>
  intro i a t e
  cases i with
  | zero=>
   injection (show some (Value.int n t')=some (Value.int a t) from e) with e
   injection e with e
   rw [e];rfl
  | succ i=>exact ih e
theorem cU3 {E:Value->Shared->Prop} {Q:Value->Shared->Prop} {l:Addr} {ws:Array Value} {is:List Int} {M:Int} (hh:A.handled=none) (hl:s.heap.IsList l ws) (hi:IntsAre ws.toList is) (hm:is.max?=some M)
  (hQ:∀ t h' tk,(∀ b o,s.heap.get? b=some o->h'.get? b=some o)->Q (.int M t) { s with heap:=h',toks:=tk }):wpAny (model W.prog W.w) A (call (.builtin "max") [.ref l]) Q E s:=by
 rcases (hi.allInts).items with ⟨xs,e⟩
 have e:ws=intItems xs:=by rw [<- e,Array.toArray_toList]
 subst e
 have at_:∀ {i:Nat} {v:Value},(intItems xs)[i]?=some v->is[i]?=some (numAt xs i):=fun h=>by
  rcases intItems_at h with ⟨t,rfl⟩
  exact cV7 hi (by rw [Array.getElem?_toList];exact h)
 have len:is.length=(intItems xs).size:=by rw [<- hi.length,Array.length_toList]
 have ne:0 < xs.size:=by
  cases is with
  | nil=>injection hm
  | cons a r=>
   have:(intItems xs).size=xs.size:=by simp [intItems]
   rw [this] at len
   rw [<- len];exact Nat.succ_pos _
 refine max_intList hh hl ne fun v h' tk hv hk=>?_
 have ek:=at_ hv
 rcases intItems_at hv with ⟨t,rfl⟩
 have hb:=argBest_gt (numAt xs) (xs.size - 1)
 have eM:is.max?=some (numAt xs (argBest (fun i j=>decide (numAt xs i > numAt xs j)) (xs.size - 1))):=by
  refine List.max?_eq_some_iff.mpr ⟨List.mem_of_getElem? ek,fun a ha=>?_⟩
  rcases List.getElem?_of_mem ha with ⟨j,ej⟩
  have lj:j < (intItems xs).size:=by rw [<- len];exact (List.getElem?_eq_some_iff.mp ej).1
  have:=at_ (Array.getElem?_eq_getElem lj)
  rw [ej] at this
  (refine aF this fun z1=>?_;clear this;subst z1)
  refine hb.2 j ?_
  have:(intItems xs).size=xs.size:=by simp [intItems]
  exact Nat.le_sub_one_of_lt (this▸lj)
 rw [hm] at eM
 (refine aF eM fun z1=>?_;clear eM;subst z1)
 exact hQ t h' tk hk
theorem cJ8 {Pr:Bi->List V->Prop} (l1:∀ s,Pr .len [.str s]) (l2:∀ xs,Pr .len [.tup xs]) (l3:∀ ns,Pr .len [.scr ns]) (l4:∀ n,Pr .len [.ref n]) (a1:∀ i,Pr .abs [.int i]) (i1:∀ c,Pr .int [.bool c]) (i2:∀ s,Pr .int [.str s]) (s1:∀ i,Pr .str [.int i]) (t1:∀ xs,Pr .list [.tup xs]) (t2:∀ n,Pr .list [.ref n])
  (o1:∀ n,Pr .sorted [.ref n]) (u1:∀ n,Pr .tuple [.ref n]) (d1:∀ n,Pr .dict [.ref n]) (mx:∀ n,Pr .max1 [.ref n]) (x1:∀ i j,Pr .max2 [.int i,.int j]) (x2:∀ i j,Pr .min2 [.int i,.int j]) (bad:∀ b vs,cZ9 b=false \/ biV b vs=(fun y_=>.bad)->Pr b vs) (b:Bi) (vs:List V):Pr b vs:=by
 cases hb:cZ9 b with
 | false=>exact bad b vs (.inl hb)
 | true=>
  cases vs with
  | nil=>exact bad b [] (.inr (by cases (b) <;> rfl))
  | cons v vs=>
   cases vs with
   | nil=>
    cases (b) <;> first | ((first|(injection hb;done)|cases (hb));done) | skip
    all_goals cases (v) <;> first | (exact l1 _) | (exact l2 _) | (exact l3 _) | (exact l4 _) | (exact a1 _) | (exact i1 _) | (exact i2 _) | (exact s1 _) | (exact t1 _) | (exact t2 _) | (exact o1 _) | (exact u1 _) | (exact d1 _) | (exact mx _) | (exact bad _ _ (.inr rfl))
   | cons v' vs=>
    cases vs with
    | nil=>
     cases (b) <;> first | (exact bad _ _ (.inr rfl)) | skip
     all_goals cases (v) <;> first | (exact bad _ _ (.inr rfl)) | skip
     all_goals cases (v') <;> first | (exact x1 _ _) | (exact x2 _ _) | (exact bad _ _ (.inr rfl))
    | cons v'' vs=>exact bad _ _ (.inr (by cases (b) <;> first | rfl | (cases (v) <;> first | rfl | (cases (v') <;> rfl))))
set_option tactic.hygienic true in
theorem dI8 (ok:WOk W) (hh:A.handled=none) {b:Bi} (hb:cZ9 b=true):SiF W A fs (dI9 b) (biV b):=by
 intro s io m vs us H G hu
 revert us
 revert hb
 refine cJ8 (Pr:=fun b vs=>cZ9 b=true->∀ us,VRs W s.heap io vs us->Si W [] A fs (VP W) (call (dI9 b) us) s io m (biV b vs m)) ?_ ?_ ?_ ?_ ?_ ?_ ?_ ?_ ?_ ?_ ?_ ?_ ?_ ?_ ?_ ?_ ?_ b vs
 ·intro x hb us hu
  refine VRs.d1 hu fun y_ k1=>?_;refine VR.dStr k1 fun t hx=>?_
  show Si W [] A fs (VP W) _ s io m (if x.length <= lid then .ok (.int x.length) m else .bad)
  split
  ·rename_i hl
   exact fun y_=>P.len_str (by have:=aB3 hl;lia) (bO H (.int _ _))
  ·exact .bad
 ·intro xs hb us hu
  refine VRs.d1 hu fun y_ k1=>?_;refine VR.dTup k1 fun a ws c ha hx=>?_
  show Si W [] A fs (VP W) _ s io m (if xs.length <= lid then .ok (.int xs.length) m else .bad)
  split
  ·rename_i hl
   have e:ws.size=xs.length:=hx.size
   have:=PyProof.Rows.len_tuple (prog:=W.prog) (w:=W.w) (A:=A) (E:=XP W [] fs s io m (.ok (.int xs.length) m:Res V)) (s:=s) (Q:=NP W [] (frs fs) s io m (VP W) (.ok (.int xs.length) m)) ⟨_,ha,rfl,c,rfl⟩ (by rw [e];exact aB3 hl) (by rw [e];exact bO H (.int _ _))
   exact fun y_=>this
  ·exact .bad
 ·intro ns hb us hu
  refine VRs.d1 hu fun y_ k1=>?_;refine VR.dScr k1 fun l o ws c hl hc hd hi hn=>?_
  have e:ws.size=ns.length:=by simpa using hi.length
  refine fun y_=>Calls.call_len_list ⟨o,H.keep _ _ hl,hc,c,hd⟩ (by rw [e];exact aB3 hn) ?_
  rw [e];exact bO H (.int _ _)
 ·intro k hb us hu
  refine VRs.d1 hu fun y_ k1=>?_;refine VR.dRef k1 fun a d hi=>?_
  show Si W [] A fs (VP W) _ s io m (match m[k]? with | some (.list xs)=>.ok (.int xs.length) m | _=>.bad)
  split
  ·rename_i xs hm
   refine hide fun G_ g_=>?_;rcases H.obj _ _ _ hi hm with ⟨y_,ws,c,h1,h2,h3⟩;refine g_ ?_;clear g_ G_
   have e:ws.size=xs.length:=h2.size
   refine fun y_=>Calls.call_len_list ⟨_,h1,rfl,c,rfl⟩ (by rw [e];exact aB3 h3) ?_
   rw [e];exact bO H (.int _ _)
  ·exact .bad
 ·intro i hb us hu
  refine VRs.d1 hu fun y_ k1=>?_;refine VR.dInt k1 fun y_=>?_
  exact fun y_=>PyProof.Rows.call_abs_int fun u tk=>bO H (.int _ _)
 ·intro i hb;injection hb
 ·intro x hb us hu;exact .bad
 ·intro i hb;injection hb
 ·intro xs hb us hu;exact .bad
 ·intro k hb us hu
  refine VRs.d1 hu fun y_ k1=>?_;refine VR.dRef k1 fun a d hi=>?_
  show Si W [] A fs (VP W) _ s io m (match m[k]? with | some (.list xs)=>alloc (.list xs) m | some (.dict kvs _)=>alloc (.list (kvs.map fun p=>p.1.val)) m | _=>.bad)
  split
  ·rename_i xs hm
   refine hide fun G_ g_=>?_;rcases H.obj _ _ _ hi hm with ⟨y_,ws,c,h1,h2,h3⟩;refine g_ ?_;clear g_ G_
   refine fun y_=>call_list_seq a (.inl rfl) h1 rfl rfl (fun h' c' hk hD=>?_) (by rw [h2.size];exact aR h3)
   exact bT2 (tk:=s.toks) H hk hD h2 h3 (aZ _)
  ·rename_i kvs e hm
   refine hide fun G_ g_=>?_;rcases H.obj _ _ _ hi hm with ⟨y_,o,es,ep,h1,h2,h3,h4,h5⟩;refine g_ ?_;clear g_ G_
   have ky:=h4.keys
   have el:es.size=kvs.length:=by have:=ky.length;simpa using this
   refine fun y_=>kdl_call (kraw (H.notSys ok ⟨_,List.mem_of_getElem? hi,.inl rfl⟩) h2 h3) hh h1 (by rw [el];exact aR h5.2) fun h' tk acc c' hk' hD hacc=>?_
   exact bT2 (tk:=tk) H hk' hD (by rw [bK3 hacc];exact ky) (by rw [List.length_map];exact h5.2) (aZ _)
  ·exact .bad
 ·intro k hb us hu
  refine VRs.d1 hu fun y_ k1=>?_;refine VR.dRef k1 fun a d hi=>?_
  show Si W [] A fs (VP W) _ s io m (match m[k]? with | some (.dict kvs _)=>(match fY kvs with | some is=>if is.length < 64 \/ is.Pairwise (· < ·) then alloc (.list ((sortI is).map .int)) m else .bad | Option.none=>.bad) | _=>.bad)
  split
  ·rename_i kvs e hm
   split
   ·rename_i is hk
    split
    ·rename_i h64
     refine hide fun G_ g_=>?_;rcases int_dict H hi hm hk with ⟨l,ep,q1,q2,q3,q4⟩;refine g_ ?_;clear g_ G_
     have e:l.length=kvs.length:=by rw [<- q3,<- q2];simp
     intro y_
     refine Calls.call_function_entry kind_sorted plain_sorted entry_sorted (args_sorted1 _) ?_
     unfold Builtin.«sorted»
     refine wpAny_bind (m:=checkCount "sorted" 1 1 _) (wpAny_pure ?_)
     refine wpAny_bind (kdu_collect (A:=A.in1) (kdl_dict (H.notSys ok ⟨_,List.mem_of_getElem? hi,.inl rfl⟩)) hh q1 (by rw [e];exact aR q4) fun h' tk acc hk' hacc=>?_)
     have ia:=cG4 hacc
     rw [q2] at ia
     have il:is.length=kvs.length:=q3
     have al:acc.toList.length=kvs.length:=by
      have:acc.size=l.length:=hacc.1
      simp only [Array.length_toList];lia
     have hl:acc.toList.length < 64 \/ is.Pairwise (· < ·):=h64.imp (fun q=>by lia) id
     have sl:acc.toList.length <= sizeLine:=by rw [al];exact aR q4
     refine wpAny_bind (wpAny_newList ?_ sl)
     have hoL:(h'.push (seqObj "list" acc.toList.toArray 0)).get? h'.objs.size=some (seqObj "list" acc.toList.toArray 0):=Heap.get?_push_size _ rfl
     refine wpAny_bind (wpAny_holding (wpAny_call_entry slot_list_sort ⟨_,hoL,rfl⟩ entry_list_sort (aU1 hoL ia hl sl fun out ns' a1 a2 a3=>⟨_,rfl,?_⟩) (args_list_sort _)))
     refine wpAny_pure ⟨_,rfl,?_⟩
     rw [bX2 a2 a3] at a1
     rcases sortedHeap_at (out:=out) hoL with ⟨ce,hat⟩
     have dead:s.heap.get? h'.objs.size=none:=by
      cases q:s.heap.get? h'.objs.size with
      | none=>rfl
      | some o=>have:=hk' _ _ q;rw [aZ] at this;injection this
     refine bT2 (tk:=tk) H (fun b o e=>?_) hat (cA7 a1) (by rw [List.length_map,(aA0 is).length_eq,il];exact q4) dead
     have e1:=aQ (seqObj "list" acc.toList.toArray 0) b o (hk' b o e)
     rw [sortedHeap_old (Nat.ne_of_lt (Heap.lt_size (hk' b o e))) (Heap.lt_size e1)]
     exact e1
    ·exact .bad
   ·exact .bad
  ·exact .bad
 ·intro i hb;injection hb
 ·intro i hb;injection hb
 ·intro k hb us hu
  refine VRs.d1 hu fun y_ k1=>?_;refine VR.dRef k1 fun a d hi=>?_
  show Si W [] A fs (VP W) _ s io m (match m[k]? with | some (.list xs)=>(match eY xs with | some is=>(match is.max? with | some i=>.ok (.int i) m | Option.none=>.bad) | Option.none=>.bad) | _=>.bad)
  cases hm:m[k]? with
  | none=>exact .bad
  | some o=>
   cases o with
   | list xs=>
    show Si W [] A fs (VP W) _ s io m (match eY xs with | some is=>(match is.max? with | some i=>.ok (.int i) m | Option.none=>.bad) | Option.none=>.bad)
    cases hk:eY xs with
    | none=>exact .bad
    | some is=>
     show Si W [] A fs (VP W) _ s io m (match is.max? with | some i=>.ok (.int i) m | Option.none=>.bad)
     cases hx:is.max? with
     | none=>exact .bad
     | some M=>
      refine hide fun G_ g_=>?_;rcases H.obj _ _ _ hi hm with ⟨y_,ws,c,h1,h2,h3⟩;refine g_ ?_;clear g_ G_
      rcases cV6 (s:=s) hk h2 with ⟨ia,il⟩
      refine fun y_=>cU3 hh ⟨_,h1,rfl,c,rfl⟩ ia hx fun t h' tk hk'=>?_
      exact ⟨_,m,io,rfl,.of_keeps H hk',H.of_keeps hk',.int _ _,rfl,rfl⟩
   | _=>exact .bad
 ·intro i j hb;injection hb
 ·intro i j hb;injection hb
 ·intro b vs hq hb us hu
  rcases hq with hq | hq
  ·rw [hq] at hb;injection hb
  ·rw [hq];exact .bad
end
end Mini.Internal
namespace Mini.Internal
open PySem PySem.W PyProof.Rows
noncomputable def bR0:Nat->String
 | 0=>"list"
 | 1=>"dict"
 | _=>"str"
noncomputable def bR1:Sm->String
 | .append=>"append"
 | .pop=>"pop"
 | .clear=>"clear"
 | .get=>"get"
 | .join=>"join"
 | .split=>"split"
 | .count=>"count"
 | .index=>"index"
noncomputable def smId (k:Nat) (n:Sm):String:=match k,n with
 | 0,.append=>"list.append"
 | 0,.pop=>"list.pop"
 | 0,.count=>"list.count"
 | 0,.index=>"list.index"
 | 1,.pop=>"dict.pop"
 | 1,.get=>"dict.get"
 | 2,.split=>"str.split"
 | 0,.clear=>"list.clear"
 | 1,.clear=>"dict.clear"
 | _,_=>"str.join"
section
variable {W:Wd} {K:Frag} {h h' h₀:Heap} {fs:List Env} {env:Env} {vis:List (Option Str)} {s s' s₀:Shared} {io io' io₀:Io} {m m' m₀:MH} {r r':Lo} {fr fr' own own':List Addr} {A:Around} {n:Nat} {pos p:Pos}
theorem bJ5 {α β:Type} {P:Heap->Io->β->α->Prop} (H:HR W s.heap io m) {i:Nat} {p:Addr×Addr} {xs xs':List V} (hi:io[i]?=some p) (hm:m[i]?=some (.list xs)) {h':Heap} {tk:Nat} (hs:Heap.SameBut p.1 s.heap h') {us':Array Value} {c':Nat} (h1:h'.get? p.1=some (fQ us' c')) (h2:VRs W s.heap io xs' us'.toList) (h3:xs'.length <= lid) {v:β} {u:α}
  (hP:∀ st:Step own fr s.heap io m h' io (m.set i (.list xs')),P h' io v u):NP W own fr s io m P (.ok v (m.set i (.list xs'))) u { s with heap:=h',toks:=tk }:=by
 rcases H.obj _ _ _ hi hm with ⟨hpp,y_⟩
 have hk:∀ b o,b≠p.1->b≠p.2->s.heap.get? b=some o->h'.get? b=some o:=fun b o q y_ ho=>aB6 hs b o q ho
 have hd:∀ kv ep,MObj.list xs=.dict kv ep->∃ kvs2 e2,MObj.list xs'=.dict kvs2 e2 /\ ep < e2:=fun kv ep q=>by injection q
 have st:Step own fr s.heap io m h' io (m.set i (.list xs')):=aF1 H hi hm hk ⟨_,h1⟩ ⟨_,hpp▸h1⟩ hd
 exact ⟨v,_,io,rfl,st,H.set hi hm hk hd ⟨_,h1⟩ ⟨_,hpp▸h1⟩ ⟨hpp,us',c',h1,h2.step st,h3⟩,hP st,rfl,rfl⟩
set_option tactic.hygienic true in
theorem cD1 {xs:List V} {l:List Str} {us:List Value} (h:eC xs=some l) (k:VRs W s.heap io xs us):∃ ts:List (Str×Tok),us=strValues ts /\ ts.map (·.1)=l /\ ∀ x∈l,PyData.strOk x=true:=by
 induction xs generalizing l us with
 | nil=>subst k;(refine aF h fun z1=>?_;clear h;subst z1);exact ⟨[],rfl,rfl,fun y_ q=>nomatch q⟩
 | cons x xs ih=>
  refine VRs.dCons k fun y_ y_ k1 k2=>?_
  ·
   induction k1 using VR.elim <;> first | (exact nomatch (show (none:Option (List Str))=some _ from h)) | skip
   rename_i y t hy
   cases q:eC xs with
   | none=>have h:(eC xs).map _=some l:=h;rw [q] at h;injection h
   | some js=>
    have h:(eC xs).map _=some l:=h
    rw [q] at h
    simp only [Option.map_some,Option.some.injEq] at h
    subst h
    refine hide fun G_ g_=>?_;rcases ih q k2 with ⟨ts,a,b,c⟩;refine g_ ?_;clear g_ G_
    refine ⟨(y,t)::ts,by rw [a];rfl,by simp [b],fun z hz=>?_⟩
    rcases List.mem_cons.mp hz with rfl | hz
    ·exact hy
    ·exact c z hz
theorem cH7 (sep:Str) (l:List Str):Txt.join sep l=aK4 sep l:=by
 show (⟨(l.drop 1).foldl (fun acc p=>acc++sep.cps++p.cps) (l.headD Str.empty).cps⟩:Str)=aK4 sep l
 cases l with
 | nil=>rfl
 | cons x r=>
  show (⟨r.foldl (fun acc p=>acc++sep.cps++p.cps) x.cps⟩:Str)=r.foldl (fun acc p=>acc++sep++p) x
  induction r generalizing x with
  | nil=>rfl
  | cons y r ih=>exact ih (x++sep++y)
theorem cG6 {sep:Str} {l:List Str} (hs:PyData.strOk sep=true) (hl:∀ x∈l,PyData.strOk x=true):PyData.strOk (aK4 sep l)=true:=by
 cases l with
 | nil=>show PyData.strOk Str.empty=true;simp [PyData.strOk,Str.empty]
 | cons x r=>
  have key:∀ (r:List Str) (x:Str),PyData.strOk x=true->(∀ y∈r,PyData.strOk y=true)->PyData.strOk (r.foldl (fun acc p=>acc++sep++p) x)=true:=by
   intro r
   induction r with
   | nil=>intro x hx _;exact hx
   | cons y r ih=>intro x hx hr;exact ih _ (fE (fE hx hs) (hr y (.head _))) fun z hz=>hr z (.tail _ hz)
  exact key r x (hl x (.head _)) fun y hy=>hl y (.tail _ hy)
noncomputable def eqT (b:Bool):Value->Bool | .bool c=>c == b | _=>false
theorem aU7 {x:V} {xs:List V} {bs:List Bool} (h:bR (x::xs)=some bs):∃ c r,x=.bool c /\ bR xs=some r /\ bs=c::r:=by
 cases x with
 | bool c=>
  have h:(bR xs).map (c::·)=some bs:=h
  cases q:bR xs with
  | none=>rw [q] at h;injection h
  | some r=>rw [q] at h;(refine aF h fun z1=>?_;clear h;subst z1);exact ⟨c,r,rfl,rfl,rfl⟩
 | _=>injection h
theorem aR2 {b:Bool}:∀ {xs:List V} {bs:List Bool} {us:List Value},bR xs=some bs->VRs W s.heap io xs us->us=bs.map Value.bool /\ us.countP (eqT b)=bs.count b
 | [],bs,us,h,k=>by
  subst k
  have h:some []=some bs:=h
  (refine aF h fun z1=>?_;clear h;subst z1)
  exact ⟨rfl,rfl⟩
 | x::xs,bs,us,h,k=>by
  rcases aU7 h with ⟨c,r,rfl,q,rfl⟩
  refine VRs.dCons k fun y_ y_ k1 k2=>?_
  ·
   subst k1
   rcases aR2 (b:=b) q k2 with ⟨e1,e2⟩
   refine ⟨by rw [e1];rfl,?_⟩
   rw [List.countP_cons,List.count_cons,e2];rfl
theorem bX9 {a:Addr} {ws:Array Value} {c:Nat} {xs:List V} {bs:List Bool} {b:Bool} (H:HR W s.heap io m) (h1:s.heap.get? a=some (fQ ws c)) (h2:VRs W s.heap io xs ws.toList) (hb:bR xs=some bs) :
  Si W [] A fs (VP W) (call (.builtin "list.count") [.ref a,.bool b]) s io m (.ok (.int (bs.count b)) m):=by
 rcases aR2 (b:=b) hb h2 with ⟨e1,e2⟩
 refine fun y_=>call_meets PySem.F.slot_list_count ⟨_,h1,rfl⟩ PySem.F.entry_list_count (PySem.F.args_list_count_2 _ _) (PySem.SeqAt.list_countAt a ws c none #[] (.bool b) (eqT b)) ⟨h1,fun y hy=>?_,?_⟩
 ·have hy:y∈ws.toList:=by simpa using hy
  rw [e1] at hy
  rcases List.mem_map.1 hy with ⟨d,y_,rfl⟩
  exact PySem.SeqAt.EqAt.bool_bool d b
 ·rw [e2]
  exact bO H (.int _ _)
theorem aU9 (b:Bool):∀ bs:List Bool,bs.contains b=true->bs[bs.idxOf b]?=some b /\ ∀ (k:Nat) (d:Bool),k < bs.idxOf b->bs[k]?=some d->(d == b)=false
 | [],h=>by simp at h
 | x::bs,h=>by
  rw [List.idxOf_cons]
  cases q:x == b with
  | true=>
   refine ⟨by rw [cond_true];exact congrArg some (eq_of_beq q),fun k d hk=>absurd hk (Nat.not_lt_zero _)⟩
  | false=>
   have h':bs.contains b=true:=by
    have:(b == x)=false:=by cases (x) <;> cases (b) <;> first | rfl | (injection q)
    rw [List.contains_cons,this,Bool.false_or] at h;exact h
   rcases aU9 b bs h' with ⟨h1,h2⟩
   refine ⟨by simpa using h1,fun k d hk hd=>?_⟩
   cases k with
   | zero=>
    have:x=d:=by simpa using hd
    rw [<- this];exact q
   | succ k=>exact h2 k d (by simpa using hk) (by simpa using hd)
theorem bV9 {a:Addr} {ws:Array Value} {c:Nat} {xs:List V} {bs:List Bool} {b:Bool} (H:HR W s.heap io m) (h1:s.heap.get? a=some (fQ ws c)) (h2:VRs W s.heap io xs ws.toList) (h3:xs.length <= lid) (hb:bR xs=some bs) (hc:bs.contains b=true) :
  Si W [] A fs (VP W) (call (.builtin "list.index") [.ref a,.bool b]) s io m (.ok (.int (bs.idxOf b)) m):=by
 rcases aR2 (b:=b) hb h2 with ⟨e1,y_⟩
 rcases aU9 b bs hc with ⟨f1,f2⟩
 have hj:bs.idxOf b < bs.length:=(List.getElem?_eq_some_iff.mp f1).1
 have hsz:ws.size=bs.length:=by rw [<- Array.length_toList,e1,List.length_map]
 have hsz2:ws.size=xs.length:=h2.size
 have get:∀ (k:Nat) (hk:k < ws.size),∃ d,bs[k]?=some d /\ ws[k]=.bool d:=by
  intro k hk
  have hk':k < bs.length:=hsz▸hk
  refine ⟨bs[k],List.getElem?_eq_getElem hk',?_⟩
  have:ws.toList[k]?=some (.bool bs[k]):=by rw [e1,List.getElem?_map,List.getElem?_eq_getElem hk'];rfl
  rw [Array.getElem?_toList,Array.getElem?_eq_getElem hk] at this
  exact Option.some.inj this
 refine fun y_=>call_meets PySem.F.slot_list_index ⟨_,h1,rfl⟩ PySem.F.entry_list_index (PySem.F.args_list_index_2 _ _) (PySem.SeqAt.list_indexAt a ws c none #[] (.bool b) (eqT b) (bs.idxOf b) (by lia) (by have:lid=4194304:=rfl;lia) ?_ ?_) ⟨h1,fun y hy=>?_,?_⟩
 ·rcases get (bs.idxOf b) (hsz.symm▸hj) with ⟨d,g1,g2⟩
  rw [g2];rw [f1] at g1;(refine aF g1 fun z1=>?_;clear g1;subst z1);exact beq_self_eq_true b
 ·intro k hk hlt
  rcases get k hk with ⟨d,g1,g2⟩
  rw [g2];exact f2 k d hlt g1
 ·have hy:y∈ws.toList:=by simpa using hy
  rw [e1] at hy
  rcases List.mem_map.1 hy with ⟨d,y_,rfl⟩
  exact PySem.SeqAt.EqAt.bool_bool d b
 ·exact bO H (.int _ _)
theorem cL0 {k:Nat} {sm:Sm} (h:smH k sm=true):(k=0 /\ sm=.append) \/ (k=2 /\ sm=.join) \/ (k=0 /\ sm=.count) \/ (k=0 /\ sm=.index) \/ (k=1 /\ sm=.pop):=by
 rcases k with _ | _ | _ | k <;> cases (sm) <;> first | (exact .inl ⟨rfl,rfl⟩) | (exact .inr (.inl ⟨rfl,rfl⟩)) | (exact .inr (.inr (.inl ⟨rfl,rfl⟩))) | (exact .inr (.inr (.inr (.inl ⟨rfl,rfl⟩)))) | (exact .inr (.inr (.inr (.inr ⟨rfl,rfl⟩)))) | (exact absurd h Bool.false_ne_true)
theorem Si.res0 {α β:Type} {P:Heap->Io->α->β->Prop} {t:Sem β} {R R':Res α} (x:Si W own A fs P t s io m R) (e:R'=R):Si W own A fs P t s io m R':=e▸x
theorem dC4 {q:Nat} {n:Sm} {vs:List V} {o:Option MObj} (hm:m[q]?=o):dD 0 (.ref q) n vs m=(match (generalizing:=false) o with | some (.list xs)=>bK1 q xs n vs m | _=>.bad):=by subst hm;rfl
theorem aY6 {o:V} {n:Sm} {vs:List V} {u:Value} {t:Sem Value} (kx:VR W s.heap io o u) (h:∀ (q:Nat) (a d:Addr) (xs:List V),o=.ref q->u=.ref a->io[q]?=some (a,d)->m[q]?=some (.list xs)->Si W [] A fs (VP W) t s io m (bK1 q xs n vs m)):Si W [] A fs (VP W) t s io m (dD 0 o n vs m):=by
 induction kx using VR.elim with
 | @ref q a d hi=>
  cases hm:m[q]? with
  | none=>rw [dC4 hm];exact .bad
  | some o=>
   rw [dC4 hm]
   cases o with
   | list xs=>exact h q a d xs rfl rfl hi hm
   | _=>exact .bad
 | _=>exact .bad
set_option tactic.hygienic true in
theorem dC3 (ok:WOk W) {k:Nat} {sm:Sm} (hH:smH k sm=true) (H:HR W s.heap io m) {x:V} {u:Value} {vs:List V} {us:List Value} (kx:VR W s.heap io x u) (hu:VRs W s.heap io vs us) :
  Si W [] A fs (VP W) (call (.builtin (smId k sm)) (u::us)) s io m (dD k x sm vs m):=by
 rcases cL0 hH with ⟨rfl,rfl⟩ | ⟨rfl,rfl⟩ | ⟨rfl,rfl⟩ | ⟨rfl,rfl⟩ | ⟨rfl,rfl⟩
 ·refine aY6 kx fun q a d xs ho hu' hi hm=>?_
  subst ho;subst hu'
  rcases H.obj _ _ _ hi hm with ⟨y_,ws,c,h1,h2,h3⟩
  induction hu using VRs.elim with
  | nil=>exact .bad
  | cons k1 k2=>
   induction k2 using VRs.elim with
   | cons y_ y_=>exact .bad
   | nil=>
    show Si W [] A fs (VP W) _ s io m (if xs.length < lid then _ else _)
    split
    ·rename_i hl
     refine fun y_=>wpAny_list_append_plain ⟨c,h1⟩ (fun h' ⟨c',hD⟩ hs=>?_) (by rw [h2.size];exact aR h3)
     exact bJ5 (tk:=s.toks) H hi hm hs hD (by rw [Array.toList_push];exact h2.snoc k1) (by simp;lia) fun y_=>.none
    ·exact .bad
 ·induction kx using VR.elim with
  | str z tz hz=>
   induction hu using VRs.elim with
   | nil=>exact .bad
   | cons k1 k2=>
    induction k2 using VRs.elim with
    | cons y_ y_=>exact .bad
    | nil=>
     induction k1 using VR.elim with
     | @ref q a d hi=>
      show Si W [] A fs (VP W) _ s io m (match m[q]? with | some (.list xs)=>(match eC xs with | some l=>if fW z l <= lid then .ok (.str (aK4 z l)) m else .bad | Option.none=>.bad) | _=>.bad)
      cases hm:m[q]? with
      | none=>exact .bad
      | some o=>
       cases o with
       | list xs=>
        cases hl:eC xs with
        | none=>show Si W [] A fs (VP W) _ s io m (match eC xs with | some l=>if fW z l <= lid then .ok (.str (aK4 z l)) m else .bad | Option.none=>.bad);rw [hl];exact .bad
        | some l=>
         show Si W [] A fs (VP W) _ s io m (match eC xs with | some l=>if fW z l <= lid then .ok (.str (aK4 z l)) m else .bad | Option.none=>.bad)
         rw [hl]
         show Si W [] A fs (VP W) _ s io m (if fW z l <= lid then .ok (.str (aK4 z l)) m else .bad)
         by_cases hlen:fW z l <= lid
         ·rw [if_pos hlen]
          rcases H.obj _ _ _ hi hm with ⟨y_,ws,c,h1,h2,h3⟩
          rcases cD1 (s:=s) hl h2 with ⟨ts,e1,e2,e3⟩
          have htl:Builtin.Str.tooLong ((ts.map (·.1)).toArray.foldl (·+·.length+z.length) 0)=false:=by
           rw [e2]
           have:sizeLine=16777216:=sizeLine_eq
           have q:(l.toArray.foldl (·+·.length+z.length) 0)=fW z l:=by simp [fW]
           rw [q]
           unfold Builtin.Str.tooLong
           have:lid=4194304:=rfl
           simp;lia
          refine fun y_=>call_meets PySem.F.slot_str_join (typeIs_str _ _ _) PySem.F.entry_str_join (PySem.F.args_str_join_2 _ _) (meets_str_join_list z tz a ts htl) ⟨⟨_,h1,rfl,c,?_⟩,post_join ts ⟨joinFit_length htl,fun t' k'=>?_⟩⟩
          ·show Data.seq ws c=_
           rw [<- e1,Array.toArray_toList]
          ·rw [e2,cH7]
           exact bO H (.str _ _ (cG6 hz e3))
         ·rw [if_neg hlen];exact .bad
       | _=>exact .bad
     | _=>exact .bad
  | _=>exact .bad
 ·refine aY6 kx fun q a d xs ho hu' hi hm=>?_
  subst ho;subst hu'
  rcases H.obj _ _ _ hi hm with ⟨y_,ws,c,h1,h2,h3⟩
  induction hu using VRs.elim with
  | nil=>exact .bad
  | cons k1 k2=>
   induction k2 using VRs.elim with
   | cons y_ y_=>exact .bad
   | nil=>
    induction k1 using VR.elim with
    | bool b=>
     cases hb:bR xs with
     | none=>show Si W [] A fs (VP W) _ s io m (match bR xs with | some bs=>.ok (.int (bs.count b)) m | Option.none=>.bad);rw [hb];exact .bad
     | some bs=>
      show Si W [] A fs (VP W) _ s io m (match bR xs with | some bs=>.ok (.int (bs.count b)) m | Option.none=>.bad)
      rw [hb];exact bX9 H h1 h2 hb
    | _=>exact .bad
 ·refine aY6 kx fun q a d xs ho hu' hi hm=>?_
  subst ho;subst hu'
  rcases H.obj _ _ _ hi hm with ⟨y_,ws,c,h1,h2,h3⟩
  induction hu using VRs.elim with
  | nil=>exact .bad
  | cons k1 k2=>
   induction k2 using VRs.elim with
   | cons y_ y_=>exact .bad
   | nil=>
    induction k1 using VR.elim with
    | bool b=>
     cases hb:bR xs with
     | none=>show Si W [] A fs (VP W) _ s io m (match bR xs with | some bs=>if bs.contains b then .ok (.int (bs.idxOf b)) m else .bad | Option.none=>.bad);rw [hb];exact .bad
     | some bs=>
      show Si W [] A fs (VP W) _ s io m (match bR xs with | some bs=>if bs.contains b then .ok (.int (bs.idxOf b)) m else .bad | Option.none=>.bad)
      rw [hb]
      show Si W [] A fs (VP W) _ s io m (if bs.contains b=true then .ok (.int (bs.idxOf b)) m else .bad)
      by_cases hc:bs.contains b=true
      ·rw [if_pos hc];exact bV9 H h1 h2 h3 hb hc
      ·rw [if_neg hc];exact .bad
    | _=>exact .bad
 ·induction kx using VR.elim with
  | @ref q a d hi=>
   cases hm:m[q]? with
   | none=>exact Si.res0 .bad (by show (match m[q]? with | some (.dict kvs e)=>bL1 q kvs e .pop vs m | _=>.bad)=_;rw [hm])
   | some o=>
    cases o with
    | dict kvs e=>
     refine Si.res0 (R:=bL1 q kvs e .pop vs m) ?_ (by show (match m[q]? with | some (.dict kvs e)=>bL1 q kvs e .pop vs m | _=>.bad)=_;rw [hm])
     induction hu using VRs.elim with
     | nil=>exact .bad
     | cons k1 k2=>
      induction k2 using VRs.elim with
      | cons y_ y_=>exact .bad
      | nil=>
       induction k1 using VR.elim with
       | int j t=>
        by_cases hs:aP (.int j) kvs=true
        ·cases hl:bX (.int j) kvs with
         | none=>exact Si.res0 .bad (by show (if aP (.int j) kvs=true then (match bX (.int j) kvs with | some v=>Res.ok v (m.set q (.dict (fM (.int j) kvs) (e+1))) | Option.none=>.bad) else .bad)=_;rw [if_pos hs,hl])
         | some v=>exact Si.res0 (cE5 H hi hm hs hl) (by show (if aP (.int j) kvs=true then (match bX (.int j) kvs with | some v=>Res.ok v (m.set q (.dict (fM (.int j) kvs) (e+1))) | Option.none=>.bad) else .bad)=_;rw [if_pos hs,hl])
        ·exact Si.res0 .bad (if_neg hs)
       | _=>exact .bad
    | _=>exact Si.res0 .bad (by show (match m[q]? with | some (.dict kvs e)=>bL1 q kvs e .pop vs m | _=>.bad)=_;rw [hm])
  | _=>exact .bad
end
end Mini.Internal
namespace Mini.Internal
open PySem PySem.W PyProof.Rows
noncomputable def cV4 (e:Expr):Bool:=e.ctorIdx == 23
noncomputable def fI:Expr->Bool
 | .Call f a b _=>!(cV4 f&&a.isEmpty&&b.isEmpty)
 | _=>true
section
variable {W:Wd} {K:Frag} {h h' h₀:Heap} {fs:List Env} {env:Env} {vis:List (Option Str)} {s s' s₀:Shared} {io io' io₀:Io} {m m' m₀:MH} {r r':Lo} {fr fr' own own':List Addr} {A:Around} {n:Nat} {pos p apos:Pos}
set_option tactic.hygienic true in
theorem bC6 {o:Expr} {name:Str} (h:fI o=true):attributeBase o name env (eval o env)=eval o env:=by
 cases (o) <;> first | rfl | skip
 rename_i f es kws pos
 cases (f) <;> first | rfl | skip
 cases (es) <;> first | rfl | skip
 cases (kws) <;> first | rfl | (exact aE7 h)
theorem aT1 {es:List Expr} (h:bE es=true):(backTo pos (starEach es env)).all (fun x=>!x.1)=true:=by
 induction es with
 | nil=>rfl
 | cons e rest ih=>rw [fG h];exact ih (aA4 h)
theorem cR2 (k:Nat) (sm:Sm) (h:smH k sm=true):PlainAttrs (bR0 k) /\ Slot (bR0 k) (Str.ofString (bR1 sm)) (smId k sm) /\ typeOf (.builtin (smId k sm))=Pure.pure (.type "method_descriptor"):=by
 rcases cL0 h with ⟨rfl,rfl⟩ | ⟨rfl,rfl⟩ | ⟨rfl,rfl⟩ | ⟨rfl,rfl⟩ | ⟨rfl,rfl⟩
 ·exact ⟨PySem.F.plainAttrs_list,slot_list_append,type_list_append⟩
 ·exact ⟨PySem.F.plainAttrs_str,PySem.F.slot_str_join,PySem.F.type_str_join⟩
 ·exact ⟨PySem.F.plainAttrs_list,PySem.F.slot_list_count,PySem.F.type_list_count⟩
 ·exact ⟨PySem.F.plainAttrs_list,PySem.F.slot_list_index,PySem.F.type_list_index⟩
 ·exact ⟨PySem.F.plainAttrs_dict,PySem.F.slot_dict_pop,PySem.F.type_dict_pop⟩
theorem Si.res {α β:Type} {P:Heap->Io->α->β->Prop} {t:Sem β} {R R':Res α} (x:Si W own A fs P t s io m R) (e:R'=R):Si W own A fs P t s io m R':=e▸x
set_option tactic.hygienic true in
theorem cX1 (ok:WOk W) {o:Expr} {es:List Expr} {sm:Sm} {co:Lo->Mn V} {cl:Lo->Mn (List V)} (hb:fI o=true) (hs:bE es=true) (hfew:es.length < 29) (hline:(apos.endLine == pos.line)=true) (ho:SiE W A fs env vis (eval o env) co) (hl:SiL W A fs env vis (spliced (backTo pos (starEach es env))) cl) :
  SiE W A fs env vis (eval (.Call (.Attribute o (Str.ofString (bR1 sm)) apos) es [] pos) env) (fun r=>bnd (co r) fun x=>fun m=>match smK x m with | some k=>if smH k sm then bnd (cl r) (fun vs=>dD k x sm vs) m else .bad | none=>.bad):=by
 intro s io m r Z hne
 dsimp only at hne ⊢
 refine wpAny_Call_method_late (bC6 hb) ?_ hline rfl ?_
 ·rw [aT1 hs];rw [arm_keywordEach_nil];simp [backToKw];lia
 refine wpAny_mono (ho s io m r Z (Res.bind_ne hne)) (fun ov s₁ q=>?_) fun y_ y_ q=>q.bind .refl (.refl _)
 refine hide fun G_ g_=>?_;rcases q with ⟨x,m₁,io₁,e1,st,H₁,kx,sm₁⟩;refine g_ ?_;clear g_ G_
 have ee:∀ f:V->Mn V,bnd (co r) f m=f x m₁:=fun f=>by show (co r m).bind _=_;rw [e1];rfl
 rw [ee] at hne ⊢
 cases hk:smK x m₁ with
 | none=>rw [hk] at hne;exact absurd rfl hne
 | some k=>
  rw [hk] at hne
  dsimp only at hne ⊢
  by_cases hH:smH k sm=true
  ·rw [if_pos hH] at hne ⊢
   have Z₁:=Z.step H₁ st
   have ty:s₁.TypeIs ov (bR0 k) /\ (∀ a,ov=.ref a->∃ ob,s₁.heap.get? a=some ob /\ ob.dict=none):=by
    induction kx using VR.elim with
    | @ref q a d hi=>
     simp only [smK] at hk
     split at hk
     ·rename_i xs hm
      (refine aF hk fun z1=>?_;clear hk;subst z1)
      refine hide fun G_ g_=>?_;rcases H₁.obj _ _ _ hi hm with ⟨y_,ws,c,h1,y_⟩;refine g_ ?_;clear g_ G_
      exact ⟨⟨_,h1,rfl⟩,fun b e=>by cases (e);exact ⟨_,h1,rfl⟩⟩
     ·rename_i kvs e hm
      (refine aF hk fun z1=>?_;clear hk;subst z1)
      refine hide fun G_ g_=>?_;rcases H₁.obj _ _ _ hi hm with ⟨y_,o',es',c,h1,h2,y_⟩;refine g_ ?_;clear g_ G_
      exact ⟨⟨_,h1,h2.1⟩,fun b e=>by cases (e);exact ⟨_,h1,h2.2.1⟩⟩
     ·injection hk
    | str x t hx=>(refine aF hk fun z1=>?_;clear hk;subst z1);exact ⟨typeIs_str _ _ _,fun y_ e=>nomatch e⟩
    | none=>injection hk
    | bool b=>injection hk
    | int i t=>injection hk
    | fn k=>injection hk
    | tup=>injection hk
    | exc=>injection hk
    | scr=>injection hk
   have call:wpAny (model W.prog W.w) A (callWith pos (.builtin (smId k sm)) [ov] (backTo pos (starEach es env)) []) (NP W [] (frs fs) s io m (VP W) (bnd (cl r) (fun vs=>dD k x sm vs) m₁)) (XP W [] fs s io m (bnd (cl r) (fun vs=>dD k x sm vs) m₁)) s₁:=by
    refine Calls.callWith_builtin (eE hs) (eR hs ?_)
    refine wpAny_mono (hl s₁ io₁ m₁ r Z₁ (Res.bind_ne hne)) (fun us s₂ q=>?_) fun y_ y_ q=>(q.mono st sm₁).bind .refl (.refl _)
    refine hide fun G_ g_=>?_;rcases q with ⟨vs,m₂,io₂,e2,st2,H2,kv,sm2⟩;refine g_ ?_;clear g_ G_
    have ee2:bnd (cl r) (fun vs=>dD k x sm vs) m₁=dD k x sm vs m₂:=by show (cl r m₁).bind _=_;rw [e2];rfl
    rw [ee2] at hne ⊢
    exact wpAny_mono (dC3 ok hH H2 (VR.step st2 kx) kv hne) (fun y_ y_ z=>z.mono (st.trans st2) (sm₁.trans sm2)) fun y_ y_ z=>z.mono (st.trans st2) (sm₁.trans sm2)
   refine hide fun G_ g_=>?_;rcases cR2 k sm hH with ⟨p1,p2,p3⟩;refine g_ ?_;clear g_ G_
   exact ⟨_,_,p1,p2,p3,ty.1,ty.2,call⟩
  ·rw [if_neg hH] at hne;exact absurd rfl hne
theorem cS4 (R:AR A fs n) (H:HR W s.heap io m) {x y v:V} {u iu vu:Value} (kx:VR W s.heap io x u) (ky:VR W s.heap io y iu) (kv:VR W s.heap io v vu):Si W own A fs (fun y_ y_ (_ _:Unit)=>True) (setItem u iu vu) s io m (dN x y v m):=by
 have bad:∀ {R:Res Unit},R=.bad->Si W own A fs (fun y_ y_ (_ _:Unit)=>True) (setItem u iu vu) s io m R:=fun e=>e▸.bad
 induction kx using VR.elim with
 | @ref q a d hi=>
  cases hm:m[q]? with
  | none=>exact bad (by unfold dN;dsimp only;rw [hm])
  | some o=>
   cases o with
   | inst c fls=>exact bad (by unfold dN;dsimp only;rw [hm])
   | dict kvs e=>
    have ee:dN (.ref q) y v m=match dQ y with | some k=>if aP k kvs&&kvs.length < lid then .ok () (m.set q (.dict (put k v kvs) (e+1))) else .bad | Option.none=>.bad:=by unfold dN;dsimp only;rw [hm] <;> rfl
    refine Si.res ?_ ee
    cases hk:dQ y with
    | none=>exact .bad
    | some k=>
     dsimp only
     by_cases hc:(aP k kvs&&decide (kvs.length < lid))=true
     ·refine Si.res ?_ (if_pos hc)
      rcases Bool.and_eq_true_iff.mp hc with ⟨h1,h2⟩
      exact cD9 H R hi hm ky kv hk h1 (of_decide_eq_true h2)
     ·exact Si.res .bad (if_neg hc)
   | list xs=>exact bad (by unfold dN;dsimp only;rw [hm])
 | _=>exact bad rfl
theorem a_idx {o i:Expr} {co ci:Lo->Mn V} (R:AR A (env::fs) n) (ho:SiE W A (env::fs) env vis (eval o env) co) (hi:SiE W A (env::fs) env vis (eval i env) ci):SiA W A fs env vis (.Subscript o i pos) (fun v r=>bnd (co r) fun x=>bnd (ci r) fun y=>bnd (dN x y v) fun y_=>ret r):=by
 intro s io m r v u Z k
 rw [arm_assign_Subscript]
 refine Si.bindE (Si.holding (ho s io m r Z.sit)) fun ov s₁ io₁ m₁ x y_ st₁ H₁ kx sm₁=>?_
 have Z₁:=Z.step H₁ st₁
 refine Si.bindE (Si.holding (hi s₁ io₁ m₁ r Z₁.sit)) fun iv s₂ io₂ m₂ y y_ st₂ H₂ ky sm₂=>.standAt ?_
 have Z₂:=Z₁.step H₂ st₂
 refine Si.bindE (Si.holding (cS4 R H₂ (VR.step st₂ kx) ky ((VR.step st₁ k).step st₂))) fun y_ s₃ io₃ m₃ y_ y_ st₃ H₃ y_ sm₃=>?_
 exact fun y_=>wpAny_release ⟨r,m₃,io₃,rfl,.refl,H₃,Z₂.F.step0 Z₂.H st₃,.refl _⟩
theorem cX4:SiE W A fs env vis (eval (.Dict [] [] pos) env) (fun y_=>alloc (.dict [] 0)):=by
 intro s io m r Z
 exact fun y_=>wpAny_Dict_empty (cT4 (tk:=s.toks) Z.H)
end
end Mini.Internal
namespace Mini.Internal
open PySem PySem.W PyProof.Rows
section
variable {W:Wd} {K:Frag} {fs:List Env} {env:Env} {vis:List (Option Str)} {s:Shared} {io:Io} {m:MH} {r:Lo} {A:Around} {pos p:Pos}
end
end Mini.Internal
namespace Mini.Internal
open PySem PySem.W PyProof.Rows
section
variable {W:Wd} {K:Frag} {h h' h₀:Heap} {fs:List Env} {env:Env} {vis:List (Option Str)} {s s' s₀:Shared} {io io' io₀:Io} {m m' m₀:MH} {r r':Lo} {fr fr' own own':List Addr} {A:Around} {n:Nat} {pos p apos:Pos}
theorem bW2 {v:V} {u:Value} (k:VR W h io v u):handedOut u=Pure.pure u:=by induction k using VR.elim <;> rfl
theorem bA8 {a d:Addr} {c:Nat} {mA:Str->Option Value} (hne:a≠d) (h1:h.get? a=some (cV9 (W.ca c) d)) (h2:h.Ns1 d mA):h.Inst a (W.ca c) mA:=
 ⟨_,h1,rfl,(fun y_ q=>by injection q),.inr ⟨d,rfl,fun q=>hne q.symm,h2⟩⟩
theorem cK0 {v:V} {u:Value} {k:Nat} {x:Str} (hx:W.S.attrs[k]?=some x) (hf:∀ (c:Nat) (D:ClsD),W.S.cls[c]?=some D->D.meths.lookup k=none) (H:HR W s.heap io m) (kv:VR W s.heap io v u):Si W own A fs (VP W) (getAttr u x true) s io m (aD2 v k m):=by
 intro hne
 have bad:aD2 v k m=.bad->False:=hne
 induction kv using VR.elim with
 | @ref q a d hi=>
  cases hm:m[q]? with
  | none=>exact (bad (by unfold aD2;dsimp only;rw [hm])).elim
  | some o=>
   cases o with
   | list xs=>exact (bad (by unfold aD2;dsimp only;rw [hm])).elim
   | dict kvs e=>exact (bad (by unfold aD2;dsimp only;rw [hm])).elim
   | inst c fls=>
    have ea:aD2 (.ref q) k m=ofO (aK5 k fls) m:=by unfold aD2;dsimp only;rw [hm]
    rw [ea] at hne ⊢
    cases hg:aK5 k fls with
    | none=>rw [hg] at hne;exact absurd rfl hne
    | some w=>
     refine hide fun G_ g_=>?_;rcases H.obj _ _ _ hi hm with ⟨e1,mA,h1,h2,h3,D,N,mN,C⟩;refine g_ ?_;clear g_ G_
     rcases h3.2 k w hg with ⟨x',u',ex',hu,kw⟩
     rw [hx] at ex'
     (refine aF ex' fun z1=>?_;clear ex';subst z1)
     rcases C.obj with ⟨nm,qn,bs,sn,sub,col,dd,k0,k1,k2,k3,k5,hC⟩
     have hna:mN x=none:=by rw [C.has k x hx,hf c D C.dat];rfl
     exact load_attr (H.keep _ _ hC) (C.ns.keeps H.keep) C.ga hna (C.low k x hx) (bA8 e1 h1 h2) hu (bW2 kw) ⟨w,m,io,rfl,.refl,H,kw,.refl _⟩
 | none=>exact (bad rfl).elim
 | bool b=>exact (bad rfl).elim
 | int i t=>exact (bad rfl).elim
 | str y t hy=>exact (bad rfl).elim
 | fn k=>exact (bad rfl).elim
 | tup=>exact (bad rfl).elim
 | exc=>exact (bad rfl).elim
 | scr=>exact (bad rfl).elim
theorem dH8 {o:Expr} {x:Str} {k:Nat} {ca:Lo->Mn V} (hb:fI o=true) (hx:W.S.attrs[k]?=some x) (hf:∀ (c:Nat) (D:ClsD),W.S.cls[c]?=some D->D.meths.lookup k=none) (ho:SiE W A fs env vis (eval o env) ca) :
  SiE W A fs env vis (eval (.Attribute o x apos) env) (fun r=>bnd (ca r) fun v=>aD2 v k):=by
 intro s io m r Z
 refine Si.res (R:=(ca r m).bind fun v=>aD2 v k) ?_ rfl
 intro hne
 refine Attribute_any_ ?_ (by rw [arm_eval_Attribute,bC6 hb])
 refine wpAny_mono (ho s io m r Z (Res.bind_ne hne)) (fun u s₁ q=>?_) fun y_ y_ q=>q.bind .refl (.refl _)
 rcases q with ⟨v,m₁,io₁,e1,st,H₁,kv,sm⟩
 have ee:(ca r m).bind (fun v=>aD2 v k)=aD2 v k m₁:=by rw [e1];rfl
 rw [ee] at hne ⊢
 exact wpAny_mono (cK0 (own:=[]) (fs:=fs) hx hf H₁ kv hne) (fun y_ y_ z=>z.mono st sm) fun y_ y_ z=>z.mono st sm
theorem aF8 {k j:Nat} {v:V}:∀ {fls:List (Nat×V)},aK5 j (fB k v fls)=if j=k then some v else aK5 j fls
 | []=>by
  show (if k=j then some v else none)=_
  by_cases q:j=k
  ·rw [if_pos q,if_pos q.symm]
  ·rw [if_neg q,if_neg (fun z=>q z.symm)];rfl
 | (i,w)::fls=>by
  show aK5 j (if i=k then (i,v)::fls else (i,w)::fB k v fls)=_
  by_cases z:i=k
  ·rw [if_pos z]
   subst z
   show (if i=j then some v else aK5 j fls)=if j=i then some v else if i=j then some w else aK5 j fls
   by_cases q:j=i
   ·rw [if_pos q,if_pos q.symm]
   ·rw [if_neg q,if_neg (fun z=>q z.symm),if_neg (fun z=>q z.symm)]
  ·rw [if_neg z]
   show (if i=j then some w else aK5 j (fB k v fls))=if j=k then some v else if i=j then some w else aK5 j fls
   rw [aF8]
   by_cases q:i=j
   ·rw [if_pos q,if_neg (fun e=>z (q.trans e)),if_pos q]
   ·rw [if_neg q,if_neg q]
theorem FEs.put {fls:List (Nat×V)} {mA:Str->Option Value} {k:Nat} {x:Str} {v:V} {u:Value} (e:FEs W h io fls mA) (hx:W.S.attrs[k]?=some x) (hu:∀ (i j:Nat) (x:Str),W.S.attrs[i]?=some x->W.S.attrs[j]?=some x->i=j) (kv:VR W h io v u) :
  FEs W h io (fB k v fls) (fun y=>if y=x then some u else mA y):=by
 constructor
 ·intro y w q
  by_cases z:y=x
  ·subst z
   have q':some u=some w:=by rw [<- q];exact (if_pos rfl).symm
   (refine aF q' fun z1=>?_;clear q';subst z1)
   exact ⟨k,v,hx,by rw [aF8,if_pos rfl],kv⟩
  ·have q':mA y=some w:=by rw [<- q];exact (if_neg z).symm
   rcases e.1 y w q' with ⟨i,w',a,b,c⟩
   refine ⟨i,w',a,?_,c⟩
   rw [aF8,if_neg (fun ik=>?_)]
   ·exact b
   ·subst ik;rw [hx] at a;(refine aF a fun z1=>?_;clear a;subst z1);exact z rfl
 ·intro i w q
  rw [aF8] at q
  by_cases z:i=k
  ·rw [if_pos z] at q
   (refine aF q fun z1=>?_;clear q;subst z1)
   subst z
   exact ⟨x,u,hx,if_pos rfl,kv⟩
  ·rw [if_neg z] at q
   rcases e.2 i w q with ⟨y,w',a,b,c⟩
   refine ⟨y,w',a,?_,c⟩
   show (if y=x then some u else mA y)=some w'
   rw [if_neg (fun yx=>?_)]
   ·exact b
   ·subst yx;exact z (hu i k y a hx)
theorem bM5 {fls:List (Nat×V)} {mA:Str->Option Value} (e:FEs W h io fls mA):Within mA W.S.attrs:=by
 intro y hy
 cases q:mA y with
 | none=>exact absurd q hy
 | some u=>
  rcases e.1 y u q with ⟨i,v,a,y_⟩
  exact List.mem_of_getElem? a
theorem aY7 {v y:V} {u w:Value} {k:Nat} {x:Str} (hx:W.S.attrs[k]?=some x) (hf:∀ (c:Nat) (D:ClsD),W.S.cls[c]?=some D->D.meths.lookup k=none) (H:HR W s.heap io m) (kv:VR W s.heap io v u) (ky:VR W s.heap io y w):Si W own A fs (fun y_ y_ (_ _:Unit)=>True) (setAttr u x w) s io m (dT v k y m):=by
 intro hne
 have bad:dT v k y m=.bad->False:=hne
 induction kv using VR.elim with
 | @ref q a d hi=>
  cases hm:m[q]? with
  | none=>exact (bad (by unfold dT;dsimp only;rw [hm])).elim
  | some o=>
   cases o with
   | list xs=>exact (bad (by unfold dT;dsimp only;rw [hm])).elim
   | dict kvs e=>exact (bad (by unfold dT;dsimp only;rw [hm])).elim
   | inst c fls=>
    have ea:dT (.ref q) k y m=.ok () (m.set q (.inst c (fB k y fls))):=by unfold dT;dsimp only;rw [hm]
    rw [ea]
    refine hide fun G_ g_=>?_;rcases H.obj _ _ _ hi hm with ⟨e1,mA,h1,h2,h3,D,N,mN,C⟩;refine g_ ?_;clear g_ G_
    rcases C.obj with ⟨nm,qn,bs,sn,sub,col,dd,k0,k1,k2,k3,k5,hC⟩
    have hna:mN x=none:=by rw [C.has k x hx,hf c D C.dat];rfl
    have hac:a≠W.ca c:=fun q=>by
     have:=H.fresh a ⟨_,List.mem_of_getElem? hi,.inl rfl⟩
     rw [q,hC] at this;injection this
    refine store_attr F.store_object (H.keep _ _ hC) (C.ns.keeps H.keep) C.sa hna (C.low k x hx) hac (bA8 e1 h1 h2) (fun h' tk' I' hk hsame=>?_) (bM5 h3) (Nat.le_trans C.few (by decide))
    rcases hsame _ h1 with ⟨o₁,g1,c1,c2,c3,c4⟩
    have eo:o₁=cV9 (W.ca c) d:=by
     rcases o₁ with ⟨oc,od,odt,osl⟩
     have c4':=c4 d rfl
     dsimp only at c1 c2 c3 c4'
     rw [c1,c2,c3,c4']
    rw [eo] at g1
    rcases I' with ⟨o₂,g2,y_,y_,hd⟩
    rw [g1] at g2
    (refine aF g2 fun z1=>?_;clear g2;subst z1)
    rcases hd with ⟨q,_⟩ | ⟨d',ed,_,hns⟩
    ·injection q
    (refine aF ed fun z1=>?_;clear ed;subst z1)
    have hk':∀ b o,b≠a->b≠d->s.heap.get? b=some o->h'.get? b=some o:=fun b o n1 n2 e=>hk b o n1 (fun o₀ dx e0 e2=>by rw [h1] at e0;(refine aF e0 fun z1=>?_;clear e0;subst z1);(refine aF e2 fun z1=>?_;clear e2;subst z1);exact n2) e
    have hd':∃ o',h'.get? d=some o':=let ⟨o',_,_,e,_⟩:=hns;⟨o',e⟩
    have st:Step own (frs fs) s.heap io m h' io (m.set q (.inst c (fB k y fls))):=aF1 H hi hm hk' ⟨_,g1⟩ hd' (fun y_ y_ q=>by injection q)
    exact ⟨(),_,io,rfl,st,H.set hi hm hk' (fun y_ y_ q=>by injection q) ⟨_,g1⟩ hd' ⟨e1,_,g1,hns,(h3.step st).put hx C.uniq (ky.step st),D,N,mN,C⟩,trivial,rfl,rfl⟩
 | none=>exact (bad rfl).elim
 | bool b=>exact (bad rfl).elim
 | int i t=>exact (bad rfl).elim
 | str y t hy=>exact (bad rfl).elim
 | fn k=>exact (bad rfl).elim
 | tup=>exact (bad rfl).elim
 | exc=>exact (bad rfl).elim
 | scr=>exact (bad rfl).elim
theorem dJ5 {o:Expr} {x:Str} {k:Nat} {co:Lo->Mn V} (hx:W.S.attrs[k]?=some x) (hf:∀ (c:Nat) (D:ClsD),W.S.cls[c]?=some D->D.meths.lookup k=none) (ho:SiE W A (env::fs) env vis (eval o env) co):SiA W A fs env vis (.Attribute o x pos) (fun v r=>bnd (co r) fun y=>bnd (dT y k v) fun y_=>ret r):=by
 intro s io m r v u Z kv
 rw [arm_assign_Attribute]
 refine Si.bindE (Si.holding (ho s io m r Z.sit)) fun ov s₁ io₁ m₁ y y_ st₁ H₁ ky sm₁=>.standAt ?_
 have Z₁:=Z.step H₁ st₁
 refine Si.bindE (Si.holding (aY7 hx hf H₁ ky (VR.step st₁ kv))) fun y_ s₃ io₃ m₃ y_ y_ st₃ H₃ y_ sm₃=>?_
 exact fun y_=>wpAny_release ⟨r,m₃,io₃,rfl,.refl,H₃,Z₁.F.step0 Z₁.H st₃,.refl _⟩
theorem dH4 {o:Expr} {x:Str} {k:Nat} {es:List Expr} {co:Lo->Mn V} {cl:Lo->Mn (List V)} {F:Nat->List V->Mn V} (gl:Gl W K) (hb:fI o=true) (hs:bE es=true) (hfew:es.length < 29) (hline:(apos.endLine == pos.line)=true) (hx:W.S.attrs[k]?=some x)
  (hobj:∀ j,j < W.S.fns.length->∃ ob fd,K.lookup (W.fa j)=some ob /\ ob.data=.func fd /\ ob.cls=.type "function") (hF:∀ j,j < W.S.fns.length->SiF W A fs (.ref (W.fa j)) (F j))
  (ho:SiE W A fs env vis (eval o env) co) (hl:SiL W A fs env vis (spliced (backTo pos (starEach es env))) cl) :
  SiE W A fs env vis (eval (.Call (.Attribute o x apos) es [] pos) env) (fun r=>bnd (co r) fun v=>bnd (fU W.S k v) fun j=>bnd (cl r) fun vs=>F j (v::vs)):=by
 intro s io m r Z hne
 dsimp only at hne ⊢
 rw [arm_eval_Call,bC6 hb]
 refine wpAny_bind (wpAny_mono (ho s io m r Z (Res.bind_ne hne)) (fun u s₁ q=>?_) fun y_ y_ q=>q.bind .refl (.refl _))
 rcases q with ⟨v,m₁,io₁,e1,st,H₁,kv,sm⟩
 have ee:∀ f:V->Mn V,bnd (co r) f m=f v m₁:=fun f=>by show (co r m).bind _=_;rw [e1];rfl
 rw [ee] at hne ⊢
 refine wpAny_bind (wpAny_standAt ?_)
 have hform:methodCallForm (es.length+([]:List Keyword).length) (backTo pos (starEach es env)) (backToKw pos (keywordEach [] env))=true:=by
  unfold methodCallForm
  rw [aT1 hs];rw [arm_keywordEach_nil];simp [backToKw];lia
 have hpos:methodCallPos true o env apos pos=Pure.pure pos:=by unfold methodCallPos;rw [hline];rfl
 unfold methodCall
 rw [hform]
 have bad:fU W.S k v m₁=.bad->False:=fun q=>hne (by show (fU W.S k v m₁).bind _=_;rw [q];rfl)
 induction kv using VR.elim with
 | @ref q0 a d hi=>
  cases hm:m₁[q0]? with
  | none=>exact (bad (by unfold fU;dsimp only;rw [hm])).elim
  | some ob=>
   cases ob with
   | list xs=>exact (bad (by unfold fU;dsimp only;rw [hm])).elim
   | dict kvs e=>exact (bad (by unfold fU;dsimp only;rw [hm])).elim
   | inst c fls=>
    refine hide fun G_ g_=>?_;rcases H₁.obj _ _ _ hi hm with ⟨g1,mA,h1,h2,h3,D,N,mN,C⟩;refine g_ ?_;clear g_ G_
    cases hg:aK5 k fls with
    | some w=>exact (bad (by unfold fU;dsimp only;rw [hm];dsimp only;rw [C.dat];dsimp only;rw [hg])).elim
    | none=>
     cases hq:D.meths.lookup k with
     | none=>exact (bad (by unfold fU;dsimp only;rw [hm];dsimp only;rw [C.dat];dsimp only;rw [hg];dsimp only;rw [hq];rfl)).elim
     | some j=>
      have em:fU W.S k (.ref q0) m₁=.ok j m₁:=by unfold fU;dsimp only;rw [hm];dsimp only;rw [C.dat];dsimp only;rw [hg];dsimp only;rw [hq];rfl
      have e2:bnd (fU W.S k (.ref q0)) (fun j=>bnd (cl r) fun vs=>F j (.ref q0::vs)) m₁=bnd (cl r) (fun vs=>F j (.ref q0::vs)) m₁:=by show (fU W.S k (.ref q0) m₁).bind _=_;rw [em];rfl
      rw [e2] at hne ⊢
      rcases C.obj with ⟨nm,qn,bs,sn,sub,col,dd,k0,k1,k2,k3,k5,hC⟩
      rcases hobj j (C.mlt k j hq) with ⟨fo,fd,f1,f2,f3⟩
      have hmn:mN x=some (.ref (W.fa j)):=by rw [C.has k x hx,hq];rfl
      have hma:mA x=none:=by
       cases z:mA x with
       | none=>rfl
       | some w=>
        rcases h3.1 x w z with ⟨i',v',a1,a2,y_⟩
        rw [C.uniq i' k x a1 hx,hg] at a2;injection a2
      have Z₁:=Z.step H₁ st
      refine wpAny_bind (wpAny_holding ?_)
      unfold calleeOf
      rw [if_pos rfl]
      refine method_of (H₁.keep _ _ hC) (C.ns.keeps H₁.keep) C.ga C.gh hmn (H₁.get gl f1) f3 (C.low k x hx) (bA8 g1 h1 h2) hma ?_
      refine wpAny_bind (wpAny_of_eq hpos ?_)
      refine Calls.callWith_function (o:=fo) (fd:=fd) (eR hs ?_)
      refine wpAny_mono (hl s₁ io₁ m₁ r Z₁ (Res.bind_ne hne)) (fun us s₂ q=>?_) fun y_ y_ q=>(q.mono st sm).bind .refl (.refl _)
      refine hide fun G_ g_=>?_;rcases q with ⟨vs,m₂,io₂,e3,st2,H2,kvs,sm2⟩;refine g_ ?_;clear g_ G_
      have ee2:bnd (cl r) (fun vs=>F j (.ref q0::vs)) m₁=F j (.ref q0::vs) m₂:=by show (cl r m₁).bind _=_;rw [e3];rfl
      rw [ee2] at hne ⊢
      refine ⟨⟨H2.get gl f1,f2⟩,?_⟩
      exact wpAny_mono (hF j (C.mlt k j hq) _ _ _ _ _ H2 (Z₁.G.step0 st2) (.cons (.ref (st2.io_get hi)) kvs) hne) (fun y_ y_ z=>z.mono (st.trans st2) (sm.trans sm2)) fun y_ y_ z=>z.mono (st.trans st2) (sm.trans sm2)
 | none=>exact (bad rfl).elim
 | bool b=>exact (bad rfl).elim
 | int i t=>exact (bad rfl).elim
 | str y t hy=>exact (bad rfl).elim
 | fn k=>exact (bad rfl).elim
 | tup=>exact (bad rfl).elim
 | exc=>exact (bad rfl).elim
 | scr=>exact (bad rfl).elim
theorem bO7 {C:Addr} {rest:List Value}:A.under (.builtin "type.__call__" ⟨.ref C::rest,[]⟩)=born A:=by
 have h1:(Code.builtin "type.__call__" ⟨.ref C::rest,[]⟩).weight=1:=by kernel_rfl
 have h2:(Code.builtin "type.__call__" ⟨.ref C::rest,[]⟩).cUnits=1:=by kernel_rfl
 have h3:(Code.builtin "type.__call__" ⟨.ref C::rest,[]⟩).envs=[]:=by kernel_rfl
 have h4:(Code.builtin "type.__call__" ⟨.ref C::rest,[]⟩).guards=[]:=by kernel_rfl
 unfold Around.under born
 rw [h1,h2,h3,h4];rfl
theorem e_new {x:Str} {c k0:Nat} {D:ClsD} {N:Addr} {mN:Str->Option Value} {es:List Expr} {cl:Lo->Mn (List V)} {F:Nat->List V->Mn V} (gl:Gl W K) (e:nsIn K mainGlobals x=some (some (.ref (W.ca c)))) (hx:env.kindOf x=some .globalImplicit) (hd:(x == ("__debug__":Str))=false) (hs:bE es=true)
  (C:ClsOk W c D N mN) (hD:D.init=some k0) (hkeep:keepIn K (.ref (W.ca c))=true) (hmk:makesIn K (W.ca c)=true) (hin:findIn K (.ref (W.ca c)) "__init__"=some (some (.ref (W.fa k0)))) (hty:typeIn K (.ref (W.fa k0))=some (.type "function")) (hF:SiK W (born A) fs (.ref (W.fa k0)) (F k0))
  (hl:SiL W A fs env vis (spliced (backTo pos (starEach es env))) cl) :
  SiE W A fs env vis (eval (.Call (.Name x p) es [] pos) env) (fun r=>bnd (cl r) fun vs=>cT9 W.S F c vs):=by
 intro s io m r Z hne
 dsimp only at hne ⊢
 refine wpAny_Call_NameR (aM7 gl Z e hx hd (callWith_of (P:=fun h=>K.In h) (by rw [eE hs];rfl) (fun h X=>keeps_K hkeep h X) (eR hs ?_)))
 refine wpAny_mono (hl s io m r Z (Res.bind_ne hne)) (fun us s₁ q=>?_) fun y_ y_ q=>q.bind .refl (.refl _)
 rcases q with ⟨vs,m₁,io₁,e1,st,H₁,kvs,sm⟩
 have X:K.In s₁.heap:=fun a o h=>H₁.get gl h
 have ee:bnd (cl r) (fun vs=>cT9 W.S F c vs) m=(F k0 (.ref m₁.length::vs) (m₁++[.inst c []])).bind (dE5 (.ref m₁.length)):=by
  show (cl r m).bind _=_
  rw [e1]
  show cT9 W.S F c vs m₁=_
  unfold cT9
  rw [C.dat];dsimp only;rw [C.exc,hD];rfl
 rw [ee] at hne ⊢
 refine ⟨X,?_⟩
 rcases s₁ with ⟨hh,gg,dr,tk,os⟩
 dsimp only at st H₁ kvs X
 refine wpAny_call (make_core (makes_of X hmk) (looks_findIn X hin) (fun self=>bind_fn X self hty) (.inl rfl) ?_)
 rw [bO7]
 have keeps:∀ b o,hh.get? b=some o->((hh.push emptyDict).push (instObj (W.ca c) hh.objs.size)).get? b=some o:=fun b o h=>Heap.get?_push_of_some _ (Heap.get?_push_of_some _ h)
 have nx:hh.get? (hh.objs.size+1)=none:=Heap.get?_none_of_le (Nat.le_succ _)
 have nd:hh.get? hh.objs.size=none:=aZ hh
 have gx:((hh.push emptyDict).push (instObj (W.ca c) hh.objs.size)).get? (hh.objs.size+1)=some (instObj (W.ca c) hh.objs.size):=by heap_get
 have gd:((hh.push emptyDict).push (instObj (W.ca c) hh.objs.size)).get? hh.objs.size=some emptyDict:=Heap.get?_push_of_some _ (Heap.get?_push_at rfl rfl)
 have st2:Step [] (frs fs) hh io₁ m₁ ((hh.push emptyDict).push (instObj (W.ca c) hh.objs.size)) (io₁++[(hh.objs.size+1,hh.objs.size)]) (m₁++[.inst c []]):=fO H₁ keeps nx nd
 have H2:HR W ((hh.push emptyDict).push (instObj (W.ca c) hh.objs.size)) (io₁++[(hh.objs.size+1,hh.objs.size)]) (m₁++[.inst c []]):=
  H₁.alloc keeps nx nd ⟨fun q=>absurd q (Nat.succ_ne_self _),fun y_=>none,gx,Heap.Ns1.of_empty ⟨_,#[],_,gd,rfl,fun e he=>absurd he (by simp),fun y_=>rfl⟩,⟨(fun y_ y_ q=>by injection q),(fun y_ y_ q=>by injection q)⟩,D,N,mN,C⟩
 have last:(io₁++[(hh.objs.size+1,hh.objs.size)])[m₁.length]?=some (hh.objs.size+1,hh.objs.size):=by rw [<- H₁.len];simp
 refine codeAny_mono (hF ⟨_,gg,dr,tk,os⟩ _ _ (.ref m₁.length::vs) (.ref (hh.objs.size+1)::us) H2 ((Z.G.step0 st).step0 st2) (.cons (.ref last) (kvs.step st2)) (Res.bind_ne hne)) (fun rr s' z=>?_)
 have st3:=st.trans st2
 cases rr with
 | error e=>exact (XP.mono (s₁:=⟨_,gg,dr,tk,os⟩) z st3 sm).bind .refl (.refl _)
 | ok f=>
  cases f with
  | ret v=>
   rcases z with ⟨u,m3,io3,e3,st4,H3,ku,sm3⟩
   have e4:(F k0 (.ref m₁.length::vs) (m₁++[.inst c []])).bind (dE5 (.ref m₁.length))=dE5 (.ref m₁.length) u m3:=by rw [e3];rfl
   rw [e4] at hne
   have hu:u=.none:=by
    cases (u) <;> first | rfl | exact absurd rfl hne
   subst hu
   subst ku
   refine ⟨rfl,?_⟩
   show NP W [] (frs fs) s io m (VP W) _ _ s'
   rw [e4]
   exact ⟨_,m3,io3,rfl,st3.trans st4,H3,.ref (st4.io_get last),sm.trans sm3⟩
  | _=>exact z
end
end Mini.Internal
namespace Mini.Internal
open PySem PySem.W PyProof.Rows
structure Cx where
 sc:Scope
 vis:List (Option Str)
structure Px where
 K:Frag
 S:Sig
 fa:Nat->Addr
 ca:Nat->Addr
 /-- loops may stand here (no exception is handled) -/
 loud:Bool
 /-- what may be called: all,or these -/
 ok:Option (List Nat)
 /-- what may be called while an exception is handled -/
 qok:List Nat
noncomputable def Px.can (P:Px) (k:Nat):Bool:=match P.ok with
 | none=>true
 | some l=>l.contains k
noncomputable def Px.quiet (P:Px):Px:={ P with loud:=false,ok:=some P.qok,qok:=[] }
noncomputable def dG1 (Γ:Cx) (i:Nat) (x:Str):Bool:=(Γ.vis[i]? == some (some x))&&(Γ.sc.names.lookup x == some .local||Γ.sc.names.lookup x == some .cell||Γ.sc.names.lookup x == some .free)&&!(x == ("__debug__":Str))&&!(x == ("__classdict__":Str))
noncomputable def bK5 (Γ:Cx) (i:Nat) (x:Str):Bool:=(Γ.vis[i]? == some (some x))&&(Γ.sc.names.lookup x == some .local||Γ.sc.names.lookup x == some .cell)
noncomputable def bK6 (Γ:Cx) (x:Str):Bool:=(Γ.sc.names.lookup x == some .globalImplicit)&&!(x == ("__debug__":Str))&&!(x == ("__name__":Str))
noncomputable def cH3 (P:Px) (Γ:Cx) (x:Str) (id:String):Bool:=bK6 Γ x&&(nsIn P.K mainGlobals x == some none)&&(bootBuiltins x == some (.builtin id))
noncomputable def bA5 (P:Px) (Γ:Cx) (x:Str) (id:String):Bool:=bK6 Γ x&&(nsIn P.K mainGlobals x == some none)&&(bootBuiltins x == some (.type id))
noncomputable def isFd (d:Data):Bool:=match d with
 | .func _=>true
 | _=>false
noncomputable def dG2 (P:Px) (Γ:Cx) (k:Nat) (x:Str):Bool:=P.can k&&bK6 Γ x&&(nsIn P.K mainGlobals x == some (some (.ref (P.fa k))))&&(P.K.lookup (P.fa k)).any fun o=>isFd o.data
noncomputable def isBi (P:Px) (Γ:Cx) (b:Bi) (x:Str):Bool:=match dI9 b with
 | .builtin id=>cH3 P Γ x id
 | .type id=>bA5 P Γ x id
 | _=>false
noncomputable def bmV:List Value:=[.type "ValueError",.type "Exception",.type "BaseException",.type "object"]
noncomputable def clsV (P:Px) (c:Nat):Value:=match c with
 | 0=>.type "ValueError"
 | c=>.ref (P.ca c)
noncomputable def aU5 (P:Px) (Γ:Cx) (c:Nat) (x:Str):Bool:=bK6 Γ x&&(nsIn P.K mainGlobals x == some (some (.ref (P.ca c))))
noncomputable def isCls (P:Px) (Γ:Cx) (c:Nat) (x:Str):Bool:=match c with
 | 0=>bA5 P Γ x "ValueError"
 | c+1=>aU5 P Γ (c+1) x
noncomputable def aX6 (f:Nat->ClsD->Bool):Nat->List ClsD->Bool
 | _,[]=>true
 | k,d::ds=>f k d&&aX6 f (k+1) ds
noncomputable def relI (P:Px) (c:Nat) (d:Nat) (x:ClsD):Bool:=!x.exc||(fL P.K (P.ca d)&&kitOne P.K (.ref (P.ca d)) (clsV P c) == some (x.supers.contains c))
noncomputable def relT (P:Px) (c:Nat) (d:Nat) (x:ClsD):Bool:=!(x.supers.contains c)||exmOne P.K (.ref (P.ca d)) (.ref (P.ca c)) == some true
noncomputable def bV8 (P:Px) (n:Nat) (x:Str):Bool:=match P.S.attrs[n]? with | some y=>y == x | none=>false
noncomputable def cV5 (P:Px) (n:Nat) (x:Str):Bool:=bV8 P n x&&P.S.cls.all fun d=>(d.meths.lookup n).isNone
noncomputable def aG0 (P:Px) (N:Addr) (D:ClsD):Nat->List Str->Bool
 | _,[]=>true
 | i,x::r=>nsIn P.K N x == some ((D.meths.lookup i).map fun k=>.ref (P.fa k))&&(match fastLookup "object" x with | some none=>true | _=>false)&&aG0 P N D (i+1) r
noncomputable def six {α:Type} (l:List α):Option (α×α×α×α×α×α):=match l with
 | []=>none
 | a::l=>match l with
  | []=>none
  | b::l=>match l with
   | []=>none
   | c::l=>match l with
    | []=>none
    | d::l=>match l with
     | []=>none
     | e::l=>match l with
      | []=>none
      | f::l=>match l with
       | []=>some (a,b,c,d,e,f)
       | _::_=>none
noncomputable def dI2 (d:Data):Option ClassData:=match d with
 | .cls cd=>some cd
 | _=>none
noncomputable def bE7 (K:Frag) (C:Addr):Option Addr:=(K.lookup C).bind fun o=>(dI2 o.data).bind fun cd=>(six o.slots.toList).bind fun q=>
 if o.cls == .type "type"&&cd.mro == [.ref C,.type "object"]&&q.2.2.2.2.1 == some (.builtin "object.__new__")&&!cd.hasDel&&cd.hasDict&&!cd.abstract&&nsOkIn K cd.ns then some cd.ns else none
noncomputable def cF2 (P:Px) (c:Nat):Bool:=match P.S.cls[c]? with
 | some d=>!d.exc&&(match d.init with | some k=>decide (k < P.S.fns.length)&&findIn P.K (.ref (P.ca c)) "__init__" == some (some (.ref (P.fa k)))&&typeIn P.K (.ref (P.fa k)) == some (.type "function") | none=>false)
  &&keepIn P.K (.ref (P.ca c))&&makesIn P.K (P.ca c)
  &&(match bE7 P.K (P.ca c) with
   | some N=>nsIn P.K N "__getattribute__" == some none&&nsIn P.K N "__getattr__" == some none&&nsIn P.K N "__setattr__" == some none&&aG0 P N d 0 P.S.attrs
   | none=>false)
  &&decide P.S.attrs.Nodup&&decide (P.S.attrs.length <= 1000)&&(d.meths.all fun q=>decide (q.2 < P.S.fns.length))
 | none=>false
noncomputable def isCst:Lt->Const->Bool
 | .none,.none=>true
 | .bool b,.bool d=>b == d
 | .int i,.int j=>i == j
 | .str x,.str y=>x == y&&PyData.strOk x
 | _,_=>false
noncomputable def dF8 (v:Value) (l:Lt):Bool:=match l with
 | .int i=>(match v with | .int j _=>i == j | _=>false)
 | .str x=>(match v with | .str y _=>x == y&&PyData.strOk x | _=>false)
 | .bool b=>(match v with | .bool c=>b == c | _=>false)
 | .none=>(match v with | .none=>true | _=>false)
noncomputable def dG3 (P:Px) (Γ:Cx) (i:Nat) (x:Str):Bool:=bK6 Γ x&&(nsIn P.K mainGlobals x).any fun o=>o.any fun v=>(P.S.globs[i]?).any fun p=>dF8 v p.2
noncomputable def dF9:Bool->BoolOp->Bool
 | true,.And=>true
 | false,.Or=>true
 | _,_=>false
noncomputable def eV {β:Type} (d:β) (hBoolOp:BoolOp->List Expr->β) (hBinOp:Expr->Operator->Expr->β) (hUnaryOp:UnaryOp->Expr->β) (hIfExp:Expr->Expr->Expr->β) (hDict:List (Option Expr)->List Expr->β) (hSet:β) (hListComp:Expr->List Comprehension->Scope->β) (hSetComp:β) (hDictComp:β) (hCompare:Expr->List CmpOp->List Expr->β) (hCall:Expr->List Expr->List Keyword->Pos->β) (hConstant:Const->β) (hAttribute:Expr->Str->Pos->β) (hSubscript:Expr->Expr->β) (hName:Str->Pos->β) (hList:List Expr->β) (hTuple:List Expr->β) (hSlice:Option Expr->Option Expr->Option Expr->β) (e:Expr):β:=Expr.casesOn (motive_1:=fun y_=>β) e (fun a0 a1 y_=>hBoolOp a0 a1) (fun y_ y_ y_=>d) (fun a0 a1 a2 y_=>hBinOp a0 a1 a2) (fun a0 a1 y_=>hUnaryOp a0 a1) (fun y_ y_ y_ y_=>d) (fun a0 a1 a2 y_=>hIfExp a0 a1 a2) (fun a0 a1 y_=>hDict a0 a1) (fun y_ y_ y_=>hSet) (fun a0 a1 a2 y_=>hListComp a0 a1 a2) (fun y_ y_ y_ y_=>hSetComp) (fun y_ y_ y_ y_ y_=>hDictComp) (fun y_ y_ y_ y_=>d) (fun y_ y_=>d) (fun y_ y_=>d) (fun y_ y_=>d) (fun a0 a1 a2 y_=>hCompare a0 a1 a2) (fun a0 a1 a2 a3=>hCall a0 a1 a2 a3) (fun y_ y_ y_ y_=>d) (fun y_ y_=>d) (fun a0 y_ y_=>hConstant a0) (fun a0 a1 a2=>hAttribute a0 a1 a2) (fun a0 a1 y_=>hSubscript a0 a1) (fun y_ y_=>d) (fun a0 a1=>hName a0 a1) (fun a0 y_=>hList a0) (fun a0 y_ y_=>hTuple a0) (fun a0 a1 a2 y_=>hSlice a0 a1 a2)
noncomputable def cT7:Expr->Bool:=eV true (fun y_ y_=>true) (fun y_ y_ y_=>true) (fun y_ y_=>true) (fun y_ y_ y_=>true) (fun y_ y_=>true) true (fun y_ y_ y_=>true) true true (fun y_ y_ y_=>true) (fun y_ y_ y_ y_=>true) (fun y_=>true) (fun y_ y_ y_=>true) (fun y_ y_=>true) (fun y_ y_=>true) (fun y_=>true) (fun y_=>true) (fun y_ y_ y_=>false)
noncomputable def aP6:Expr->Bool:=eV true (fun y_ y_=>true) (fun y_ y_ y_=>true) (fun y_ y_=>true) (fun y_ y_ y_=>true) (fun y_ y_=>true) false (fun y_ y_ y_=>true) true true (fun y_ y_ y_=>true) (fun y_ y_ y_ y_=>true) (fun y_=>true) (fun y_ y_ y_=>true) (fun y_ y_=>true) (fun y_ y_=>true) (fun y_=>true) (fun y_=>true) (fun y_ y_ y_=>true)
noncomputable def bJ6:CE->Bool
 | .cnst .none=>true
 | _=>false
noncomputable def cH1:UnaryOp->Bool | .Not=>true | _=>false
noncomputable def aT2:Expr->Bool:=eV true (fun y_ y_=>false) (fun y_ y_ y_=>true) (fun op y_=>!cH1 op) (fun y_ y_ y_=>false) (fun y_ y_=>true) true (fun y_ y_ y_=>true) true true (fun y_ y_ y_=>false) (fun y_ y_ y_ y_=>true) (fun y_=>true) (fun y_ y_ y_=>true) (fun y_ y_=>true) (fun y_ y_=>true) (fun y_=>true) (fun y_=>true) (fun y_ y_ y_=>true)
noncomputable def aJ8 (scope:Scope) (x:List Str):List (Option Str)->List (Option Str)
 | []=>x.map some
 | o::r=>(match o with | some y=>(match scope.names.lookup y with | some .free=>some y | _=>none) | none=>none)::aJ8 scope x r
noncomputable def cS0 (scope:Scope) (sc:Scope):Scope:=
 { scope with names:=scope.names.map fun (n,k)=>if (k == .free&&sc.kind == .function&&sc.names.lookup n == some .cell) then (n,.cell) else (n,k) }
noncomputable def aN5 (scope:Scope) (x:List Str) (Γ:Cx):Cx:=⟨cS0 scope Γ.sc,aJ8 scope x Γ.vis⟩
noncomputable def bY2 (scope:Scope) (x:List Str) (Γ:Cx):Bool:=
 scope.kind == .function&&(scope.names.all fun p=>!(p.2 == .local)||scope.names.lookup p.1 == some .local)&&(scope.names.all fun p=>!(p.2 == .cell))&&
 (scope.names.all fun p=>!(p.2 == .free)||(Γ.vis.contains (some p.1)&&(Γ.sc.names.lookup p.1 == some .cell||Γ.sc.names.lookup p.1 == some .free)))&&(x.all fun x=>scope.names.lookup x == some .local)&&decide (x.Nodup /\ (Γ.vis.filterMap id).Nodup)&&Γ.sc.kind == .function
noncomputable def aR8:Expr->Option Const:=eV none (fun y_ y_=>none) (fun y_ y_ y_=>none) (fun y_ y_=>none) (fun y_ y_ y_=>none) (fun y_ y_=>none) none (fun y_ y_ y_=>none) none none (fun y_ y_ y_=>none) (fun y_ y_ y_ y_=>none) (fun c=>some c) (fun y_ y_ y_=>none) (fun y_ y_=>none) (fun y_ y_=>none) (fun y_=>none) (fun y_=>none) (fun y_ y_ y_=>none)
noncomputable def bV:Expr->Option (Str×Pos):=eV none (fun y_ y_=>none) (fun y_ y_ y_=>none) (fun y_ y_=>none) (fun y_ y_ y_=>none) (fun y_ y_=>none) none (fun y_ y_ y_=>none) none none (fun y_ y_ y_=>none) (fun y_ y_ y_ y_=>none) (fun y_=>none) (fun y_ y_ y_=>none) (fun y_ y_=>none) (fun x p=>some (x,p)) (fun y_=>none) (fun y_=>none) (fun y_ y_ y_=>none)
noncomputable def dB3:Expr->Option (Expr×Operator×Expr):=eV none (fun y_ y_=>none) (fun l op r=>some (l,op,r)) (fun y_ y_=>none) (fun y_ y_ y_=>none) (fun y_ y_=>none) none (fun y_ y_ y_=>none) none none (fun y_ y_ y_=>none) (fun y_ y_ y_ y_=>none) (fun y_=>none) (fun y_ y_ y_=>none) (fun y_ y_=>none) (fun y_ y_=>none) (fun y_=>none) (fun y_=>none) (fun y_ y_ y_=>none)
noncomputable def vUn:Expr->Option (UnaryOp×Expr):=eV none (fun y_ y_=>none) (fun y_ y_ y_=>none) (fun op x=>some (op,x)) (fun y_ y_ y_=>none) (fun y_ y_=>none) none (fun y_ y_ y_=>none) none none (fun y_ y_ y_=>none) (fun y_ y_ y_ y_=>none) (fun y_=>none) (fun y_ y_ y_=>none) (fun y_ y_=>none) (fun y_ y_=>none) (fun y_=>none) (fun y_=>none) (fun y_ y_ y_=>none)
noncomputable def aY2:Expr->Option (BoolOp×List Expr):=eV none (fun op es=>some (op,es)) (fun y_ y_ y_=>none) (fun y_ y_=>none) (fun y_ y_ y_=>none) (fun y_ y_=>none) none (fun y_ y_ y_=>none) none none (fun y_ y_ y_=>none) (fun y_ y_ y_ y_=>none) (fun y_=>none) (fun y_ y_ y_=>none) (fun y_ y_=>none) (fun y_ y_=>none) (fun y_=>none) (fun y_=>none) (fun y_ y_ y_=>none)
noncomputable def cK8:Expr->Option (Expr×List CmpOp×List Expr):=eV none (fun y_ y_=>none) (fun y_ y_ y_=>none) (fun y_ y_=>none) (fun y_ y_ y_=>none) (fun y_ y_=>none) none (fun y_ y_ y_=>none) none none (fun l ops cs=>some (l,ops,cs)) (fun y_ y_ y_ y_=>none) (fun y_=>none) (fun y_ y_ y_=>none) (fun y_ y_=>none) (fun y_ y_=>none) (fun y_=>none) (fun y_=>none) (fun y_ y_ y_=>none)
noncomputable def vIf:Expr->Option (Expr×Expr×Expr):=eV none (fun y_ y_=>none) (fun y_ y_ y_=>none) (fun y_ y_=>none) (fun t x y=>some (t,x,y)) (fun y_ y_=>none) none (fun y_ y_ y_=>none) none none (fun y_ y_ y_=>none) (fun y_ y_ y_ y_=>none) (fun y_=>none) (fun y_ y_ y_=>none) (fun y_ y_=>none) (fun y_ y_=>none) (fun y_=>none) (fun y_=>none) (fun y_ y_ y_=>none)
noncomputable def bD0:Expr->Option (List Expr):=eV none (fun y_ y_=>none) (fun y_ y_ y_=>none) (fun y_ y_=>none) (fun y_ y_ y_=>none) (fun y_ y_=>none) none (fun y_ y_ y_=>none) none none (fun y_ y_ y_=>none) (fun y_ y_ y_ y_=>none) (fun y_=>none) (fun y_ y_ y_=>none) (fun y_ y_=>none) (fun y_ y_=>none) (fun y_=>none) (fun es=>some es) (fun y_ y_ y_=>none)
noncomputable def bN4:Expr->Option (List Expr):=eV none (fun y_ y_=>none) (fun y_ y_ y_=>none) (fun y_ y_=>none) (fun y_ y_ y_=>none) (fun y_ y_=>none) none (fun y_ y_ y_=>none) none none (fun y_ y_ y_=>none) (fun y_ y_ y_ y_=>none) (fun y_=>none) (fun y_ y_ y_=>none) (fun y_ y_=>none) (fun y_ y_=>none) (fun es=>some es) (fun y_=>none) (fun y_ y_ y_=>none)
noncomputable def bN8:Expr->Option (List (Option Expr)×List Expr):=eV none (fun y_ y_=>none) (fun y_ y_ y_=>none) (fun y_ y_=>none) (fun y_ y_ y_=>none) (fun es fs=>some (es,fs)) none (fun y_ y_ y_=>none) none none (fun y_ y_ y_=>none) (fun y_ y_ y_ y_=>none) (fun y_=>none) (fun y_ y_ y_=>none) (fun y_ y_=>none) (fun y_ y_=>none) (fun y_=>none) (fun y_=>none) (fun y_ y_ y_=>none)
noncomputable def cB2:Expr->Option (Expr×Expr):=eV none (fun y_ y_=>none) (fun y_ y_ y_=>none) (fun y_ y_=>none) (fun y_ y_ y_=>none) (fun y_ y_=>none) none (fun y_ y_ y_=>none) none none (fun y_ y_ y_=>none) (fun y_ y_ y_ y_=>none) (fun y_=>none) (fun y_ y_ y_=>none) (fun x y=>some (x,y)) (fun y_ y_=>none) (fun y_=>none) (fun y_=>none) (fun y_ y_ y_=>none)
noncomputable def aR7:Expr->Option (Option Expr×Option Expr×Option Expr):=eV none (fun y_ y_=>none) (fun y_ y_ y_=>none) (fun y_ y_=>none) (fun y_ y_ y_=>none) (fun y_ y_=>none) none (fun y_ y_ y_=>none) none none (fun y_ y_ y_=>none) (fun y_ y_ y_ y_=>none) (fun y_=>none) (fun y_ y_ y_=>none) (fun y_ y_=>none) (fun y_ y_=>none) (fun y_=>none) (fun y_=>none) (fun l h s=>some (l,h,s))
noncomputable def aO5:Expr->Option (Expr×List Expr×List Keyword×Pos):=eV none (fun y_ y_=>none) (fun y_ y_ y_=>none) (fun y_ y_=>none) (fun y_ y_ y_=>none) (fun y_ y_=>none) none (fun y_ y_ y_=>none) none none (fun y_ y_ y_=>none) (fun f es kws pos=>some (f,es,kws,pos)) (fun y_=>none) (fun y_ y_ y_=>none) (fun y_ y_=>none) (fun y_ y_=>none) (fun y_=>none) (fun y_=>none) (fun y_ y_ y_=>none)
noncomputable def aG5:Expr->Option (Expr×Str×Pos):=eV none (fun y_ y_=>none) (fun y_ y_ y_=>none) (fun y_ y_=>none) (fun y_ y_ y_=>none) (fun y_ y_=>none) none (fun y_ y_ y_=>none) none none (fun y_ y_ y_=>none) (fun y_ y_ y_ y_=>none) (fun y_=>none) (fun x nm p=>some (x,nm,p)) (fun y_ y_=>none) (fun y_ y_=>none) (fun y_=>none) (fun y_=>none) (fun y_ y_ y_=>none)
noncomputable def aR9:Expr->Option (Expr×List Comprehension×Scope):=eV none (fun y_ y_=>none) (fun y_ y_ y_=>none) (fun y_ y_=>none) (fun y_ y_ y_=>none) (fun y_ y_=>none) none (fun e gs sc=>some (e,gs,sc)) none none (fun y_ y_ y_=>none) (fun y_ y_ y_ y_=>none) (fun y_=>none) (fun y_ y_ y_=>none) (fun y_ y_=>none) (fun y_ y_=>none) (fun y_=>none) (fun y_=>none) (fun y_ y_ y_=>none)
noncomputable def cK7 {α:Type}:List α->Option α | [x]=>some x | _=>none
noncomputable def cP8 {α:Type}:List α->Option (α×α) | [x,y]=>some (x,y) | _=>none
noncomputable def dL (e:Expr):Option (Str×List Expr):=(aO5 e).bind fun q=>if q.2.2.1.isEmpty then (bV q.1).map fun x=>(x.1,q.2.1) else none
noncomputable def dG0:UnaryOp->Bool | .USub=>true | _=>false
noncomputable def mSrc (P:Px) (Γ:Cx) (f:List Expr->Bool) (k:IK) (e:Expr):Bool:=P.loud&&match k with
 | .expr=>f [e]
 | .range=>(dL e).any fun q=>bA5 P Γ q.1 "range"&&bE q.2&&f q.2
 | .enum=>false
noncomputable def vTg (l:Bool) (n:Nat) (t:CT) (e:Expr):Option (List Str):=match t with
 | .one i=>if i=n then (bV e).map fun x=>[x.1] else none
 | .many is=>if l=true /\ is=[n,n+1] then (bD0 e).bind fun es=>(cP8 es).bind fun p=>(bV p.1).bind fun x=>(bV p.2).map fun y=>[x.1,y.1] else none
noncomputable def cF7 (P:Px) (Γ:Cx) (f:List Expr->Bool) (k:IK) (t:CT) (e:Expr):Bool:=match k with
 | .enum=>false
 | k=>mSrc P Γ f k e
noncomputable def isTy (P:Px) (Γ:Cx) (t:Ty) (y:Str):Bool:=match t with
 | .cls c=>isCls P Γ c y&&aX6 (relI P c) 0 P.S.cls
 | t=>bA5 P Γ y (dZ t)&&!(dZ t == "")
mutual
noncomputable def mE (P:Px) (Γ:Cx):CE->Expr->Bool
 | .cnst v,e=>(aR8 e).any fun c=>isCst v c
 | .var i,e=>(bV e).any fun x=>dG1 Γ i x.1
 | .bin op a b,e=>(dB3 e).any fun q=>decide (op=q.2.1)&&mE P Γ a q.1&&mE P Γ b q.2.2
 | .neg a,e=>(vUn e).any fun q=>dG0 q.1&&mE P Γ a q.2
 | .not a,e=>(vUn e).any fun q=>cH1 q.1&&mE P Γ a q.2
 | .boolop c as,e=>(aY2 e).any fun q=>dF9 c q.1&&mEs P Γ as q.2&&!as.isEmpty
 | .cmp a ops bs,e=>(cK8 e).any fun q=>decide (ops=q.2.1)&&mE P Γ a q.1&&mEs P Γ bs q.2.2&&decide (ops.length=bs.length)&&!bs.isEmpty&&q.2.2.all aP6
 | .ite c a b,e=>(vIf e).any fun q=>mB P Γ c q.1&&mE P Γ a q.2.1&&mE P Γ b q.2.2
 | .tup as,e=>(bD0 e).any fun es=>mEs P Γ as es&&bE es&&decide (as.length <= 1000)
 | .list as,e=>(bN4 e).any fun es=>mEs P Γ as es&&bE es&&decide (as.length <= 1000)
 | .dict ks vs,e=>(bN8 e).any fun q=>if ks.isEmpty then vs.isEmpty&&q.1.isEmpty&&q.2.isEmpty else false
 | .idx a i,e=>(cB2 e).any fun q=>cT7 q.2&&mE P Γ a q.1&&mE P Γ i q.2
 | .slice a lo hi st,e=>(cB2 e).any fun q=>mE P Γ a q.1&&(aR7 q.2).any fun t=>t.1.elim (bJ6 lo) (fun l=>mE P Γ lo l)&&t.2.1.elim (bJ6 hi) (fun l=>mE P Γ hi l)&&t.2.2.elim (bJ6 st) (fun l=>mE P Γ st l)
 | .call k as,e=>(dL e).any fun q=>dG2 P Γ k q.1&&bE q.2&&mEs P Γ as q.2
 | .bi b as,e=>(dL e).any fun q=>P.loud&&(cZ9 b&&isBi P Γ b q.1&&bE q.2&&mEs P Γ as q.2)
 | .smeth o n as,e=>(aO5 e).any fun q=>(aG5 q.1).any fun t=>t.2.1 == Str.ofString (bR1 n)&&fI t.1&&bE q.2.1&&decide (q.2.1.length < 29)&&t.2.2.endLine == q.2.2.2.line&&q.2.2.1.isEmpty&&mE P Γ o t.1&&mEs P Γ as q.2.1
 | .isi a t,e=>(dL e).any fun q=>(cP8 q.2).any fun p=>(bV p.2).any fun y=>cH3 P Γ q.1 "isinstance"&&isTy P Γ t y.1&&bE [p.1]&&mE P Γ a p.1
 | .listrange _,_=>false
 | .comp elt t nl k src ifs,e=>(aR9 e).any fun q=>(cK7 q.2.1).any fun g=>(vTg P.loud Γ.vis.length t g.target).any fun x=>decide (nl=x.length)&&g.is_async == 0&&bY2 q.2.2 x Γ&&aP6 g.iter&&mSrc P Γ (fun es=>mEs P Γ src es) k g.iter&&cF8 P (aN5 q.2.2 x Γ) ifs g.ifs&&mE P (aN5 q.2.2 x Γ) elt q.1
 | .glob i,e=>(bV e).any fun x=>dG3 P Γ i x.1
 | .fnv _,_=>false
 | .attr a n,e=>(aG5 e).any fun q=>fI q.1&&cV5 P n q.2.1&&mE P Γ a q.1
 | .callv _ _,_=>false
 | .new c as,e=>(dL e).any fun q=>P.ok.isNone&&aU5 P Γ c q.1&&cF2 P c&&bE q.2&&mEs P Γ as q.2
 | .meth o n as,e=>(aO5 e).any fun q=>(aG5 q.1).any fun t=>P.ok.isNone&&bV8 P n t.2.1&&fI t.1&&bE q.2.1&&decide (q.2.1.length < 29)&&t.2.2.endLine == q.2.2.2.line&&q.2.2.1.isEmpty&&mE P Γ o t.1&&mEs P Γ as q.2.1
noncomputable def mEs (P:Px) (Γ:Cx):List CE->List Expr->Bool
 | [],es=>es.isEmpty
 | a::as,es=>match es with
  | []=>false
  | e::es=>mE P Γ a e&&mEs P Γ as es
noncomputable def mB (P:Px) (Γ:Cx):CB->Expr->Bool
 | .not b,e=>(vUn e).any fun q=>cH1 q.1&&mB P Γ b q.2
 | .all c bs,e=>(aY2 e).any fun q=>dF9 c q.1&&cF8 P Γ bs q.2
 | .val c,e=>(aT2 e||(cK8 e).isSome)&&mE P Γ c e
noncomputable def cF8 (P:Px) (Γ:Cx):List CB->List Expr->Bool
 | [],es=>es.isEmpty
 | b::bs,es=>match es with
  | []=>false
  | e::es=>mB P Γ b e&&cF8 P Γ bs es
end
noncomputable def aC7:Expr->Bool:=eV false (fun y_ y_=>false) (fun y_ y_ y_=>false) (fun y_ y_=>false) (fun y_ y_ y_=>false) (fun y_ y_=>false) false (fun y_ y_ y_=>true) true true (fun y_ y_ y_=>false) (fun y_ y_ y_ y_=>false) (fun y_=>false) (fun y_ y_ y_=>false) (fun y_ y_=>false) (fun y_ y_=>false) (fun y_=>false) (fun y_=>false) (fun y_ y_ y_=>false)
noncomputable def sV {β:Type} (d:β) (hReturn:Option Expr->β) (hAssign:List Expr->Expr->Pos->β) (hFor:Expr->Expr->List Stmt->List Stmt->β) (hWhile:Expr->List Stmt->List Stmt->β) (hIf:Expr->List Stmt->List Stmt->β) (hRaise:Option Expr->Option Expr->β) (hTry:List Stmt->List ExceptHandler->List Stmt->List Stmt->β) (hExpr:Expr->β) (hPass:β) (hContinue:β) (e:Stmt):β:=Stmt.casesOn (motive_2:=fun y_=>β) e (fun y_ y_ y_ y_ y_ y_ y_ y_ y_ y_=>d) (fun y_ y_ y_ y_ y_ y_ y_ y_ y_ y_=>d) (fun y_ y_ y_ y_ y_ y_ y_ y_ y_ y_ y_=>d) (fun a0 y_=>hReturn a0) (fun y_ y_=>d) (fun a0 a1 a2=>hAssign a0 a1 a2) (fun y_ y_ y_ y_ y_ y_ y_=>d) (fun y_ y_ y_ y_=>d) (fun y_ y_ y_ y_ y_=>d) (fun a0 a1 a2 a3 y_=>hFor a0 a1 a2 a3) (fun y_ y_ y_ y_ y_=>d) (fun a0 a1 a2 y_=>hWhile a0 a1 a2) (fun a0 a1 a2 y_=>hIf a0 a1 a2) (fun y_ y_ y_=>d) (fun y_ y_ y_=>d) (fun y_ y_ y_=>d) (fun a0 a1 y_=>hRaise a0 a1) (fun a0 a1 a2 a3 y_=>hTry a0 a1 a2 a3) (fun y_ y_ y_ y_ y_=>d) (fun y_ y_ y_=>d) (fun y_ y_=>d) (fun y_ y_ y_ y_=>d) (fun y_ y_=>d) (fun y_ y_=>d) (fun a0 y_=>hExpr a0) (fun y_=>hPass) (fun y_=>d) (fun y_=>hContinue)
noncomputable def dB4:Stmt->Option (List Expr×Expr×Pos):=sV none (fun y_=>none) (fun ts v pos=>some (ts,v,pos)) (fun y_ y_ y_ y_=>none) (fun y_ y_ y_=>none) (fun y_ y_ y_=>none) (fun y_ y_=>none) (fun y_ y_ y_ y_=>none) (fun y_=>none) none none
noncomputable def cZ4:Stmt->Option Expr:=sV none (fun y_=>none) (fun y_ y_ y_=>none) (fun y_ y_ y_ y_=>none) (fun y_ y_ y_=>none) (fun y_ y_ y_=>none) (fun y_ y_=>none) (fun y_ y_ y_ y_=>none) (fun v=>some v) none none
noncomputable def cZ3:Stmt->Option (Expr×List Stmt×List Stmt):=sV none (fun y_=>none) (fun y_ y_ y_=>none) (fun y_ y_ y_ y_=>none) (fun y_ y_ y_=>none) (fun t x y=>some (t,x,y)) (fun y_ y_=>none) (fun y_ y_ y_ y_=>none) (fun y_=>none) none none
noncomputable def dB2:Stmt->Option (Expr×Expr×List Stmt×List Stmt):=sV none (fun y_=>none) (fun y_ y_ y_=>none) (fun t i b e=>some (t,i,b,e)) (fun y_ y_ y_=>none) (fun y_ y_ y_=>none) (fun y_ y_=>none) (fun y_ y_ y_ y_=>none) (fun y_=>none) none none
noncomputable def cB4:Stmt->Option (Option Expr):=sV none (fun v=>some v) (fun y_ y_ y_=>none) (fun y_ y_ y_ y_=>none) (fun y_ y_ y_=>none) (fun y_ y_ y_=>none) (fun y_ y_=>none) (fun y_ y_ y_ y_=>none) (fun y_=>none) none none
noncomputable def cC5:Stmt->Bool:=sV false (fun y_=>false) (fun y_ y_ y_=>false) (fun y_ y_ y_ y_=>false) (fun y_ y_ y_=>false) (fun y_ y_ y_=>false) (fun y_ y_=>false) (fun y_ y_ y_ y_=>false) (fun y_=>false) false true
noncomputable def cB6:Stmt->Bool:=sV false (fun y_=>false) (fun y_ y_ y_=>false) (fun y_ y_ y_ y_=>false) (fun y_ y_ y_=>false) (fun y_ y_ y_=>false) (fun y_ y_=>false) (fun y_ y_ y_ y_=>false) (fun y_=>false) true false
noncomputable def vRse:Stmt->Option (Option Expr×Option Expr):=sV none (fun y_=>none) (fun y_ y_ y_=>none) (fun y_ y_ y_ y_=>none) (fun y_ y_ y_=>none) (fun y_ y_ y_=>none) (fun e c=>some (e,c)) (fun y_ y_ y_ y_=>none) (fun y_=>none) none none
noncomputable def vTry:Stmt->Option (List Stmt×List ExceptHandler×List Stmt×List Stmt):=sV none (fun y_=>none) (fun y_ y_ y_=>none) (fun y_ y_ y_ y_=>none) (fun y_ y_ y_=>none) (fun y_ y_ y_=>none) (fun y_ y_=>none) (fun b h o f=>some (b,h,o,f)) (fun y_=>none) none none
noncomputable def cQ2:ExceptHandler->Option (Expr×Option Str×Expr)
 | .ExceptHandler (some t) nm [s] _=>(cB4 s).bind fun o=>o.map fun e=>(t,nm,e)
 | _=>none
noncomputable def okNm (Γ:Cx) (ni:Option Nat) (nm:Option Str):Bool:=match ni,nm with
 | none,none=>true
 | some i,some x=>(match Γ.vis[i]? with | some (some y)=>y == x | _=>false)&&(match Γ.sc.names.lookup x with | some .local=>true | _=>false)
 | _,_=>false
mutual
noncomputable def qS:CS->Bool
 | .exp _=>true
 | .ret _=>true
 | .ite _ a b=>qSs a&&qSs b
 | _=>false
noncomputable def qSs:List CS->Bool
 | []=>true
 | c::cs=>qS c&&qSs cs
end
noncomputable def bT0 (Γ:Cx) (y:Str×Pos) (v:Expr):Bool:=!aC7 v||(aR9 v).any fun q=>!(Γ.sc.names.lookup y.1 == some .local)||(y.2.line == v.pos.line&&!(q.2.2.names.any fun (n,k)=>n == y.1&&(k == .local||k == .cell)))
noncomputable def mT (Γ:Cx) (t:CT) (e:Expr):Bool:=match t with
 | .one i=>(bV e).any fun x=>bK5 Γ i x.1
 | .many _=>false
noncomputable def mTs (Γ:Cx):List Nat->List Expr->Bool
 | [],es=>es.isEmpty
 | i::is,es=>match es with
  | []=>false
  | e::es=>(bV e).any (fun x=>bK5 Γ i x.1)&&mTs Γ is es
noncomputable def mTF (Γ:Cx) (t:CT) (e:Expr):Bool:=match t with
 | .one i=>(bV e).any fun x=>bK5 Γ i x.1
 | .many is=>(bD0 e).any fun es=>mTs Γ is es
noncomputable def mAsg (P:Px) (Γ:Cx) (t:CTgt) (c:CE) (tg v:Expr):Bool:=match t with
 | .one t=>match t with
  | .one i=>mT Γ (.one i) tg&&mE P Γ c v&&(bV tg).any fun y=>bT0 Γ y v
  | .many is=>P.loud&&mTF Γ (.many is) tg&&mE P Γ c v&&!aC7 v&&(bD0 v).isNone
 | .idx o i=>(cB2 tg).any fun q=>mE P Γ o q.1&&mE P Γ i q.2&&mE P Γ c v&&!aC7 v
 | .attr o n=>(aG5 tg).any fun q=>cV5 P n q.2.1&&mE P Γ o q.1&&mE P Γ c v&&!aC7 v
 | .idx2 _ _ _ _=>false
mutual
noncomputable def mS (P:Px) (Γ:Cx):CS->Stmt->Bool
 | .asg t e,s=>(dB4 s).any fun q=>(cK7 q.1).any fun tg=>mAsg P Γ t e tg q.2.1
 | .exp e,s=>(cZ4 s).any fun v=>mE P Γ e v&&!aC7 v
 | .ite c a b,s=>(cZ3 s).any fun q=>mB P Γ c q.1&&mSs P Γ a q.2.1&&mSs P Γ b q.2.2
 | .for_ k t src body,s=>(dB2 s).any fun q=>q.2.2.2.isEmpty&&mTF Γ t q.1&&aP6 q.2.1&&cF7 P Γ (fun es=>mEs P Γ src es) k t q.2.1&&mSs P Γ body q.2.2.1
 | .wh _ _,_=>false
 | .ret e,s=>(cB4 s).any fun o=>o.any fun v=>mE P Γ e v
 | .cont,s=>cC5 s
 | .pass,s=>cB6 s
 | .rse c msg,s=>(vRse s).any fun q=>q.2.isNone&&q.1.any fun e=>(dL e).any fun t=>P.loud&&aU5 P Γ c t.1&&excIn P.K (P.ca c) bmV "ValueError.__new__"&&bE t.2&&mEs P Γ [.cnst (.str msg)] t.2
 | .try_ body c ni h,s=>(vTry s).any fun q=>q.2.2.1.isEmpty&&q.2.2.2.isEmpty&&(cK7 q.2.1).any fun hd=>(cQ2 hd).any fun t=>(bV t.1).any fun x=>aU5 P Γ c x.1&&aX6 (relT P c) 0 P.S.cls&&okNm Γ ni t.2.1&&qSs body&&mSs P Γ body q.1&&mE P.quiet Γ h t.2.2
noncomputable def mSs (P:Px) (Γ:Cx):List CS->List Stmt->Bool
 | [],ss=>ss.isEmpty
 | a::as,ss=>match ss with
  | []=>false
  | s::ss=>mS P Γ a s&&mSs P Γ as ss
end
noncomputable def mF (P:Px) (k:Nat) (d:FnD):Bool:=match P.K.lookup (P.fa k) with
 | some o=>(match o.data with
  | .func fd=>(match fd.body with
   | .stmts body=>o.cls == .type "function"&&bW4 P.K fd d&&mSs P ⟨fd.scope,d.names.map some⟩ d.body body
   | _=>false)
  | _=>false)
 | none=>false
noncomputable def mFs (P:Px):Nat->List FnD->Bool
 | _,[]=>true
 | k,d::ds=>(!P.can k||mF P k d)&&mFs P (k+1) ds
end Mini.Internal
namespace Mini.Internal
open PySem PySem.W PyProof.Rows
structure Fx (W:Wd) (P:Px) (A:Around) (fs:List Env) (n:Nat) (F:Fns):Prop where
 gl:Gl W P.K
 R:AR A fs n
 S:W.S=P.S
 fa:W.fa=P.fa
 ca:W.ca=P.ca
 hh:P.loud=true->A.handled=none
 calls:∀ k,P.can k=true->SiF W A fs (.ref (W.fa k)) (F k)
 new:P.ok=none->∀ k,k < P.S.fns.length->SiK W (born A) fs (.ref (W.fa k)) (F k)
 qcalls:∀ A',AR A' fs n->∀ k,P.qok.contains k=true->SiF W A' fs (.ref (W.fa k)) (F k)
 objs:P.ok=none->∀ k,k < P.S.fns.length->∃ o fd,P.K.lookup (P.fa k)=some o /\ o.data=.func fd /\ o.cls=.type "function"
section
variable {W:Wd} {P:Px} {fs:List Env} {env:Env} {A:Around} {n:Nat} {F:Fns} {pos p:Pos} {Γ:Cx}
theorem bH {a b:Bool} (h:(a&&b)=true):a=true /\ b=true:=Bool.and_eq_true_iff.mp h
theorem cL6 {a:Bool} (h:(!a)=true):a=false:=(Bool.not_eq_true' _).mp h
theorem aV1 {x:Str} (hsc:env.scope=Γ.sc) (h:bK6 Γ x=true):env.kindOf x=some .globalImplicit /\ (x == ("__debug__":Str))=false /\ (x == ("__name__":Str))=false:=by
 refine ⟨?_,cL6 (bH (bH h).1).2,cL6 (bH h).2⟩
 show env.scope.names.lookup x=_
 rw [hsc];exact eq_of_beq (bH (bH h).1).1
theorem cN4 {x:Str} {id:String} (hsc:env.scope=Γ.sc) (h:cH3 P Γ x id=true):env.kindOf x=some .globalImplicit /\ (x == ("__debug__":Str))=false /\ (x == ("__name__":Str))=false /\ nsIn P.K mainGlobals x=some none /\ bootBuiltins x=some (.builtin id):=
 have g:=aV1 hsc (bH (bH h).1).1
 ⟨g.1,g.2.1,g.2.2,eq_of_beq (bH (bH h).1).2,eq_of_beq (bH h).2⟩
theorem bD3 {x:Str} {id:String} (hsc:env.scope=Γ.sc) (h:bA5 P Γ x id=true):env.kindOf x=some .globalImplicit /\ (x == ("__debug__":Str))=false /\ (x == ("__name__":Str))=false /\ nsIn P.K mainGlobals x=some none /\ bootBuiltins x=some (.type id):=
 have g:=aV1 hsc (bH (bH h).1).1
 ⟨g.1,g.2.1,g.2.2,eq_of_beq (bH (bH h).1).2,eq_of_beq (bH h).2⟩
theorem fd_of {d:Data} (h:isFd d=true):∃ fd,d=.func fd:=by
 cases d with
 | func fd=>exact ⟨fd,rfl⟩
 | _=>exact absurd h Bool.false_ne_true
theorem dG6 {x:Str} {k:Nat} (hsc:env.scope=Γ.sc) (h:dG2 P Γ k x=true):P.can k=true /\ env.kindOf x=some .globalImplicit /\ (x == ("__debug__":Str))=false /\ nsIn P.K mainGlobals x=some (some (.ref (P.fa k))) /\ ∃ o fd,P.K.lookup (P.fa k)=some o /\ o.data=.func fd:=by
 have h1:=bH (bH h).1
 have g:=aV1 hsc (bH h1.1).2
 refine ⟨(bH h1.1).1,g.1,g.2.1,eq_of_beq h1.2,?_⟩
 have h2:=(bH h).2
 cases q:P.K.lookup (P.fa k) with
 | none=>rw [q] at h2;exact absurd h2 Bool.false_ne_true
 | some o=>rw [q] at h2;exact (fd_of h2).elim fun fd e=>⟨o,fd,rfl,e⟩
theorem bE9 {x:Str} {c:Nat} (hsc:env.scope=Γ.sc) (h:aU5 P Γ c x=true):env.kindOf x=some .globalImplicit /\ (x == ("__debug__":Str))=false /\ nsIn P.K mainGlobals x=some (some (.ref (P.ca c))):=
 have g:=aV1 hsc (bH h).1
 ⟨g.1,g.2.1,eq_of_beq (bH h).2⟩
theorem aD9 {f:Nat->ClsD->Bool}:∀ {ds:List ClsD} {j i:Nat} {d:ClsD},aX6 f j ds=true->ds[i]?=some d->f (j+i) d=true
 | [],j,i,d,_,h=>by simp at h
 | x::ds,j,i,d,hm,h=>by
  rcases Bool.and_eq_true_iff.mp hm with ⟨h1,h2⟩
  cases i with
  | zero=>
   have e:x=d:=by simpa using h
   rw [e] at h1;exact h1
  | succ i=>
   have:=aD9 h2 (show ds[i]?=some d by simpa using h)
   rwa [show j+1+i=j+(i+1) by lia] at this
theorem bB9 {S:Sig}:∀ {cs:List CE} {r:Lo} {m:MH} {vs:List V} {m':MH},evs S F cs r m=.ok vs m'->vs.length=cs.length
 | [],r,m,vs,m',h=>by (refine aC5 h fun z1 z2=>?_;clear h;subst z1;subst z2);rfl
 | c::cs,r,m,vs,m',h=>by
  have h':(ev S F c r m).bind (fun x=>bnd (evs S F cs r) fun xs=>ret (x::xs))=.ok vs m':=h
  cases e1:ev S F c r m with
  | bad=>rw [e1] at h';injection h'
  | exc k m1=>rw [e1] at h';injection h'
  | ok x m1=>
   rw [e1] at h'
   have h2:(evs S F cs r m1).bind (fun xs=>ret (x::xs))=.ok vs m':=h'
   cases e2:evs S F cs r m1 with
   | bad=>rw [e2] at h2;injection h2
   | exc k m2=>rw [e2] at h2;injection h2
   | ok xs m2=>
    rw [e2] at h2;(refine aC5 h2 fun z1 z2=>?_;clear h2;subst z1;subst z2)
    simp [bB9 e2]
theorem cT0 {c:Bool} {op:BoolOp} (h:dF9 c op=true):(op=.And /\ c=true) \/ (op=.Or /\ c=false):=by
 cases (c) <;> cases (op) <;> first | (exact absurd h Bool.false_ne_true) | simp
theorem bE0 (scope:Scope) (x:List Str):∀ vis,(aJ8 scope x vis).length=vis.length+x.length
 | []=>by rw [aJ8,List.length_map,List.length_nil,Nat.zero_add]
 | _::r=>by show (aJ8 scope x r).length+1=_;rw [bE0 scope x r,List.length_cons,Nat.add_right_comm]
set_option tactic.hygienic true in
theorem aF3 (scope:Scope) (x:List Str):∀ (vis:List (Option Str)) (i:Nat) (y:Str),(aJ8 scope x vis)[i]?=some (some y)->(vis.length <= i /\ x[i - vis.length]?=some y) \/ (vis[i]?=some (some y) /\ scope.names.lookup y=some .free)
 | [],i,y,h=>by
  rw [aJ8,List.getElem?_map] at h
  refine .inl ⟨Nat.zero_le _,?_⟩
  cases q:x[i]? with
  | none=>rw [q] at h;injection h
  | some z=>rw [q] at h;exact Option.some.inj h
 | o::r,i,y,h=>by
  cases i with
  | zero=>
   simp only [aJ8,List.getElem?_cons_zero,Option.some.injEq] at h
   right
   split at h
   ·split at h
    ·rename_i e;(refine aF h fun z1=>?_;clear h;subst z1);exact ⟨rfl,e⟩
    ·injection h
   ·injection h
  | succ i=>
   simp only [aJ8,List.getElem?_cons_succ] at h
   rcases aF3 scope x r i y h with ⟨a,b⟩ | a
   ·exact .inl ⟨Nat.succ_le_succ a,by rw [List.length_cons,Nat.add_sub_add_right];exact b⟩
   ·exact .inr (by simpa using a)
theorem aB5 (scope:Scope) (x:List Str) (k:Nat):∀ (vis:List (Option Str)),(aJ8 scope x vis)[vis.length+k]?=x[k]?.map some
 | []=>by rw [aJ8,List.length_nil,Nat.zero_add,List.getElem?_map]
 | _::r=>by
  rw [List.length_cons,Nat.add_right_comm]
  exact aB5 scope x k r
theorem aT5:∀ {vis:List (Option Str)},(vis.filterMap id).Nodup->∀ (i j:Nat) (y:Str),vis[i]?=some (some y)->vis[j]?=some (some y)->i=j
 | [],_,i,j,y,h,_=>by simp at h
 | o::r,hn,i,j,y,h1,h2=>by
  have tail:(r.filterMap id).Nodup:=by
   cases o with
   | none=>simpa using hn
   | some z=>simp at hn;exact hn.2
  have no:o=some y->∀ k:Nat,r[k]?=some (some y)->False:=fun e k hk=>by
   subst e
   simp at hn
   exact hn.1 (List.mem_of_getElem? hk)
  cases i with
  | zero=>
   cases j with
   | zero=>rfl
   | succ j=>simp at h1 h2;exact (no h1 j h2).elim
  | succ i=>
   cases j with
   | zero=>simp at h1 h2;exact (no h2 i h1).elim
   | succ j=>simp at h1 h2;rw [aT5 tail i j y h1 h2]
theorem aW5 {scope:Scope} {x:List Str} (hsc:env.scope=Γ.sc) (h:bY2 scope x Γ=true):CompOk scope env Γ.vis (aJ8 scope x Γ.vis) x.length:=by
 simp only [bY2,Bool.and_eq_true,beq_iff_eq,decide_eq_true_eq] at h
 refine hide fun G_ g_=>?_;rcases h with ⟨⟨⟨⟨⟨⟨h1,h2⟩,h3⟩,h4⟩,h5⟩,h6⟩,h7⟩;refine g_ ?_;clear g_ G_
 refine ⟨h1,fun q hq e=>?_,fun q hq e=>?_,fun q hq e=>?_,fun i y hy=>?_,fun i j y h1' h2'=>?_,bE0 ..⟩
 ·have:=List.all_eq_true.mp h2 q hq
  simpa [e] using this
 ·have:=List.all_eq_true.mp h3 q hq
  simp [e] at this
 ·have:=List.all_eq_true.mp h4 q hq
  simp only [e,beq_self_eq_true,Bool.not_true,Bool.false_or,Bool.and_eq_true,Bool.or_eq_true,beq_iff_eq] at this
  rcases this with ⟨a,b⟩
  rcases List.getElem?_of_mem (List.contains_iff_mem.mp a) with ⟨i,hi⟩
  refine ⟨i,hi,?_⟩
  show env.scope.names.lookup q.1=_ \/ env.scope.names.lookup q.1=_
  rw [hsc];exact b
 ·rcases aF3 scope x Γ.vis i y hy with ⟨a,b⟩ | ⟨a,b⟩
  ·exact .inl ⟨a,beq_iff_eq.mp (List.all_eq_true.mp h5 y (List.mem_of_getElem? b))⟩
  ·exact .inr ⟨a,b⟩
 ·have loc:∀ {i:Nat},x[i]?=some y->scope.names.lookup y=some .local:=fun b=>beq_iff_eq.mp (List.all_eq_true.mp h5 y (List.mem_of_getElem? b))
  rcases aF3 scope x Γ.vis i y h1' with ⟨a,b⟩ | ⟨a,b⟩ <;> rcases aF3 scope x Γ.vis j y h2' with ⟨c,d⟩ | ⟨c,d⟩
  ·have:=(List.getElem?_inj (List.getElem?_eq_some_iff.mp b).1 h6.1).mp (b.trans d.symm)
   rw [<- Nat.sub_add_cancel a,this,Nat.sub_add_cancel c]
  ·rw [loc b] at d;(refine aF d fun z1=>?_;clear d;(first | (injection z1;done) | subst z1 | cases (z1)))
  ·rw [loc d] at b;(refine aF b fun z1=>?_;clear b;(first | (injection z1;done) | subst z1 | cases (z1)))
  ·exact aT5 h6.2 i j y a c
theorem aF6 {scope:Scope} (hsc:env.scope=Γ.sc):relabel scope env=cS0 scope Γ.sc:=by
 unfold relabel cS0 Env.kindOf
 rw [hsc]
theorem bD9 {iter:Expr} (h:aP6 iter=true) (x:Value):foldedSetIterable iter env x=Pure.pure x:=by
 unfold foldedSetIterable
 cases (iter) <;> first | (exact absurd h Bool.false_ne_true) | rfl
theorem bF4 {op:CmpOp} {e:Expr} (h:aP6 e=true):behindInMarks op e=false:=by
 cases (e) <;> first | (exact absurd h Bool.false_ne_true) | rfl
set_option tactic.hygienic true in
theorem aP4 {e:Expr} (h:aT2 e=true):isTrue e env (eval e env)=(do let v <- eval e env;PySem.standAt e.pos;PySem.holding [v] (truthy v)):=by
 cases (e) <;> first | rfl | (exact absurd h Bool.false_ne_true) | skip
 rename_i op x pos
 cases (op) <;> first | rfl | (exact absurd h Bool.false_ne_true)
end
end Mini.Internal
namespace Mini.Internal
open PySem PySem.W PyProof.Rows
theorem aE {C:Prop} (h:false=true):C:=by injection h
theorem aB {a b:Bool} (h:(a&&b)=true):a=true /\ b=true:=by cases (a) <;> cases (b) <;> first | (exact ⟨rfl,rfl⟩) | (exact aE h)
theorem eA {p:Prop} [Decidable p] (h:decide p=true):p:=of_decide_eq_true h
section
variable {W:Wd} {P:Px} {fs:List Env} {env:Env} {A:Around} {n:Nat} {F:Fns} {pos p:Pos} {Γ:Cx} {K:Frag} {h:Heap}
theorem dC5 {α:Type} {l:List α} {q:α×α×α×α×α×α} (h:six l=some q):l=[q.1,q.2.1,q.2.2.1,q.2.2.2.1,q.2.2.2.2.1,q.2.2.2.2.2]:=by
 cases l with
 | nil=>injection h
 | cons a l=>cases l with
  | nil=>injection h
  | cons b l=>cases l with
   | nil=>injection h
   | cons c l=>cases l with
    | nil=>injection h
    | cons d l=>cases l with
     | nil=>injection h
     | cons e l=>cases l with
      | nil=>injection h
      | cons f l=>cases l with
       | nil=>(refine aF h fun z1=>?_;clear h;subst z1);rfl
       | cons y_ y_=>injection h
theorem cJ4 {d:Data} {cd:ClassData} (h:dI2 d=some cd):d=.cls cd:=by
 cases (d) <;> (first|(injection h;done)|(refine aF h fun z1=>?_;clear h;(first | (injection z1;done) | subst z1 | cases (z1))))
 rfl
theorem bS5 {C N:Addr} (X:K.In h) (e:bE7 K C=some N):(∃ nm q bs sn sub col dd k0 k1 k2 k3 k5,h.get? C=some (excClassObj nm q C N bs [.type "object"] true sn sub false col dd k0 k1 k2 k3 k5 "object.__new__")) /\ nsOkIn K N=true:=by
 refine hide fun G_ g_=>?_
 rcases Option.bind_eq_some_iff.mp e with ⟨o,ho,e⟩
 rcases Option.bind_eq_some_iff.mp e with ⟨cd,hd,e⟩
 rcases Option.bind_eq_some_iff.mp e with ⟨q,hq,e⟩
 replace hd:=cJ4 hd
 replace hq:=dC5 hq
 rcases o with ⟨oc,dd,od,sl⟩
 rcases q with ⟨k0,k1,k2,k3,k4,k5⟩
 dsimp only at hd hq e
 by_cases hc:(oc == .type "type"&&cd.mro == [.ref C,.type "object"]&&k4 == some (.builtin "object.__new__")&&!cd.hasDel&&cd.hasDict&&!cd.abstract&&nsOkIn K cd.ns)=true
 ·rw [if_pos hc] at e
  (refine aF e fun z1=>?_;clear e;subst z1)
  simp only [Bool.and_eq_true,beq_iff_eq,Bool.not_eq_true'] at hc
  rcases hc with ⟨⟨⟨⟨⟨⟨rfl,hm⟩,rfl⟩,hdel⟩,hdict⟩,hab⟩,hok⟩
  rcases cd with ⟨nm,bs,mro,ns,qn,hd',sn,sub,ab,col,del⟩
  dsimp only at hm hdel hdict hab hok
  subst hm hdel hdict hab hd
  have hsl:sl=#[k0,k1,k2,k3,some (.builtin "object.__new__"),k5]:=by
   rcases sl with ⟨l⟩
   have hq:l=_:=hq
   rw [hq]
  subst hsl
  exact g_ ⟨⟨nm,qn,bs,sn,sub,col,dd,k0,k1,k2,k3,k5,X _ _ ho⟩,hok⟩
 ·rw [if_neg hc] at e;injection e
theorem dE2 {N:Addr} {mN:Str->Option Value} {x:Str} {v:Value} (X:K.In h) (G:h.Ns N mN) (e:nsIn K N x=some (some v)):mN x=some v:=by
 refine hide fun G_ g_=>?_;rcases G with ⟨ob,es,ep,ho,hd,y_,hf⟩;refine g_ ?_;clear g_ G_
 rw [<- hf x]
 cases q:K.lookup N with
 | none=>unfold nsIn at e;rw [q] at e;injection e
 | some o2=>
  have z:=(X _ _ q).symm.trans ho
  (refine aF z fun z1=>?_;clear z;subst z1)
  rcases o2 with ⟨o1,o5,o3,o4⟩
  have hd:o3=_:=hd
  subst hd
  unfold nsIn at e
  rw [q] at e
  have e:(match es.toList.find? (·.key.isStr x) with | some en=>some (some en.val) | none=>if es.toList.any (·.refKey) then none else some none)=some (some v):=e
  unfold nsFind findBy
  rw [<- Array.find?_toList]
  cases he:es.toList.find? (·.key.isStr x) with
  | none=>
   rw [he] at e
   have e:(if es.toList.any (·.refKey) then none else some none)=some (some v):=e
   by_cases w:es.toList.any (·.refKey)=true
   ·rw [if_pos w] at e;injection e
   ·rw [if_neg w] at e;injection e
  | some en=>
   rw [he] at e
   have e:some (some en.val)=some (some v):=e
   injection e
theorem dE8 {x:Str} (e:fastLookup "object" x=some none):typeLookup (.type "object") x=Pure.pure none:=by
 rw [typeLookup_type,builtinLookup_eq_fast,e]
theorem aR3 {N:Addr} {D:ClsD}:∀ {xs:List Str} {j i:Nat} {x:Str},aG0 P N D j xs=true->xs[i]?=some x->nsIn P.K N x=some ((D.meths.lookup (j+i)).map fun k=>.ref (P.fa k)) /\ fastLookup "object" x=some none
 | [],_,_,_,_,e=>by simp at e
 | y::ys,j,i,x,h,e=>by
  rcases aB (b:=aG0 P N D (j+1) ys) h with ⟨h,h3⟩
  have h2:=(aB h).2
  have h1:=(aB h).1
  cases i with
  | zero=>
   have q:y=x:=by simpa using e
   subst q
   refine ⟨beq_iff_eq.mp h1,?_⟩
   split at h2
   ·assumption
   ·injection h2
  | succ i=>
   have:=aR3 (i:=i) h3 (by simpa using e)
   rw [show j+(i+1)=j+1+i by lia]
   exact this
theorem dI1 (X:Fx W P A fs n F) {c:Nat} (h:cF2 P c=true):∃ D N mN k0,ClsOk W c D N mN /\ D.init=some k0 /\ k0 < P.S.fns.length /\ keepIn P.K (.ref (W.ca c))=true /\ makesIn P.K (W.ca c)=true /\ findIn P.K (.ref (W.ca c)) "__init__"=some (some (.ref (W.fa k0))) /\ typeIn P.K (.ref (W.fa k0))=some (.type "function"):=by
 refine hide fun G_ g_=>?_
 unfold cF2 at h
 cases hD:P.S.cls[c]? with
 | none=>rw [hD] at h;exact aE h
 | some D=>
  rw [hD] at h
  dsimp only at h
  have h8:=(aB h).2
  have h:=(aB h).1
  have h7:=(aB h).2
  have h:=(aB h).1
  have h6:=(aB h).2
  have h:=(aB h).1
  have h5:=(aB h).2
  have h:=(aB h).1
  have h4:=(aB h).2
  have h:=(aB h).1
  have h3:=(aB h).2
  have h:=(aB h).1
  have h2:=(aB h).2
  have h1:=(aB h).1
  cases hi:D.init with
  | none=>rw [hi] at h2;exact aE h2
  | some k0=>
   rw [hi] at h2
   dsimp only at h2
   have t3:=(aB h2).2
   have h2:=(aB h2).1
   have t2:=(aB h2).2
   have t1:=(aB h2).1
   cases hN:bE7 P.K (P.ca c) with
   | none=>rw [hN] at h5;exact aE h5
   | some N=>
    rw [hN] at h5
    dsimp only at h5
    have g4:=(aB h5).2
    have h5:=(aB h5).1
    have g3:=(aB h5).2
    have h5:=(aB h5).1
    have g2:=(aB h5).2
    have g1:=(aB h5).1
    rcases bS5 X.gl.X hN with ⟨ob,hok⟩
    have ns:W.base.Ns N (W.base.nsMap N):=.of_isNs (isNs_of_in X.gl.X hok)
    have nd:P.S.attrs.Nodup:=eA h6
    refine g_ ⟨D,N,_,k0,⟨X.S▸hD,(Bool.not_eq_true' _).mp h1,X.ca▸ob,ns,ns_none_of X.gl.X ns (beq_iff_eq.mp g1),ns_none_of X.gl.X ns (beq_iff_eq.mp g2),ns_none_of X.gl.X ns (beq_iff_eq.mp g3),?_,?_,?_,X.S▸eA h7,?_⟩,hi,eA t1,X.ca▸h3,X.ca▸h4,X.ca▸X.fa▸beq_iff_eq.mp t2,X.fa▸beq_iff_eq.mp t3⟩
    ·intro i x e
     rw [X.S] at e
     rcases aR3 g4 e with ⟨q,y_⟩
     rw [Nat.zero_add] at q
     rw [X.fa]
     cases hl:D.meths.lookup i with
     | none=>rw [hl] at q;exact ns_none_of X.gl.X ns q
     | some k=>rw [hl] at q;exact dE2 X.gl.X ns q
    ·intro i x e
     rw [X.S] at e
     exact dE8 (aR3 g4 e).2
    ·intro i j x e1 e2
     rw [X.S] at e1 e2
     have l1:=(List.getElem?_eq_some_iff.mp e1).1
     exact (List.getElem?_inj l1 nd).mp (e1.trans e2.symm)
    ·intro i k e
     rw [X.S]
     have:∀ (l:List (Nat×Nat)),(l.all fun q=>decide (q.2 < P.S.fns.length))=true->l.lookup i=some k->k < P.S.fns.length:=by
      intro l
      induction l with
      | nil=>intro _ q;injection q
      | cons a l ih=>
       intro ha q
       rw [List.all_cons] at ha
       have a2:=(aB ha).2
       have a1:=(aB ha).1
       rcases a with ⟨a0,a3⟩
       rw [List.lookup_cons] at q
       cases z:i == a0 with
       | true=>rw [z] at q;(refine aF q fun z1=>?_;clear q;subst z1);exact eA a1
       | false=>rw [z] at q;exact ih a2 q
     exact this _ h8 e
theorem cO1 {k:Nat} {x:Str} (h:bV8 P k x=true):P.S.attrs[k]?=some x:=by
 unfold bV8 at h
 cases q:P.S.attrs[k]? with
 | none=>rw [q] at h;exact aE h
 | some y=>rw [q] at h;rw [beq_iff_eq.mp h]
theorem cM9 {k:Nat} {x:Str} (h:cV5 P k x=true):P.S.attrs[k]?=some x /\ ∀ (c:Nat) (D:ClsD),P.S.cls[c]?=some D->D.meths.lookup k=none:=by
 have h2:=(aB h).2
 have h1:=(aB h).1
 exact ⟨cO1 h1,fun c D e=>Option.isNone_iff_eq_none.mp (List.all_eq_true.mp h2 D (List.mem_of_getElem? e))⟩
end
end Mini.Internal
namespace Mini.Internal
open PySem PySem.W PyProof.Rows
section
variable {W:Wd} {P:Px} {fs:List Env} {A:Around} {n:Nat} {F:Fns}
theorem cX3 {vis:List (Option Str)} {env:Env} {x y:Str} {a:Expr} {pos px py:Pos} {t:Ty} {tv:Value} {ca:Lo->Mn V} {K:Frag} (gl:Gl W K) (e1:nsIn K mainGlobals x=some none) (b1:bootBuiltins x=some (.builtin "isinstance")) (n1:(x == ("__name__":Str))=false) (k1:env.kindOf x=some .globalImplicit) (d1:(x == ("__debug__":Str))=false)
  (hy:∀ {s:Shared} {io:Io} {m:MH} {r:Lo} {Q:Value->Shared->Prop} {E:Value->Shared->Prop},Sit W fs env vis s io m r->Q tv s->wpAny (model W.prog W.w) A (eval (.Name y py) env) Q E s)
  (hsim:∀ {s:Shared} {io:Io} {m:MH} {v:V} {u:Value},HR W s.heap io m->VR W s.heap io v u->Si W [] A fs BV (call (.builtin "isinstance") [u,tv]) s io m (eB W.S v t m)) (hs:bE [a]=true) (ha:SiE W A fs env vis (eval a env) ca) :
  SiE W A fs env vis (eval (.Call (.Name x px) [a,.Name y py] [] pos) env) (fun r=>bnd (ca r) fun v=>bnd (eB W.S v t) fun b=>ret (.bool b)):=by
 intro s io m r Z hne
 dsimp only at hne ⊢
 have hs':bE [a,.Name y py]=true:=by cases (a) <;> first | rfl | exact absurd hs Bool.false_ne_true
 refine wpAny_Call_NameR (aM8 gl Z e1 b1 n1 k1 d1 (Calls.callWith_builtin (eE hs') (eR hs' ?_)))
 refine PyProof.Rows.spliced_more ?_ (fG hs')
 refine wpAny_mono (ha s io m r Z (Res.bind_ne hne)) (fun u s₁ q=>?_) fun y_ y_ q=>q.bind .refl (.refl _)
 rcases q with ⟨v,m₁,io₁,e,st,H,k,sm⟩
 have ee:∀ f:V->Mn V,bnd (ca r) f m=f v m₁:=fun f=>by show (ca r m).bind _=_;rw [e];rfl
 rw [ee] at hne ⊢
 refine PyProof.Rows.spliced_more (hy (Z.step H st) ?_) rfl
 refine PyProof.Rows.spliced_none ?_
 show wpAny (model W.prog W.w) A (call (.builtin "isinstance") [u,tv]) _ _ s₁
 refine wpAny_mono (hsim H k (Res.bind_ne hne)) (fun w s₂ q=>?_) fun y_ y_ q=>(q.mono st sm).bind .refl (.refl _)
 rcases q with ⟨b,m₂,io₂,e',st2,H2,k2',sm2⟩
 subst k2'
 exact ⟨.bool b,m₂,io₂,by show (eB W.S v t m₁).bind _=_;rw [e'];rfl,st.trans st2,H2,.bool b,sm.trans sm2⟩
theorem ty_of {t:Ty} (h:(!(dZ t == ""))=true):∀ c,t≠.cls c:=fun c e=>by subst e;exact absurd h Bool.false_ne_true
theorem aA {α:Type} {a:α} {C:Prop} (h:(none:Option α)=some a):C:=by injection h
theorem cT6 {α:Type} {a:α} {l:List α} {C:Prop} (h:[]=a::l):C:=by injection h
theorem bT3 {n:Nat} {C:Prop} (h:0=n+1):C:=by injection h
theorem aJ {α:Type} {o:Option α} {f:α->Bool} {G:Prop} (h:o.any f=true) (k:∀ a,o=some a->f a=true->G):G:=by
 cases o with
 | none=>exact aE h
 | some a=>exact k a rfl h
noncomputable def cA0 (c:Const) (e:Expr):Prop:=∃ k pos,e=.Constant c k pos
theorem bI9 {e:Expr} {c:Const} (h:aR8 e=some c):cA0 c e:=
 Expr.casesOn (motive_1:=fun e=>aR8 e=some c->cA0 c e) e (fun y_ y_ y_=>aA) (fun y_ y_ y_=>aA) (fun y_ y_ y_ y_=>aA) (fun y_ y_ y_=>aA) (fun y_ y_ y_ y_=>aA) (fun y_ y_ y_ y_=>aA) (fun y_ y_ y_=>aA) (fun y_ y_ y_=>aA) (fun y_ y_ y_ y_=>aA) (fun y_ y_ y_ y_=>aA) (fun y_ y_ y_ y_ y_=>aA) (fun y_ y_ y_ y_=>aA) (fun y_ y_=>aA) (fun y_ y_=>aA) (fun y_ y_=>aA) (fun y_ y_ y_ y_=>aA) (fun y_ y_ y_ y_=>aA) (fun y_ y_ y_ y_=>aA) (fun y_ y_=>aA) (fun y_ y_ y_ h=>by (refine aF h fun z1=>?_;clear h;subst z1);exact ⟨_,_,rfl⟩) (fun y_ y_ y_=>aA) (fun y_ y_ y_=>aA) (fun y_ y_=>aA) (fun y_ y_=>aA) (fun y_ y_=>aA) (fun y_ y_ y_=>aA) (fun y_ y_ y_ y_=>aA) h
theorem bO0 {e:Expr} {c:Const} (h:aR8 e=some c):∃ k pos,e=.Constant c k pos:=bI9 h
noncomputable def cO6 (c:Str×Pos) (e:Expr):Prop:=e=.Name c.1 c.2
theorem bN2 {e:Expr} {c:Str×Pos} (h:bV e=some c):cO6 c e:=
 Expr.casesOn (motive_1:=fun e=>bV e=some c->cO6 c e) e (fun y_ y_ y_=>aA) (fun y_ y_ y_=>aA) (fun y_ y_ y_ y_=>aA) (fun y_ y_ y_=>aA) (fun y_ y_ y_ y_=>aA) (fun y_ y_ y_ y_=>aA) (fun y_ y_ y_=>aA) (fun y_ y_ y_=>aA) (fun y_ y_ y_ y_=>aA) (fun y_ y_ y_ y_=>aA) (fun y_ y_ y_ y_ y_=>aA) (fun y_ y_ y_ y_=>aA) (fun y_ y_=>aA) (fun y_ y_=>aA) (fun y_ y_=>aA) (fun y_ y_ y_ y_=>aA) (fun y_ y_ y_ y_=>aA) (fun y_ y_ y_ y_=>aA) (fun y_ y_=>aA) (fun y_ y_ y_=>aA) (fun y_ y_ y_=>aA) (fun y_ y_ y_=>aA) (fun y_ y_=>aA) (fun y_ y_ h=>by (refine aF h fun z1=>?_;clear h;subst z1);rfl) (fun y_ y_=>aA) (fun y_ y_ y_=>aA) (fun y_ y_ y_ y_=>aA) h
theorem cA {e:Expr} {c:Str×Pos} (h:bV e=some c):e=.Name c.1 c.2:=bN2 h
noncomputable def dK6 (c:Expr×Operator×Expr) (e:Expr):Prop:=∃ pos,e=.BinOp c.1 c.2.1 c.2.2 pos
theorem cC7 {e:Expr} {c:Expr×Operator×Expr} (h:dB3 e=some c):dK6 c e:=
 Expr.casesOn (motive_1:=fun e=>dB3 e=some c->dK6 c e) e (fun y_ y_ y_=>aA) (fun y_ y_ y_=>aA) (fun y_ y_ y_ y_ h=>by (refine aF h fun z1=>?_;clear h;subst z1);exact ⟨_,rfl⟩) (fun y_ y_ y_=>aA) (fun y_ y_ y_ y_=>aA) (fun y_ y_ y_ y_=>aA) (fun y_ y_ y_=>aA) (fun y_ y_ y_=>aA) (fun y_ y_ y_ y_=>aA) (fun y_ y_ y_ y_=>aA) (fun y_ y_ y_ y_ y_=>aA) (fun y_ y_ y_ y_=>aA) (fun y_ y_=>aA) (fun y_ y_=>aA) (fun y_ y_=>aA) (fun y_ y_ y_ y_=>aA) (fun y_ y_ y_ y_=>aA) (fun y_ y_ y_ y_=>aA) (fun y_ y_=>aA) (fun y_ y_ y_=>aA) (fun y_ y_ y_=>aA) (fun y_ y_ y_=>aA) (fun y_ y_=>aA) (fun y_ y_=>aA) (fun y_ y_=>aA) (fun y_ y_ y_=>aA) (fun y_ y_ y_ y_=>aA) h
theorem cQ4 {e:Expr} {c:Expr×Operator×Expr} (h:dB3 e=some c):∃ pos,e=.BinOp c.1 c.2.1 c.2.2 pos:=cC7 h
noncomputable def IsUn (c:UnaryOp×Expr) (e:Expr):Prop:=∃ pos,e=.UnaryOp c.1 c.2 pos
theorem cP7 {e:Expr} {c:UnaryOp×Expr} (h:vUn e=some c):IsUn c e:=
 Expr.casesOn (motive_1:=fun e=>vUn e=some c->IsUn c e) e (fun y_ y_ y_=>aA) (fun y_ y_ y_=>aA) (fun y_ y_ y_ y_=>aA) (fun y_ y_ y_ h=>by (refine aF h fun z1=>?_;clear h;subst z1);exact ⟨_,rfl⟩) (fun y_ y_ y_ y_=>aA) (fun y_ y_ y_ y_=>aA) (fun y_ y_ y_=>aA) (fun y_ y_ y_=>aA) (fun y_ y_ y_ y_=>aA) (fun y_ y_ y_ y_=>aA) (fun y_ y_ y_ y_ y_=>aA) (fun y_ y_ y_ y_=>aA) (fun y_ y_=>aA) (fun y_ y_=>aA) (fun y_ y_=>aA) (fun y_ y_ y_ y_=>aA) (fun y_ y_ y_ y_=>aA) (fun y_ y_ y_ y_=>aA) (fun y_ y_=>aA) (fun y_ y_ y_=>aA) (fun y_ y_ y_=>aA) (fun y_ y_ y_=>aA) (fun y_ y_=>aA) (fun y_ y_=>aA) (fun y_ y_=>aA) (fun y_ y_ y_=>aA) (fun y_ y_ y_ y_=>aA) h
theorem bM8 {e:Expr} {c:UnaryOp×Expr} (h:vUn e=some c):∃ pos,e=.UnaryOp c.1 c.2 pos:=cP7 h
noncomputable def cP1 (c:BoolOp×List Expr) (e:Expr):Prop:=∃ pos,e=.BoolOp c.1 c.2 pos
theorem bO4 {e:Expr} {c:BoolOp×List Expr} (h:aY2 e=some c):cP1 c e:=
 Expr.casesOn (motive_1:=fun e=>aY2 e=some c->cP1 c e) e (fun y_ y_ y_ h=>by (refine aF h fun z1=>?_;clear h;subst z1);exact ⟨_,rfl⟩) (fun y_ y_ y_=>aA) (fun y_ y_ y_ y_=>aA) (fun y_ y_ y_=>aA) (fun y_ y_ y_ y_=>aA) (fun y_ y_ y_ y_=>aA) (fun y_ y_ y_=>aA) (fun y_ y_ y_=>aA) (fun y_ y_ y_ y_=>aA) (fun y_ y_ y_ y_=>aA) (fun y_ y_ y_ y_ y_=>aA) (fun y_ y_ y_ y_=>aA) (fun y_ y_=>aA) (fun y_ y_=>aA) (fun y_ y_=>aA) (fun y_ y_ y_ y_=>aA) (fun y_ y_ y_ y_=>aA) (fun y_ y_ y_ y_=>aA) (fun y_ y_=>aA) (fun y_ y_ y_=>aA) (fun y_ y_ y_=>aA) (fun y_ y_ y_=>aA) (fun y_ y_=>aA) (fun y_ y_=>aA) (fun y_ y_=>aA) (fun y_ y_ y_=>aA) (fun y_ y_ y_ y_=>aA) h
theorem bD2 {e:Expr} {c:BoolOp×List Expr} (h:aY2 e=some c):∃ pos,e=.BoolOp c.1 c.2 pos:=bO4 h
noncomputable def dK5 (c:Expr×List CmpOp×List Expr) (e:Expr):Prop:=∃ pos,e=.Compare c.1 c.2.1 c.2.2 pos
theorem cC6 {e:Expr} {c:Expr×List CmpOp×List Expr} (h:cK8 e=some c):dK5 c e:=
 Expr.casesOn (motive_1:=fun e=>cK8 e=some c->dK5 c e) e (fun y_ y_ y_=>aA) (fun y_ y_ y_=>aA) (fun y_ y_ y_ y_=>aA) (fun y_ y_ y_=>aA) (fun y_ y_ y_ y_=>aA) (fun y_ y_ y_ y_=>aA) (fun y_ y_ y_=>aA) (fun y_ y_ y_=>aA) (fun y_ y_ y_ y_=>aA) (fun y_ y_ y_ y_=>aA) (fun y_ y_ y_ y_ y_=>aA) (fun y_ y_ y_ y_=>aA) (fun y_ y_=>aA) (fun y_ y_=>aA) (fun y_ y_=>aA) (fun y_ y_ y_ y_ h=>by (refine aF h fun z1=>?_;clear h;subst z1);exact ⟨_,rfl⟩) (fun y_ y_ y_ y_=>aA) (fun y_ y_ y_ y_=>aA) (fun y_ y_=>aA) (fun y_ y_ y_=>aA) (fun y_ y_ y_=>aA) (fun y_ y_ y_=>aA) (fun y_ y_=>aA) (fun y_ y_=>aA) (fun y_ y_=>aA) (fun y_ y_ y_=>aA) (fun y_ y_ y_ y_=>aA) h
theorem bO2 {e:Expr} {c:Expr×List CmpOp×List Expr} (h:cK8 e=some c):∃ pos,e=.Compare c.1 c.2.1 c.2.2 pos:=cC6 h
noncomputable def IsIf (c:Expr×Expr×Expr) (e:Expr):Prop:=∃ pos,e=.IfExp c.1 c.2.1 c.2.2 pos
theorem cQ1 {e:Expr} {c:Expr×Expr×Expr} (h:vIf e=some c):IsIf c e:=
 Expr.casesOn (motive_1:=fun e=>vIf e=some c->IsIf c e) e (fun y_ y_ y_=>aA) (fun y_ y_ y_=>aA) (fun y_ y_ y_ y_=>aA) (fun y_ y_ y_=>aA) (fun y_ y_ y_ y_=>aA) (fun y_ y_ y_ y_ h=>by (refine aF h fun z1=>?_;clear h;subst z1);exact ⟨_,rfl⟩) (fun y_ y_ y_=>aA) (fun y_ y_ y_=>aA) (fun y_ y_ y_ y_=>aA) (fun y_ y_ y_ y_=>aA) (fun y_ y_ y_ y_ y_=>aA) (fun y_ y_ y_ y_=>aA) (fun y_ y_=>aA) (fun y_ y_=>aA) (fun y_ y_=>aA) (fun y_ y_ y_ y_=>aA) (fun y_ y_ y_ y_=>aA) (fun y_ y_ y_ y_=>aA) (fun y_ y_=>aA) (fun y_ y_ y_=>aA) (fun y_ y_ y_=>aA) (fun y_ y_ y_=>aA) (fun y_ y_=>aA) (fun y_ y_=>aA) (fun y_ y_=>aA) (fun y_ y_ y_=>aA) (fun y_ y_ y_ y_=>aA) h
theorem dB1 {e:Expr} {c:Expr×Expr×Expr} (h:vIf e=some c):∃ pos,e=.IfExp c.1 c.2.1 c.2.2 pos:=cQ1 h
noncomputable def dJ7 (c:List Expr) (e:Expr):Prop:=∃ k pos,e=.Tuple c k pos
theorem cB0 {e:Expr} {c:List Expr} (h:bD0 e=some c):dJ7 c e:=
 Expr.casesOn (motive_1:=fun e=>bD0 e=some c->dJ7 c e) e (fun y_ y_ y_=>aA) (fun y_ y_ y_=>aA) (fun y_ y_ y_ y_=>aA) (fun y_ y_ y_=>aA) (fun y_ y_ y_ y_=>aA) (fun y_ y_ y_ y_=>aA) (fun y_ y_ y_=>aA) (fun y_ y_ y_=>aA) (fun y_ y_ y_ y_=>aA) (fun y_ y_ y_ y_=>aA) (fun y_ y_ y_ y_ y_=>aA) (fun y_ y_ y_ y_=>aA) (fun y_ y_=>aA) (fun y_ y_=>aA) (fun y_ y_=>aA) (fun y_ y_ y_ y_=>aA) (fun y_ y_ y_ y_=>aA) (fun y_ y_ y_ y_=>aA) (fun y_ y_=>aA) (fun y_ y_ y_=>aA) (fun y_ y_ y_=>aA) (fun y_ y_ y_=>aA) (fun y_ y_=>aA) (fun y_ y_=>aA) (fun y_ y_=>aA) (fun y_ y_ y_ h=>by (refine aF h fun z1=>?_;clear h;subst z1);exact ⟨_,_,rfl⟩) (fun y_ y_ y_ y_=>aA) h
theorem aO2 {e:Expr} {c:List Expr} (h:bD0 e=some c):∃ k pos,e=.Tuple c k pos:=cB0 h
noncomputable def IsList (c:List Expr) (e:Expr):Prop:=∃ pos,e=.List c pos
theorem bN3 {e:Expr} {c:List Expr} (h:bN4 e=some c):IsList c e:=
 Expr.casesOn (motive_1:=fun e=>bN4 e=some c->IsList c e) e (fun y_ y_ y_=>aA) (fun y_ y_ y_=>aA) (fun y_ y_ y_ y_=>aA) (fun y_ y_ y_=>aA) (fun y_ y_ y_ y_=>aA) (fun y_ y_ y_ y_=>aA) (fun y_ y_ y_=>aA) (fun y_ y_ y_=>aA) (fun y_ y_ y_ y_=>aA) (fun y_ y_ y_ y_=>aA) (fun y_ y_ y_ y_ y_=>aA) (fun y_ y_ y_ y_=>aA) (fun y_ y_=>aA) (fun y_ y_=>aA) (fun y_ y_=>aA) (fun y_ y_ y_ y_=>aA) (fun y_ y_ y_ y_=>aA) (fun y_ y_ y_ y_=>aA) (fun y_ y_=>aA) (fun y_ y_ y_=>aA) (fun y_ y_ y_=>aA) (fun y_ y_ y_=>aA) (fun y_ y_=>aA) (fun y_ y_=>aA) (fun y_ y_ h=>by (refine aF h fun z1=>?_;clear h;subst z1);exact ⟨_,rfl⟩) (fun y_ y_ y_=>aA) (fun y_ y_ y_ y_=>aA) h
theorem cB7 {e:Expr} {c:List Expr} (h:bN4 e=some c):∃ pos,e=.List c pos:=bN3 h
noncomputable def cO7 (c:List (Option Expr)×List Expr) (e:Expr):Prop:=∃ pos,e=.Dict c.1 c.2 pos
theorem bN7 {e:Expr} {c:List (Option Expr)×List Expr} (h:bN8 e=some c):cO7 c e:=
 Expr.casesOn (motive_1:=fun e=>bN8 e=some c->cO7 c e) e (fun y_ y_ y_=>aA) (fun y_ y_ y_=>aA) (fun y_ y_ y_ y_=>aA) (fun y_ y_ y_=>aA) (fun y_ y_ y_ y_=>aA) (fun y_ y_ y_ y_=>aA) (fun y_ y_ y_ h=>by (refine aF h fun z1=>?_;clear h;subst z1);exact ⟨_,rfl⟩) (fun y_ y_ y_=>aA) (fun y_ y_ y_ y_=>aA) (fun y_ y_ y_ y_=>aA) (fun y_ y_ y_ y_ y_=>aA) (fun y_ y_ y_ y_=>aA) (fun y_ y_=>aA) (fun y_ y_=>aA) (fun y_ y_=>aA) (fun y_ y_ y_ y_=>aA) (fun y_ y_ y_ y_=>aA) (fun y_ y_ y_ y_=>aA) (fun y_ y_=>aA) (fun y_ y_ y_=>aA) (fun y_ y_ y_=>aA) (fun y_ y_ y_=>aA) (fun y_ y_=>aA) (fun y_ y_=>aA) (fun y_ y_=>aA) (fun y_ y_ y_=>aA) (fun y_ y_ y_ y_=>aA) h
theorem cC2 {e:Expr} {c:List (Option Expr)×List Expr} (h:bN8 e=some c):∃ pos,e=.Dict c.1 c.2 pos:=bN7 h
noncomputable def dJ9 (c:Expr×Expr) (e:Expr):Prop:=∃ pos,e=.Subscript c.1 c.2 pos
theorem cB1 {e:Expr} {c:Expr×Expr} (h:cB2 e=some c):dJ9 c e:=
 Expr.casesOn (motive_1:=fun e=>cB2 e=some c->dJ9 c e) e (fun y_ y_ y_=>aA) (fun y_ y_ y_=>aA) (fun y_ y_ y_ y_=>aA) (fun y_ y_ y_=>aA) (fun y_ y_ y_ y_=>aA) (fun y_ y_ y_ y_=>aA) (fun y_ y_ y_=>aA) (fun y_ y_ y_=>aA) (fun y_ y_ y_ y_=>aA) (fun y_ y_ y_ y_=>aA) (fun y_ y_ y_ y_ y_=>aA) (fun y_ y_ y_ y_=>aA) (fun y_ y_=>aA) (fun y_ y_=>aA) (fun y_ y_=>aA) (fun y_ y_ y_ y_=>aA) (fun y_ y_ y_ y_=>aA) (fun y_ y_ y_ y_=>aA) (fun y_ y_=>aA) (fun y_ y_ y_=>aA) (fun y_ y_ y_=>aA) (fun y_ y_ y_ h=>by (refine aF h fun z1=>?_;clear h;subst z1);exact ⟨_,rfl⟩) (fun y_ y_=>aA) (fun y_ y_=>aA) (fun y_ y_=>aA) (fun y_ y_ y_=>aA) (fun y_ y_ y_ y_=>aA) h
theorem aY0 {e:Expr} {c:Expr×Expr} (h:cB2 e=some c):∃ pos,e=.Subscript c.1 c.2 pos:=cB1 h
noncomputable def bZ9 (c:Option Expr×Option Expr×Option Expr) (e:Expr):Prop:=∃ pos,e=.Slice c.1 c.2.1 c.2.2 pos
theorem bI8 {e:Expr} {c:Option Expr×Option Expr×Option Expr} (h:aR7 e=some c):bZ9 c e:=
 Expr.casesOn (motive_1:=fun e=>aR7 e=some c->bZ9 c e) e (fun y_ y_ y_=>aA) (fun y_ y_ y_=>aA) (fun y_ y_ y_ y_=>aA) (fun y_ y_ y_=>aA) (fun y_ y_ y_ y_=>aA) (fun y_ y_ y_ y_=>aA) (fun y_ y_ y_=>aA) (fun y_ y_ y_=>aA) (fun y_ y_ y_ y_=>aA) (fun y_ y_ y_ y_=>aA) (fun y_ y_ y_ y_ y_=>aA) (fun y_ y_ y_ y_=>aA) (fun y_ y_=>aA) (fun y_ y_=>aA) (fun y_ y_=>aA) (fun y_ y_ y_ y_=>aA) (fun y_ y_ y_ y_=>aA) (fun y_ y_ y_ y_=>aA) (fun y_ y_=>aA) (fun y_ y_ y_=>aA) (fun y_ y_ y_=>aA) (fun y_ y_ y_=>aA) (fun y_ y_=>aA) (fun y_ y_=>aA) (fun y_ y_=>aA) (fun y_ y_ y_=>aA) (fun y_ y_ y_ y_ h=>by (refine aF h fun z1=>?_;clear h;subst z1);exact ⟨_,rfl⟩) h
theorem bN0 {e:Expr} {c:Option Expr×Option Expr×Option Expr} (h:aR7 e=some c):∃ pos,e=.Slice c.1 c.2.1 c.2.2 pos:=bI8 h
noncomputable def cP0 (c:Expr×List Expr×List Keyword×Pos) (e:Expr):Prop:=e=.Call c.1 c.2.1 c.2.2.1 c.2.2.2
theorem bO3 {e:Expr} {c:Expr×List Expr×List Keyword×Pos} (h:aO5 e=some c):cP0 c e:=
 Expr.casesOn (motive_1:=fun e=>aO5 e=some c->cP0 c e) e (fun y_ y_ y_=>aA) (fun y_ y_ y_=>aA) (fun y_ y_ y_ y_=>aA) (fun y_ y_ y_=>aA) (fun y_ y_ y_ y_=>aA) (fun y_ y_ y_ y_=>aA) (fun y_ y_ y_=>aA) (fun y_ y_ y_=>aA) (fun y_ y_ y_ y_=>aA) (fun y_ y_ y_ y_=>aA) (fun y_ y_ y_ y_ y_=>aA) (fun y_ y_ y_ y_=>aA) (fun y_ y_=>aA) (fun y_ y_=>aA) (fun y_ y_=>aA) (fun y_ y_ y_ y_=>aA) (fun y_ y_ y_ y_ h=>by (refine aF h fun z1=>?_;clear h;subst z1);rfl) (fun y_ y_ y_ y_=>aA) (fun y_ y_=>aA) (fun y_ y_ y_=>aA) (fun y_ y_ y_=>aA) (fun y_ y_ y_=>aA) (fun y_ y_=>aA) (fun y_ y_=>aA) (fun y_ y_=>aA) (fun y_ y_ y_=>aA) (fun y_ y_ y_ y_=>aA) h
theorem aO4 {e:Expr} {c:Expr×List Expr×List Keyword×Pos} (h:aO5 e=some c):e=.Call c.1 c.2.1 c.2.2.1 c.2.2.2:=bO3 h
noncomputable def cP2 (c:Expr×Str×Pos) (e:Expr):Prop:=e=.Attribute c.1 c.2.1 c.2.2
theorem bO5 {e:Expr} {c:Expr×Str×Pos} (h:aG5 e=some c):cP2 c e:=
 Expr.casesOn (motive_1:=fun e=>aG5 e=some c->cP2 c e) e (fun y_ y_ y_=>aA) (fun y_ y_ y_=>aA) (fun y_ y_ y_ y_=>aA) (fun y_ y_ y_=>aA) (fun y_ y_ y_ y_=>aA) (fun y_ y_ y_ y_=>aA) (fun y_ y_ y_=>aA) (fun y_ y_ y_=>aA) (fun y_ y_ y_ y_=>aA) (fun y_ y_ y_ y_=>aA) (fun y_ y_ y_ y_ y_=>aA) (fun y_ y_ y_ y_=>aA) (fun y_ y_=>aA) (fun y_ y_=>aA) (fun y_ y_=>aA) (fun y_ y_ y_ y_=>aA) (fun y_ y_ y_ y_=>aA) (fun y_ y_ y_ y_=>aA) (fun y_ y_=>aA) (fun y_ y_ y_=>aA) (fun y_ y_ y_ h=>by (refine aF h fun z1=>?_;clear h;subst z1);rfl) (fun y_ y_ y_=>aA) (fun y_ y_=>aA) (fun y_ y_=>aA) (fun y_ y_=>aA) (fun y_ y_ y_=>aA) (fun y_ y_ y_ y_=>aA) h
theorem aE9 {e:Expr} {c:Expr×Str×Pos} (h:aG5 e=some c):e=.Attribute c.1 c.2.1 c.2.2:=bO5 h
noncomputable def cO9 (c:Expr×List Comprehension×Scope) (e:Expr):Prop:=∃ pos,e=.ListComp c.1 c.2.1 c.2.2 pos
theorem bO1 {e:Expr} {c:Expr×List Comprehension×Scope} (h:aR9 e=some c):cO9 c e:=
 Expr.casesOn (motive_1:=fun e=>aR9 e=some c->cO9 c e) e (fun y_ y_ y_=>aA) (fun y_ y_ y_=>aA) (fun y_ y_ y_ y_=>aA) (fun y_ y_ y_=>aA) (fun y_ y_ y_ y_=>aA) (fun y_ y_ y_ y_=>aA) (fun y_ y_ y_=>aA) (fun y_ y_ y_=>aA) (fun y_ y_ y_ y_ h=>by (refine aF h fun z1=>?_;clear h;subst z1);exact ⟨_,rfl⟩) (fun y_ y_ y_ y_=>aA) (fun y_ y_ y_ y_ y_=>aA) (fun y_ y_ y_ y_=>aA) (fun y_ y_=>aA) (fun y_ y_=>aA) (fun y_ y_=>aA) (fun y_ y_ y_ y_=>aA) (fun y_ y_ y_ y_=>aA) (fun y_ y_ y_ y_=>aA) (fun y_ y_=>aA) (fun y_ y_ y_=>aA) (fun y_ y_ y_=>aA) (fun y_ y_ y_=>aA) (fun y_ y_=>aA) (fun y_ y_=>aA) (fun y_ y_=>aA) (fun y_ y_ y_=>aA) (fun y_ y_ y_ y_=>aA) h
theorem bD1 {e:Expr} {c:Expr×List Comprehension×Scope} (h:aR9 e=some c):∃ pos,e=.ListComp c.1 c.2.1 c.2.2 pos:=bO1 h
theorem aO3 {α:Type} {l:List α} {x:α} (h:cK7 l=some x):l=[x]:=by
 cases l with
 | nil=>exact aA h
 | cons y l=>cases l with
  | nil=>(refine aF h fun z1=>?_;clear h;subst z1);rfl
  | cons y_ y_=>exact aA h
theorem bM9 {α:Type} {l:List α} {x:α×α} (h:cP8 l=some x):l=[x.1,x.2]:=by
 cases l with
 | nil=>exact aA h
 | cons y l=>cases l with
  | nil=>exact aA h
  | cons z l=>cases l with
   | nil=>(refine aF h fun z1=>?_;clear h;subst z1);rfl
   | cons y_ y_=>exact aA h
theorem dY {e:Expr} {c:Str×List Expr} (h:dL e=some c):∃ p pos,e=.Call (.Name c.1 p) c.2 [] pos:=by
 unfold dL at h
 cases q:aO5 e with
 | none=>rw [q] at h;exact aA h
 | some a=>
  rw [q] at h
  have h':(if a.2.2.1.isEmpty then (bV a.1).map fun x=>(x.1,a.2.1) else none)=some c:=h
  by_cases k:a.2.2.1.isEmpty=true
  ·rw [if_pos k] at h'
   cases r:bV a.1 with
   | none=>rw [r] at h';exact aA h'
   | some x=>
    rw [r] at h'
    (refine aF h' fun z1=>?_;clear h';subst z1)
    refine ⟨x.2,a.2.2.2,?_⟩
    rw [aO4 q,cA r,List.isEmpty_iff.mp k]
  ·rw [if_neg k] at h';exact aA h'
theorem cH2 {op:UnaryOp} (h:dG0 op=true):op=.USub:=by cases (op) <;> first | rfl | (exact aE h)
theorem bG3 {op:UnaryOp} (h:cH1 op=true):op=.Not:=by cases (op) <;> first | rfl | (exact aE h)
theorem aC6 {α:Type} {l:List α} (h:(!l.isEmpty)=true):l≠[]:=by intro q;rw [q] at h;exact aE h
theorem eU {α:Type} {l:List α} (h:l.isEmpty=true):l=[]:=List.isEmpty_iff.mp h
theorem aP8 {Γ:Cx} {es:List Expr} (h:mEs P Γ [] es=true):es=[]:=eU h
theorem cM {Γ:Cx} {c:CE} {cs:List CE} {es:List Expr} (h:mEs P Γ (c::cs) es=true):∃ e es',es=e::es' /\ mE P Γ c e=true /\ mEs P Γ cs es'=true:=by
 cases es with
 | nil=>exact aE h
 | cons e es=>have:=aB (a:=mE P Γ c e) (b:=mEs P Γ cs es) h;exact ⟨e,es,rfl,this.1,this.2⟩
theorem bF6 {Γ:Cx} {es:List Expr} (h:cF8 P Γ [] es=true):es=[]:=eU h
theorem aT9 {Γ:Cx} {c:CB} {cs:List CB} {es:List Expr} (h:cF8 P Γ (c::cs) es=true):∃ e es',es=e::es' /\ mB P Γ c e=true /\ cF8 P Γ cs es'=true:=by
 cases es with
 | nil=>exact aE h
 | cons e es=>have:=aB (a:=mB P Γ c e) (b:=cF8 P Γ cs es) h;exact ⟨e,es,rfl,this.1,this.2⟩
theorem aM0 {Γ:Cx} {env:Env} {k:IK} {iter:Expr} {src:List CE} (X:Fx W P A fs n F) (hsc:env.scope=Γ.sc) (h:mSrc P Γ (fun es=>mEs P Γ src es) k iter=true)
  (one:∀ e c,src=[c]->mE P Γ c e=true->SiE W A fs env Γ.vis (eval e env) (fun r=>ev P.S F c r))
  (all:∀ es pos,bE es=true->mEs P Γ src es=true->SiL W A fs env Γ.vis (spliced (backTo pos (starEach es env))) (fun r=>evs P.S F src r)) :
  SiSrc W A fs env Γ.vis iter (fun r=>bnd (evs P.S F src r) (aB1 k)):=by
 rcases aB h with ⟨hl,h⟩
 have hh:=X.hh hl
 cases k with
 | expr=>
  have h1:mEs P Γ src [iter]=true:=h
  cases src with
  | nil=>exact aE h1
  | cons c cs=>
   rcases cM h1 with ⟨e,es',he,hm,hr⟩
   cases (he)
   cases cs with
   | cons c' cs=>exact aE hr
   | nil=>
    have:=cD5 X.gl.ok hh (one _ c rfl hm)
    intro s io m r Z
    have eq:bnd (evs P.S F [c] r) (aB1 .expr)=bnd (ev P.S F c r) eX:=by
     funext m
     show Res.bind (Res.bind (ev P.S F c r m) _) _=Res.bind (ev P.S F c r m) _
     cases ev P.S F c r m <;> rfl
    dsimp only
    rw [eq]
    exact this s io m r Z
 | range=>
  refine aJ (o:=dL iter) h fun q hq h=>?_
  rcases dY hq with ⟨px,pos,rfl⟩
  have h3:=(aB h).2
  have h12:=(aB h).1
  have h2:=(aB h12).2
  have h1:=(aB h12).1
  rcases bD3 hsc h1 with ⟨a,b,c,d,e⟩
  exact bQ2 hh X.gl d e c a b h2 (all q.2 pos h2 h3)
 | enum=>exact aE h
theorem cD7 {Γ:Cx} {env:Env} {k:IK} {i:Nat} {iter tg:Expr} {src:List CE} (X:Fx W P A fs n F) (hsc:env.scope=Γ.sc) (h:cF7 P Γ (fun es=>mEs P Γ src es) k (.one i) iter=true)
  (one:∀ e c,src=[c]->mE P Γ c e=true->SiE W A fs env Γ.vis (eval e env) (fun r=>ev P.S F c r))
  (all:∀ es pos,bE es=true->mEs P Γ src es=true->SiL W A fs env Γ.vis (spliced (backTo pos (starEach es env))) (fun r=>evs P.S F src r)) :
  bL7 W A fs env Γ.vis tg iter (fun r=>bnd (evs P.S F src r) (aB1 k)):=by
 cases k with
 | enum=>exact aE h
 | expr=>exact (aM0 X hsc (k:=.expr) h one all).forF
 | range=>exact (aM0 X hsc (k:=.range) h one all).forF
theorem bQ4 {Γ:Cx} {env:Env} {k:IK} {is:List Nat} {iter:Expr} {ts:List Expr} {x1:Nat} {tp:Pos} {src:List CE} (X:Fx W P A fs n F) (hsc:env.scope=Γ.sc) (h:cF7 P Γ (fun es=>mEs P Γ src es) k (.many is) iter=true)
  (one:∀ e c,src=[c]->mE P Γ c e=true->SiE W A fs env Γ.vis (eval e env) (fun r=>ev P.S F c r))
  (all:∀ es pos,bE es=true->mEs P Γ src es=true->SiL W A fs env Γ.vis (spliced (backTo pos (starEach es env))) (fun r=>evs P.S F src r)) :
  bL7 W A fs env Γ.vis (.Tuple ts x1 tp) iter (fun r=>bnd (evs P.S F src r) (aB1 k)):=by
 cases k with
 | enum=>exact aE h
 | expr=>exact (aM0 X hsc (k:=.expr) h one all).forF
 | range=>exact (aM0 X hsc (k:=.range) h one all).forF
theorem bQ5 {Γ:Cx} {k:IK} {t:CT} {iter:Expr} {f:List Expr->Bool} (h:cF7 P Γ f k t iter=true):P.loud=true:=by
 cases (k) <;> first | exact aE h | exact (aB h).1
theorem cN3 {Γ:Cx} {ca:CE} {cops ops:List CmpOp} {cbs:List CE} {a:Expr} {bs:List Expr} {pos:Pos} (h:mE P Γ (.cmp ca cops cbs) (.Compare a ops bs pos)=true):cops=ops /\ mE P Γ ca a=true /\ mEs P Γ cbs bs=true /\ cops.length=cbs.length /\ cbs≠[] /\ bs.all aP6=true:=by
 have h:(decide (cops=ops)&&mE P Γ ca a&&mEs P Γ cbs bs&&decide (cops.length=cbs.length)&&!cbs.isEmpty&&bs.all aP6)=true:=h
 have h5:=(aB h).2
 have h:=(aB h).1
 have h4:=(aB h).2
 have h:=(aB h).1
 have h3:=(aB h).2
 have h:=(aB h).1
 have h2:=(aB h).2
 have h:=(aB h).1
 have h1:=(aB h).2
 have h0:=(aB h).1
 exact ⟨eA h0,h1,h2,eA h3,aC6 h4,h5⟩
theorem dB0 {Γ:Cx} {c:CE} {e:Expr} (h:mB P Γ (.val c) e=true):(aT2 e=true /\ mE P Γ c e=true) \/ ∃ a ops bs pos,e=.Compare a ops bs pos /\ mE P Γ c e=true:=by
 rcases aB (a:=aT2 e||(cK8 e).isSome) (b:=mE P Γ c e) h with ⟨h1,h2⟩
 cases q:aT2 e with
 | true=>exact .inl ⟨rfl,h2⟩
 | false=>
  rw [q] at h1
  cases r:cK8 e with
  | none=>rw [r] at h1;exact aE h1
  | some x=>rcases bO2 r with ⟨pos,he⟩;exact .inr ⟨_,_,_,_,he,h2⟩
theorem cF1 {c:CE} (h:bJ6 c=true):(fun r=>ev P.S F c r)=fun y_=>ret V.none:=by
 cases c with
 | cnst v=>cases (v) <;> first | rfl | (exact aE h)
 | _=>exact aE h
theorem o_of {Γ:Cx} {env:Env} {c:CE} {o:Option Expr} (h:o.elim (bJ6 c) (fun l=>mE P Γ c l)=true) (k:∀ l,mE P Γ c l=true->SiE W A fs env Γ.vis (eval l env) (fun r=>ev P.S F c r)):SiO W A fs env Γ.vis o (fun r=>ev P.S F c r):=by
 cases o with
 | some l=>exact dD9 (k l h)
 | none=>
  have hc:bJ6 c=true:=h
  have:(fun r=>ev P.S F c r)=fun y_=>ret V.none:=by
   exact cF1 hc
  rw [this]
  exact dE0
theorem e_loc {Γ:Cx} {env:Env} {i:Nat} {x:Str} {pos:Pos} (hsc:env.scope=Γ.sc) (h:dG1 Γ i x=true):SiE W A fs env Γ.vis (eval (.Name x pos) env) (fun r=>match r[i]? with | some (some v)=>ret v | _=>bad):=by
 have h4:=(aB h).2
 have h:=(aB h).1
 have h3:=(aB h).2
 have h:=(aB h).1
 have h2:=(aB h).2
 have h1:=(aB h).1
 refine e_var ?_ ?_ (Bool.not_eq_true' _▸h3) (Bool.not_eq_true' _▸h4)
 ·exact eq_of_beq h1
 ·show env.scope.names.lookup x=_ \/ env.scope.names.lookup x=_ \/ env.scope.names.lookup x=_
  rw [hsc]
  rcases Bool.or_eq_true_iff.mp h2 with q | q
  ·rcases Bool.or_eq_true_iff.mp q with q | q
   ·exact .inl (eq_of_beq q)
   ·exact .inr (.inl (eq_of_beq q))
  ·exact .inr (.inr (eq_of_beq q))
theorem e_bi {Γ:Cx} {env:Env} {b:Bi} {x:Str} {es:List Expr} {p pos:Pos} {cl:Lo->Mn (List V)} (X:Fx W P A fs n F) (hsc:env.scope=Γ.sc) (hl0:P.loud=true) (h1:cZ9 b=true) (h2:isBi P Γ b x=true) (h3:bE es=true)
  (hl:∀ pos,SiL W A fs env Γ.vis (spliced (backTo pos (starEach es env))) cl):SiE W A fs env Γ.vis (eval (.Call (.Name x p) es [] pos) env) (fun r=>bnd (cl r) fun vs=>biV b vs):=by
 have hf:=dI8 (W:=W) (A:=A) (fs:=fs) X.gl.ok (X.hh hl0) h1
 have h2:(match dI9 b with | .builtin id=>cH3 P Γ x id | .type id=>bA5 P Γ x id | _=>false)=true:=h2
 generalize dI9 b=fv at hf h2
 cases fv with
 | builtin id=>
  have g:=cN4 hsc (id:=id) h2
  exact cX8 X.gl g.2.2.2.1 g.2.2.2.2 g.2.2.1 g.1 g.2.1 h3 (hl _) hf
 | type id=>
  have g:=bD3 hsc (id:=id) h2
  exact cX6 X.gl g.2.2.2.1 g.2.2.2.2 g.2.2.1 g.1 g.2.1 h3 (hl _) hf
 | _=>exact aE h2
theorem dA9 {v:Value} {l:Lt} {h:Heap} {io:Io} (k:dF8 v l=true):VR W h io l.val v:=by
 cases l with
 | int i=>cases (v) <;> first | (exact aE k) | (rw [show i=_ from eq_of_beq k];exact .int _ _)
 | str x=>cases (v) <;> first | (exact aE k) | (rcases aB k with ⟨k1,k2⟩;rw [show x=_ from eq_of_beq k1] at k2 ⊢;exact .str _ _ k2)
 | bool b=>cases (v) <;> first | (exact aE k) | (rw [show b=_ from eq_of_beq k];exact .bool _)
 | none=>cases (v) <;> first | (exact aE k) | exact .none
theorem dH6 {Γ:Cx} {env:Env} {i:Nat} {x:Str} {pos:Pos} (X:Fx W P A fs n F) (hsc:env.scope=Γ.sc) (h:dG3 P Γ i x=true):SiE W A fs env Γ.vis (eval (.Name x pos) env) (fun r=>ev P.S F (.glob i) r):=by
 have h2:=(aB h).2
 have h1:=(aB h).1
 rcases aV1 hsc h1 with ⟨a,b,y_⟩
 refine aJ h2 fun o e1 h3=>?_
 refine aJ h3 fun v e2 h4=>?_
 refine aJ h4 fun p e3 h5=>?_
 rw [e2] at e1
 intro s io m r Z hne
 refine aM7 X.gl Z e1 a b ⟨p.2.val,m,io,?_,.refl,Z.H,dA9 h5,.refl _⟩
 show (match P.S.globs[i]? with | some p=>ret p.2.val | Option.none=>bad) m=_
 rw [e3];rfl
theorem bO8 {ops:List CmpOp} {c c':CE} {cs:List CE} (h:ops.length=(c::c'::cs).length):∃ op op' ops',ops=op::op'::ops':=by
 cases ops with
 | nil=>exact bT3 h
 | cons op ops=>cases ops with
  | nil=>exact bT3 (Nat.succ.inj h)
  | cons op' ops=>exact ⟨op,op',ops,rfl⟩
theorem cM8 {g:Comprehension} (h0:(g.is_async == 0)=true):g=⟨g.target,g.iter,g.ifs,0⟩:=by
 cases (g)
 rw [<- beq_iff_eq.mp h0]
theorem cN1 (X:Fx W P A fs n F) {Γ:Cx} {scope:Scope} {t:CT} {e:Expr} {x:List Str} (h:vTg P.loud Γ.vis.length t e=some x):CTg A Γ.vis (aJ8 scope x Γ.vis) t e:=by
 cases t with
 | one i=>
  have h:(if i=Γ.vis.length then (bV e).map fun x=>[x.1] else none)=some x:=h
  by_cases q:i=Γ.vis.length
  ·rw [if_pos q] at h
   cases hv:bV e with
   | none=>rw [hv] at h;injection h
   | some y=>
    rw [hv] at h
    (refine aF h fun z1=>?_;clear h;subst z1)
    rw [cA hv,q]
    exact .one _ _ _ (aB5 scope [y.1] 0 Γ.vis) (Nat.le_refl _)
  ·rw [if_neg q] at h;injection h
 | many is=>
  have h:(if P.loud=true /\ is=[Γ.vis.length,Γ.vis.length+1] then (bD0 e).bind fun es=>(cP8 es).bind fun p=>(bV p.1).bind fun x=>(bV p.2).map fun y=>[x.1,y.1] else none)=some x:=h
  by_cases q:P.loud=true /\ is=[Γ.vis.length,Γ.vis.length+1]
  ·rw [if_pos q] at h
   cases h1:bD0 e with
   | none=>rw [h1] at h;injection h
   | some es=>
    rw [h1] at h
    have h:((cP8 es).bind fun p=>(bV p.1).bind fun x=>(bV p.2).map fun y=>[x.1,y.1])=some x:=h
    cases h2:cP8 es with
    | none=>rw [h2] at h;injection h
    | some p=>
     rw [h2] at h
     have h:((bV p.1).bind fun x=>(bV p.2).map fun y=>[x.1,y.1])=some x:=h
     cases h3:bV p.1 with
     | none=>rw [h3] at h;injection h
     | some a=>
      rw [h3] at h
      have h:((bV p.2).map fun y=>[a.1,y.1])=some x:=h
      cases h4:bV p.2 with
      | none=>rw [h4] at h;injection h
      | some c=>
       rw [h4] at h
       (refine aF h fun z1=>?_;clear h;subst z1)
       rcases aO2 h1 with ⟨k,pt,rfl⟩
       rw [bM9 h2,cA h3,cA h4,q.2]
       exact .many _ _ _ _ (X.hh q.1) ⟨_,_,_,rfl,aB5 scope [a.1,c.1] 0 Γ.vis,Nat.le_refl _,_,_,_,rfl,aB5 scope [a.1,c.1] 1 Γ.vis,Nat.le_succ _,rfl⟩
  ·rw [if_neg q] at h;injection h
theorem cJ2 {Γ:Cx} {env:Env} {e0 iter:Expr} {ifs':List Expr} {scope:Scope} {tg:Expr} {t:CT} {pos:Pos} {x:List Str} {src:List CE} {k:IK} {ifs:List CB} {elt:CE} (hg:CTg A Γ.vis (aJ8 scope x Γ.vis) t tg) (ck:CompOk scope env Γ.vis (aJ8 scope x Γ.vis) x.length) (hs:∀ y,foldedSetIterable iter env y=Pure.pure y)
  (hsrc:SiSrc W A fs env Γ.vis iter (fun r=>bnd (evs P.S F src r) (aB1 k))) (hifs:∀ cl C,SiB W A fs (compEnvC scope cl C env) (aJ8 scope x Γ.vis) (f8 ifs' (compEnvC scope cl C env) true) (fun r=>bL9 P.S F ifs r))
  (helt:∀ cl C,SiE W A fs (compEnvC scope cl C env) (aJ8 scope x Γ.vis) (eval e0 (compEnvC scope cl C env)) (fun r=>ev P.S F elt r)) :
  SiE W A fs env Γ.vis (eval (.ListComp e0 [⟨tg,iter,ifs',0⟩] scope pos) env) (fun r=>ev P.S F (.comp elt t x.length k src ifs) r):=by
 have:=dH7 (pos:=pos) ck hs hg hsrc hifs helt
 intro s io m r Z
 have eq:ev P.S F (.comp elt t x.length k src ifs) r=bnd (bnd (evs P.S F src r) (aB1 k)) fun p=>bnd (bS p.2 (fF t (r++List.replicate x.length none) (fun r=>bL9 P.S F ifs r) (fun r=>ev P.S F elt r)) p.1) fun l=>if l.length <= lid then alloc (.list l) else bad:=by
  rw [bY];rfl
 dsimp only
 rw [eq]
 exact this s io m r Z
theorem cV2 (X:Fx W P A fs n F) {Γ:Cx} {env:Env} {x y:Str} {a:Expr} {pos px py:Pos} {t:Ty} {ca:Lo->Mn V} (hsc:env.scope=Γ.sc) (e1:nsIn P.K mainGlobals x=some none) (b1:bootBuiltins x=some (.builtin "isinstance")) (n1:(x == ("__name__":Str))=false) (k1:env.kindOf x=some .globalImplicit) (d1:(x == ("__debug__":Str))=false)
  (ht:isTy P Γ t y=true) (hs:bE [a]=true) (ha:SiE W A fs env Γ.vis (eval a env) ca):SiE W A fs env Γ.vis (eval (.Call (.Name x px) [a,.Name y py] [] pos) env) (fun r=>bnd (ca r) fun v=>bnd (eB P.S v t) fun b=>ret (.bool b)):=by
 rw [<- X.S]
 have plain:bA5 P Γ y (dZ t)=true->(!(dZ t == ""))=true->SiE W A fs env Γ.vis (eval (.Call (.Name x px) [a,.Name y py] [] pos) env) (fun r=>bnd (ca r) fun v=>bnd (eB W.S v t) fun b=>ret (.bool b)):=fun h2 h3=>by
  rcases bD3 hsc h2 with ⟨a2,b2,c2,d2,e2⟩
  exact cX3 X.gl e1 b1 n1 k1 d1 (fun Z q=>aM8 X.gl Z d2 e2 c2 a2 b2 q) (fun H k=>cV0 H (ty_of h3) k) hs ha
 cases t with
 | cls c=>
  have h2:=(aB ht).2
  have h1:=(aB ht).1
  have rel:∀ d x,W.S.cls[d]?=some x->x.exc=true->fL P.K (W.ca d)=true /\ kitOne P.K (.ref (W.ca d)) (clsV P c)=some (x.supers.contains c):=fun d x hd hx=>by
   rw [X.S] at hd
   have:=aD9 h2 hd
   rw [Nat.zero_add] at this
   have this:(!x.exc||(fL P.K (P.ca d)&&kitOne P.K (.ref (P.ca d)) (clsV P c) == some (x.supers.contains c)))=true:=this
   rw [hx] at this
   rcases aB (a:=fL P.K (P.ca d)) (b:=kitOne P.K (.ref (P.ca d)) (clsV P c) == some (x.supers.contains c)) this with ⟨q1,q2⟩
   rw [X.ca]
   exact ⟨q1,beq_iff_eq.mp q2⟩
  cases c with
  | zero=>
   rcases bD3 hsc (id:="ValueError") h1 with ⟨a2,b2,c2,d2,e2⟩
   exact cX3 X.gl e1 b1 n1 k1 d1 (fun Z q=>aM8 X.gl Z d2 e2 c2 a2 b2 q) (fun H k=>bV7 X.gl.X rel H k) hs ha
  | succ c=>
   rcases bE9 hsc (c:=c+1) h1 with ⟨a2,b2,e2⟩
   exact cX3 X.gl e1 b1 n1 k1 d1 (fun Z q=>aM7 X.gl Z e2 a2 b2 q) (fun H k=>bV7 X.gl.X rel H k) hs ha
 | _=>exact plain (aB ht).1 (aB ht).2
theorem cT8 (X:Fx W P A fs n F) {Γ:Cx} {env:Env} {c:Nat} {x:Str} {es:List Expr} {p pos:Pos} {cl:Lo->Mn (List V)} (hsc:env.scope=Γ.sc) (h1:P.ok.isNone=true) (h2:aU5 P Γ c x=true) (h3:cF2 P c=true) (h4:bE es=true) (hl:SiL W A fs env Γ.vis (spliced (backTo pos (starEach es env))) cl) :
  SiE W A fs env Γ.vis (eval (.Call (.Name x p) es [] pos) env) (fun r=>bnd (cl r) fun vs=>cT9 P.S F c vs):=by
 rcases dI1 X h3 with ⟨D,N,mN,k0,C,c1,c2,c3,c4,c5,c6⟩
 rcases bE9 hsc h2 with ⟨a,b,e⟩
 have:=e_new (F:=F) (p:=p) X.gl (X.ca.symm▸e) a b h4 C c1 c3 c4 c5 c6 (X.new (Option.isNone_iff_eq_none.mp h1) k0 c2) hl
 rw [X.S] at this
 exact this
theorem cF6 (X:Fx W P A fs n F) {Γ:Cx} {env:Env} {k:Nat} {o:Expr} {x:Str} {es:List Expr} {apos pos:Pos} {co:Lo->Mn V} {cl:Lo->Mn (List V)} (h1:P.ok.isNone=true) (h2:bV8 P k x=true) (h3:fI o=true) (h4:bE es=true) (h5:es.length < 29) (h6:(apos.endLine == pos.line)=true) (ho:SiE W A fs env Γ.vis (eval o env) co) (hl:SiL W A fs env Γ.vis (spliced (backTo pos (starEach es env))) cl) :
  SiE W A fs env Γ.vis (eval (.Call (.Attribute o x apos) es [] pos) env) (fun r=>bnd (co r) fun v=>bnd (fU P.S k v) fun j=>bnd (cl r) fun vs=>F j (v::vs)):=by
 have hn:=Option.isNone_iff_eq_none.mp h1
 have:=dH4 (F:=F) (apos:=apos) X.gl h3 h4 h5 h6 (X.S.symm▸cO1 h2) (fun j hj=>X.fa.symm▸X.objs hn j (X.S▸hj)) (fun j y_=>X.calls j (by unfold Px.can;rw [hn])) ho hl
 rw [X.S] at this
 exact this
mutual
theorem evE (X:Fx W P A fs n F):∀ (c:CE) (Γ:Cx) (env:Env) (e:Expr),env.scope=Γ.sc->mE P Γ c e=true->SiE W A fs env Γ.vis (eval e env) (fun r=>ev P.S F c r)
 | .cnst v,Γ,env,e,hsc,h=>by
  refine aJ (o:=aR8 e) h fun q hq h=>?_
  rcases bO0 hq with ⟨y_,y_,rfl⟩
  exact cX5 (by cases (v) <;> cases (q) <;> exact h)
 | .var i,Γ,env,e,hsc,h=>by
  refine aJ (o:=bV e) h fun q hq h=>?_
  rw [cA hq]
  exact e_loc hsc h
 | .glob i,Γ,env,e,hsc,h=>by
  refine aJ (o:=bV e) h fun q hq h=>?_
  rw [cA hq]
  exact dH6 X hsc h
 | .fnv _,_,_,_,_,h=>aE h
 | .bin op a b,Γ,env,e,hsc,h=>by
  refine aJ (o:=dB3 e) h fun q hq h=>?_
  rcases cQ4 hq with ⟨y_,rfl⟩
  have h2:=(aB h).2
  have h:=(aB h).1
  have h1:=(aB h).2
  have h0:=(aB h).1
  rw [<- eA h0]
  exact e_bin (evE X a Γ env _ hsc h1) (evE X b Γ env _ hsc h2)
 | .neg a,Γ,env,e,hsc,h=>by
  refine aJ (o:=vUn e) h fun q hq h=>?_
  rcases bM8 hq with ⟨y_,rfl⟩
  have h1:=(aB h).2
  have h0:=(aB h).1
  rw [cH2 h0]
  exact e_neg (evE X a Γ env _ hsc h1)
 | .not a,Γ,env,e,hsc,h=>by
  refine aJ (o:=vUn e) h fun q hq h=>?_
  rcases bM8 hq with ⟨y_,rfl⟩
  have h1:=(aB h).2
  have h0:=(aB h).1
  rw [bG3 h0]
  exact e_not (evE X a Γ env _ hsc h1)
 | .boolop c as,Γ,env,e,hsc,h=>by
  refine aJ (o:=aY2 e) h fun q hq h=>?_
  rcases bD2 hq with ⟨y_,rfl⟩
  have h3:=(aB h).2
  have h:=(aB h).1
  have h2:=(aB h).2
  have h1:=(aB h).1
  exact evBo X as Γ env _ _ _ _ hsc h1 h2 (aC6 h3)
 | .cmp a ops bs,Γ,env,e,hsc,h=>by
  have h0:=h
  refine aJ (o:=cK8 e) h fun q hq y_=>?_
  rcases bO2 hq with ⟨pos,rfl⟩
  rcases cN3 h0 with ⟨h0,h1,h2,h3,h4,h5⟩
  rw [<- h0]
  exact e_cmp (evE X a Γ env _ hsc h1) (evCm X bs Γ env _ _ _ hsc h3 h4 h2 h5)
 | .ite c a b,Γ,env,e,hsc,h=>by
  refine aJ (o:=vIf e) h fun q hq h=>?_
  rcases dB1 hq with ⟨y_,rfl⟩
  have h3:=(aB h).2
  have h:=(aB h).1
  have h2:=(aB h).2
  have h1:=(aB h).1
  exact e_ite (cZ8 X c Γ env _ hsc h1) (evE X a Γ env _ hsc h2) (evE X b Γ env _ hsc h3)
 | .tup as,Γ,env,e,hsc,h=>by
  refine aJ (o:=bD0 e) h fun q hq h=>?_
  rcases aO2 hq with ⟨y_,y_,rfl⟩
  have h3:=(aB h).2
  have h:=(aB h).1
  have h2:=(aB h).2
  have h1:=(aB h).1
  exact e_tup (evL X as Γ env _ _ hsc h2 h1) fun r m vs m' q=>by rw [bB9 q];exact Nat.le_trans (eA h3) (by decide)
 | .list as,Γ,env,e,hsc,h=>by
  refine aJ (o:=bN4 e) h fun q hq h=>?_
  rcases cB7 hq with ⟨y_,rfl⟩
  have h3:=(aB h).2
  have h:=(aB h).1
  have h2:=(aB h).2
  have h1:=(aB h).1
  exact dH5 (evL X as Γ env _ _ hsc h2 h1) fun r m vs m' q=>by rw [bB9 q];exact Nat.le_trans (eA h3) (by decide)
 | .dict ks vs,Γ,env,e,hsc,h=>by
  refine aJ (o:=bN8 e) h fun q hq h=>?_
  rcases cC2 hq with ⟨y_,rfl⟩
  cases ks with
  | nil=>
   have h:(vs.isEmpty&&q.1.isEmpty&&q.2.isEmpty)=true:=h
   rw [eU (aB (aB h).1).1,eU (aB (aB h).1).2,eU (aB h).2]
   exact cX4
  | cons k ks=>
   exact aE h
 | .idx a i,Γ,env,e,hsc,h=>by
  refine aJ (o:=cB2 e) h fun q hq h=>?_
  rcases aY0 hq with ⟨y_,rfl⟩
  have h2:=(aB h).2
  have h:=(aB h).1
  have h1:=(aB h).2
  exact e_idx X.R (evE X a Γ env _ hsc h1) (evE X i Γ env _ hsc h2)
 | .slice a lo hi st,Γ,env,e,hsc,h=>by
  refine aJ (o:=cB2 e) h fun q hq h=>?_
  rcases aY0 hq with ⟨y_,rfl⟩
  rcases aB h with ⟨h1,h⟩
  refine aJ (o:=aR7 q.2) h fun t ht h=>?_
  rcases bN0 ht with ⟨y_,he⟩
  rw [he]
  have h4:=(aB h).2
  have h:=(aB h).1
  have h3:=(aB h).2
  have h2:=(aB h).1
  exact cX2 (evE X a Γ env _ hsc h1) (o_of h2 fun l hl=>evE X lo Γ env l hsc hl) (o_of h3 fun l hl=>evE X hi Γ env l hsc hl) (o_of h4 fun l hl=>evE X st Γ env l hsc hl)
 | .attr a k,Γ,env,e,hsc,h=>by
  refine aJ (o:=aG5 e) h fun q hq h=>?_
  rw [aE9 hq]
  have h3:=(aB h).2
  have h:=(aB h).1
  have h2:=(aB h).2
  have h1:=(aB h).1
  rcases cM9 h2 with ⟨hx,hf⟩
  exact dH8 h1 (X.S.symm▸hx) (X.S.symm▸hf) (evE X a Γ env _ hsc h3)
 | .call k as,Γ,env,e,hsc,h=>by
  refine aJ (o:=dL e) h fun q hq h=>?_
  rcases dY hq with ⟨y_,y_,rfl⟩
  have h3:=(aB h).2
  have h:=(aB h).1
  have h2:=(aB h).2
  have h1:=(aB h).1
  rcases dG6 hsc h1 with ⟨h0,a,b,c,o,fd,d,e⟩
  exact cX7 X.gl c d e a b h2 (evL X as Γ env _ _ hsc h2 h3) (X.fa▸X.calls k h0)
 | .callv _ _,_,_,_,_,h=>aE h
 | .new c as,Γ,env,e,hsc,h=>by
  refine aJ (o:=dL e) h fun q hq h=>?_
  rcases dY hq with ⟨y_,y_,rfl⟩
  have h5:=(aB h).2
  have h:=(aB h).1
  have h4:=(aB h).2
  have h:=(aB h).1
  have h3:=(aB h).2
  have h:=(aB h).1
  have h2:=(aB h).2
  have h1:=(aB h).1
  exact cT8 X hsc h1 h2 h3 h4 (evL X as Γ env _ _ hsc h4 h5)
 | .meth o k as,Γ,env,e,hsc,h=>by
  refine aJ (o:=aO5 e) h fun q hq h=>?_
  rw [aO4 hq]
  refine aJ (o:=aG5 q.1) h fun t ht h=>?_
  rw [aE9 ht]
  have h9:=(aB h).2
  have h:=(aB h).1
  have h8:=(aB h).2
  have h:=(aB h).1
  have h7:=(aB h).2
  have h:=(aB h).1
  have h6:=(aB h).2
  have h:=(aB h).1
  have h5:=(aB h).2
  have h:=(aB h).1
  have h4:=(aB h).2
  have h:=(aB h).1
  have h3:=(aB h).2
  have h:=(aB h).1
  have h2:=(aB h).2
  have h1:=(aB h).1
  rw [eU h7]
  exact cF6 X h1 h2 h3 h4 (eA h5) h6 (evE X o Γ env _ hsc h8) (evL X as Γ env _ _ hsc h4 h9)
 | .smeth o sm as,Γ,env,e,hsc,h=>by
  refine aJ (o:=aO5 e) h fun q hq h=>?_
  rw [aO4 hq]
  refine aJ (o:=aG5 q.1) h fun t ht h=>?_
  rw [aE9 ht]
  have h8:=(aB h).2
  have h:=(aB h).1
  have h7:=(aB h).2
  have h:=(aB h).1
  have h6:=(aB h).2
  have h:=(aB h).1
  have h5:=(aB h).2
  have h:=(aB h).1
  have h4:=(aB h).2
  have h:=(aB h).1
  have h3:=(aB h).2
  have h:=(aB h).1
  have h2:=(aB h).2
  have h1:=(aB h).1
  rw [beq_iff_eq.mp h1,eU h6]
  exact cX1 X.gl.ok h2 h3 (eA h4) h5 (evE X o Γ env _ hsc h7) (evL X as Γ env _ _ hsc h3 h8)
 | .bi b as,Γ,env,e,hsc,h=>by
  refine aJ (o:=dL e) h fun q hq h=>?_
  rcases dY hq with ⟨y_,y_,rfl⟩
  have hz:=(aB h).2
  have h0:=(aB h).1
  have h4:=(aB hz).2
  have h:=(aB hz).1
  have h3:=(aB h).2
  have h:=(aB h).1
  have h2:=(aB h).2
  have h1:=(aB h).1
  exact e_bi X hsc h0 h1 h2 h3 (fun pos=>evL X as Γ env q.2 pos hsc h3 h4)
 | .listrange _,_,_,_,_,h=>aE h
 | .isi a t,Γ,env,e,hsc,h=>by
  refine aJ (o:=dL e) h fun q hq h=>?_
  rcases dY hq with ⟨px,pos,rfl⟩
  refine aJ (o:=cP8 q.2) h fun p hp h=>?_
  rw [bM9 hp]
  refine aJ (o:=bV p.2) h fun y hy h=>?_
  rw [cA hy]
  have h5:=(aB h).2
  have h:=(aB h).1
  have h4:=(aB h).2
  have h:=(aB h).1
  have h2:=(aB h).2
  have h1:=(aB h).1
  rcases cN4 hsc h1 with ⟨a1,b1,c1,d1,e1⟩
  exact cV2 X hsc (px:=px) (pos:=pos) d1 e1 c1 a1 b1 h2 h4 (evE X a Γ env _ hsc h5)
 | .comp elt t nl k src ifs,Γ,env,e,hsc,h=>by
  refine aJ (o:=aR9 e) h fun q hq h=>?_
  rcases bD1 hq with ⟨pos,rfl⟩
  refine aJ (o:=cK7 q.2.1) h fun g hg h=>?_
  rw [aO3 hg]
  refine aJ (o:=vTg P.loud Γ.vis.length t g.target) h fun x hx h=>?_
  have h5:=(aB h).2
  have h:=(aB h).1
  have h4:=(aB h).2
  have h:=(aB h).1
  have h3:=(aB h).2
  have h:=(aB h).1
  have h2:=(aB h).2
  have h:=(aB h).1
  have h1:=(aB h).2
  have h:=(aB h).1
  have h0:=(aB h).2
  have hnl:=(aB h).1
  rw [eA hnl,cM8 h0]
  exact cJ2 (cN1 X hx) (aW5 hsc h1) (bD9 h2) (aM0 X hsc h3 (fun e c hc he=>cI7 X src Γ env e hsc c hc he) (fun es pos hs he=>evL X src Γ env es pos hsc hs he))
   (fun cl C=>cW9 X ifs (aN5 q.2.2 x Γ) _ g.ifs (aF6 hsc) h4) (fun cl C=>evE X elt (aN5 q.2.2 x Γ) _ q.1 (aF6 hsc) h5)
theorem cI7 (X:Fx W P A fs n F):∀ (cs:List CE) (Γ:Cx) (env:Env) (e:Expr),env.scope=Γ.sc->∀ c,cs=[c]->mE P Γ c e=true->SiE W A fs env Γ.vis (eval e env) (fun r=>ev P.S F c r)
 | [],Γ,env,e,hsc,c',hc,h=>cT6 hc
 | c::cs,Γ,env,e,hsc,c',hc,h=>by
  have hc1:c'=c:=by injection hc with a;exact a.symm
  rw [hc1] at h ⊢
  exact evE X c Γ env e hsc h
theorem evL (X:Fx W P A fs n F):∀ (cs:List CE) (Γ:Cx) (env:Env) (es:List Expr) (pos:Pos),env.scope=Γ.sc->bE es=true->mEs P Γ cs es=true->SiL W A fs env Γ.vis (spliced (backTo pos (starEach es env))) (fun r=>evs P.S F cs r)
 | [],Γ,env,es,pos,hsc,hs,h=>by
  rw [aP8 h]
  exact l_nil
 | c::cs,Γ,env,es,pos,hsc,hs,h=>by
  rcases cM h with ⟨e,es',he,h1,h2⟩
  rw [he] at hs ⊢
  exact dF1 (evE X c Γ env _ hsc h1) (evL X cs Γ env _ _ hsc (aA4 hs) h2) (fG hs)
theorem evBo (X:Fx W P A fs n F):∀ (cs:List CE) (Γ:Cx) (env:Env) (es:List Expr) (pos:Pos) (op:BoolOp) (b:Bool),env.scope=Γ.sc->dF9 b op=true->mEs P Γ cs es=true->cs≠[]->SiE W A fs env Γ.vis (boolOp pos op (evalEach es env)) (fun r=>evB P.S F b cs r)
 | [],Γ,env,es,pos,op,b,hsc,ho,h,hne=>absurd rfl hne
 | [c],Γ,env,es,pos,op,b,hsc,ho,h,hne=>by
  rcases cM h with ⟨e,es',he,h1,h2⟩
  rw [he,aP8 h2]
  exact b_one (evE X c Γ env _ hsc h1)
 | c::c'::cs,Γ,env,es,pos,op,b,hsc,ho,h,hne=>by
  rcases cM h with ⟨e,es',he,h1,h2⟩
  have h2':=h2
  rcases cM h2 with ⟨e',es'',he',y_,y_⟩
  rw [he]
  rw [he'] at h2' ⊢
  exact dJ1 (cT0 ho) (evE X c Γ env _ hsc h1) (evBo X (c'::cs) Γ env (e'::es'') pos op b hsc ho h2' (List.cons_ne_nil _ _))
theorem evCm (X:Fx W P A fs n F):∀ (cs:List CE) (Γ:Cx) (env:Env) (es:List Expr) (pos:Pos) (ops:List CmpOp),env.scope=Γ.sc->ops.length=cs.length->cs≠[]->mEs P Γ cs es=true->es.all aP6=true->SiC W A fs env Γ.vis (fun u=>compareChain pos u ops (markedEach ops es (evalEach es env))) (fun x r=>evC P.S F x ops cs r)
 | [],Γ,env,es,pos,ops,hsc,hl,hne,h,hs=>absurd rfl hne
 | [c],Γ,env,es,pos,ops,hsc,hl,hne,h,hs=>by
  rcases cM h with ⟨e,es',he,h1,h2⟩
  rcases List.length_eq_one_iff.mp hl with ⟨op,rfl⟩
  rw [he,aP8 h2] at hs ⊢
  exact c_one X.gl.ok X.R (bF4 (aB hs).1) (evE X c Γ env _ hsc h1)
 | c::c'::cs,Γ,env,es,pos,ops,hsc,hl,hne,h,hs=>by
  rcases cM h with ⟨e,es',he,h1,h2⟩
  have h2':=h2
  rcases cM h2 with ⟨e',es'',he',y_,y_⟩
  rw [he] at hs ⊢
  rw [he'] at h2' hs ⊢
  rcases bO8 hl with ⟨op,op',ops',rfl⟩
  exact dI6 X.gl.ok X.R (evE X c Γ env _ hsc h1) (evCm X (c'::cs) Γ env (e'::es'') pos (op'::ops') hsc (Nat.succ.inj hl) (List.cons_ne_nil _ _) h2' (aB hs).2)
theorem evCt (X:Fx W P A fs n F):∀ (cs:List CE) (Γ:Cx) (env:Env) (es:List Expr) (pos:Pos) (ops:List CmpOp),env.scope=Γ.sc->ops.length=cs.length->cs≠[]->mEs P Γ cs es=true->es.all aP6=true->dJ6 W A fs env Γ.vis (fun u=>testChain pos u ops (markedEach ops es (evalEach es env))) (fun x r=>evC P.S F x ops cs r)
 | [],Γ,env,es,pos,ops,hsc,hl,hne,h,hs=>absurd rfl hne
 | [c],Γ,env,es,pos,ops,hsc,hl,hne,h,hs=>by
  rcases cM h with ⟨e,es',he,h1,h2⟩
  rcases List.length_eq_one_iff.mp hl with ⟨op,rfl⟩
  rw [he,aP8 h2] at hs ⊢
  exact t_one X.gl.ok X.R (bF4 (aB hs).1) (evE X c Γ env _ hsc h1)
 | c::c'::cs,Γ,env,es,pos,ops,hsc,hl,hne,h,hs=>by
  rcases cM h with ⟨e,es',he,h1,h2⟩
  have h2':=h2
  rcases cM h2 with ⟨e',es'',he',y_,y_⟩
  rw [he] at hs ⊢
  rw [he'] at h2' hs ⊢
  rcases bO8 hl with ⟨op,op',ops',rfl⟩
  exact dB9 X.gl.ok X.R (evE X c Γ env _ hsc h1) (evCt X (c'::cs) Γ env (e'::es'') pos (op'::ops') hsc (Nat.succ.inj hl) (List.cons_ne_nil _ _) h2' (aB hs).2)
theorem cZ8 (X:Fx W P A fs n F):∀ (b:CB) (Γ:Cx) (env:Env) (e:Expr),env.scope=Γ.sc->mB P Γ b e=true->SiB W A fs env Γ.vis (isTrue e env (eval e env)) (fun r=>evT P.S F b r)
 | .not b,Γ,env,e,hsc,h=>by
  refine aJ (o:=vUn e) h fun q hq h=>?_
  rcases bM8 hq with ⟨y_,rfl⟩
  have h1:=(aB h).2
  have h0:=(aB h).1
  rw [bG3 h0]
  exact t_not (cZ8 X b Γ env _ hsc h1)
 | .all c bs,Γ,env,e,hsc,h=>by
  refine aJ (o:=aY2 e) h fun q hq h=>?_
  rcases bD2 hq with ⟨y_,rfl⟩
  have h1:=(aB h).2
  have h0:=(aB h).1
  exact t_all (dH0 X bs Γ env _ _ _ hsc h0 h1)
 | .val c,Γ,env,e,hsc,h=>by
  rcases dB0 h with ⟨hp,hm⟩ | ⟨a,ops,bs,pos,he,hm⟩
  ·exact t_val (evE X c Γ env e hsc hm) (aP4 hp)
  ·subst he
   exact evCa X c Γ env a ops bs pos hsc hm
theorem evCa (X:Fx W P A fs n F):∀ (c:CE) (Γ:Cx) (env:Env) (a:Expr) (ops:List CmpOp) (bs:List Expr) (pos:Pos),env.scope=Γ.sc->mE P Γ c (.Compare a ops bs pos)=true->SiB W A fs env Γ.vis (isTrue (.Compare a ops bs pos) env (eval (.Compare a ops bs pos) env)) (fun r=>bnd (ev P.S F c r) fT)
 | .cmp ca cops cbs,Γ,env,a,ops,bs,pos,hsc,h=>by
  rcases cN3 h with ⟨h0,h1,h2,h3,h4,h5⟩
  subst h0
  exact t_cmp (W:=W) (A:=A) (fs:=fs) (env:=env) (vis:=Γ.vis) (pos:=pos) (a:=a) (ops:=cops) (bs:=bs) (ca:=fun r=>ev P.S F ca r) (cc:=fun x r=>evC P.S F x cops cbs r) (evE X ca Γ env a hsc h1) (evCt X cbs Γ env bs pos cops hsc h3 h4 h2 h5)
 | .cnst _,_,_,_,_,_,_,_,h=>aE h
 | .var _,_,_,_,_,_,_,_,h=>aE h
 | .glob _,_,_,_,_,_,_,_,h=>aE h
 | .fnv _,_,_,_,_,_,_,_,h=>aE h
 | .bin _ _ _,_,_,_,_,_,_,_,h=>aE h
 | .neg _,_,_,_,_,_,_,_,h=>aE h
 | .not _,_,_,_,_,_,_,_,h=>aE h
 | .boolop _ _,_,_,_,_,_,_,_,h=>aE h
 | .ite _ _ _,_,_,_,_,_,_,_,h=>aE h
 | .tup _,_,_,_,_,_,_,_,h=>aE h
 | .list _,_,_,_,_,_,_,_,h=>aE h
 | .dict _ _,_,_,_,_,_,_,_,h=>aE h
 | .idx _ _,_,_,_,_,_,_,_,h=>aE h
 | .slice _ _ _ _,_,_,_,_,_,_,_,h=>aE h
 | .attr _ _,_,_,_,_,_,_,_,h=>aE h
 | .call _ _,_,_,_,_,_,_,_,h=>aE h
 | .callv _ _,_,_,_,_,_,_,_,h=>aE h
 | .new _ _,_,_,_,_,_,_,_,h=>aE h
 | .meth _ _ _,_,_,_,_,_,_,_,h=>aE h
 | .smeth _ _ _,_,_,_,_,_,_,_,h=>aE h
 | .bi _ _,_,_,_,_,_,_,_,h=>aE h
 | .listrange _,_,_,_,_,_,_,_,h=>aE h
 | .isi _ _,_,_,_,_,_,_,_,h=>aE h
 | .comp _ _ _ _ _ _,_,_,_,_,_,_,_,h=>aE h
theorem dH0 (X:Fx W P A fs n F):∀ (bs:List CB) (Γ:Cx) (env:Env) (es:List Expr) (op:BoolOp) (b:Bool),env.scope=Γ.sc->dF9 b op=true->cF8 P Γ bs es=true->SiB W A fs env Γ.vis (allTrue op es env) (fun r=>aW1 P.S F b bs r)
 | [],Γ,env,es,op,b,hsc,ho,h=>by
  rw [bF6 h]
  exact t_nil (cT0 ho)
 | c::cs,Γ,env,es,op,b,hsc,ho,h=>by
  rcases aT9 h with ⟨e,es',he,h1,h2⟩
  rw [he]
  exact dC0 (cT0 ho) (cZ8 X c Γ env _ hsc h1) (dH0 X cs Γ env _ op b hsc ho h2)
theorem cW9 (X:Fx W P A fs n F):∀ (bs:List CB) (Γ:Cx) (env:Env) (es:List Expr),env.scope=Γ.sc->cF8 P Γ bs es=true->SiB W A fs env Γ.vis (f8 es env true) (fun r=>bL9 P.S F bs r)
 | [],Γ,env,es,hsc,h=>by
  rw [bF6 h]
  exact dG5
 | c::cs,Γ,env,es,hsc,h=>by
  rcases aT9 h with ⟨e,es',he,h1,h2⟩
  rw [he]
  exact cW3 (cZ8 X c Γ env _ hsc h1) (cW9 X cs Γ env _ hsc h2)
end
end
end Mini.Internal
namespace Mini.Internal
open PySem PySem.W PyProof.Rows
section
variable {W:Wd} {P:Px} {fs:List Env} {A:Around} {n:Nat} {F:Fns} {env:Env}
theorem bP7 {Γ:Cx} {i:Nat} {x:Str} (hsc:env.scope=Γ.sc) (h:bK5 Γ i x=true):Γ.vis[i]?=some (some x) /\ (env.kindOf x=some .local \/ env.kindOf x=some .cell):=by
 refine ⟨eq_of_beq (bH h).1,?_⟩
 show env.scope.names.lookup x=_ \/ env.scope.names.lookup x=_
 rw [hsc]
 rcases Bool.or_eq_true_iff.mp (bH h).2 with q | q
 ·exact .inl (eq_of_beq q)
 ·exact .inr (eq_of_beq q)
theorem mT_of {Γ:Cx} {t:CT} {tg:Expr} (h:mT Γ t tg=true):∃ i x pos,t=.one i /\ tg=.Name x pos /\ bK5 Γ i x=true:=by
 cases t with
 | many is=>exact aE h
 | one i=>
  refine aJ (o:=bV tg) h fun q hq h=>?_
  exact ⟨i,q.1,q.2,rfl,cA hq,h⟩
noncomputable def dK7 (c:List Expr×Expr×Pos) (e:Stmt):Prop:=e=.Assign c.1 c.2.1 c.2.2
theorem cC8 {e:Stmt} {c:List Expr×Expr×Pos} (h:dB4 e=some c):dK7 c e:=
 Stmt.casesOn (motive_2:=fun e=>dB4 e=some c->dK7 c e) e (fun y_ y_ y_ y_ y_ y_ y_ y_ y_ y_=>aA) (fun y_ y_ y_ y_ y_ y_ y_ y_ y_ y_=>aA) (fun y_ y_ y_ y_ y_ y_ y_ y_ y_ y_ y_=>aA) (fun y_ y_=>aA) (fun y_ y_=>aA) (fun y_ y_ y_ h=>by (refine aF h fun z1=>?_;clear h;subst z1);rfl) (fun y_ y_ y_ y_ y_ y_ y_=>aA) (fun y_ y_ y_ y_=>aA) (fun y_ y_ y_ y_ y_=>aA) (fun y_ y_ y_ y_ y_=>aA) (fun y_ y_ y_ y_ y_=>aA) (fun y_ y_ y_ y_=>aA) (fun y_ y_ y_ y_=>aA) (fun y_ y_ y_=>aA) (fun y_ y_ y_=>aA) (fun y_ y_ y_=>aA) (fun y_ y_ y_=>aA) (fun y_ y_ y_ y_ y_=>aA) (fun y_ y_ y_ y_ y_=>aA) (fun y_ y_ y_=>aA) (fun y_ y_=>aA) (fun y_ y_ y_ y_=>aA) (fun y_ y_=>aA) (fun y_ y_=>aA) (fun y_ y_=>aA) (fun y_=>aA) (fun y_=>aA) (fun y_=>aA) h
theorem cQ5 {e:Stmt} {c:List Expr×Expr×Pos} (h:dB4 e=some c):e=.Assign c.1 c.2.1 c.2.2:=cC8 h
noncomputable def dK4 (c:Expr) (e:Stmt):Prop:=∃ pos,e=.Expr c pos
theorem cC1 {e:Stmt} {c:Expr} (h:cZ4 e=some c):dK4 c e:=
 Stmt.casesOn (motive_2:=fun e=>cZ4 e=some c->dK4 c e) e (fun y_ y_ y_ y_ y_ y_ y_ y_ y_ y_=>aA) (fun y_ y_ y_ y_ y_ y_ y_ y_ y_ y_=>aA) (fun y_ y_ y_ y_ y_ y_ y_ y_ y_ y_ y_=>aA) (fun y_ y_=>aA) (fun y_ y_=>aA) (fun y_ y_ y_=>aA) (fun y_ y_ y_ y_ y_ y_ y_=>aA) (fun y_ y_ y_ y_=>aA) (fun y_ y_ y_ y_ y_=>aA) (fun y_ y_ y_ y_ y_=>aA) (fun y_ y_ y_ y_ y_=>aA) (fun y_ y_ y_ y_=>aA) (fun y_ y_ y_ y_=>aA) (fun y_ y_ y_=>aA) (fun y_ y_ y_=>aA) (fun y_ y_ y_=>aA) (fun y_ y_ y_=>aA) (fun y_ y_ y_ y_ y_=>aA) (fun y_ y_ y_ y_ y_=>aA) (fun y_ y_ y_=>aA) (fun y_ y_=>aA) (fun y_ y_ y_ y_=>aA) (fun y_ y_=>aA) (fun y_ y_=>aA) (fun y_ y_ h=>by (refine aF h fun z1=>?_;clear h;subst z1);exact ⟨_,rfl⟩) (fun y_=>aA) (fun y_=>aA) (fun y_=>aA) h
theorem bN6 {e:Stmt} {c:Expr} (h:cZ4 e=some c):∃ pos,e=.Expr c pos:=cC1 h
noncomputable def dK2 (c:Expr×List Stmt×List Stmt) (e:Stmt):Prop:=∃ pos,e=.If c.1 c.2.1 c.2.2 pos
theorem cB8 {e:Stmt} {c:Expr×List Stmt×List Stmt} (h:cZ3 e=some c):dK2 c e:=
 Stmt.casesOn (motive_2:=fun e=>cZ3 e=some c->dK2 c e) e (fun y_ y_ y_ y_ y_ y_ y_ y_ y_ y_=>aA) (fun y_ y_ y_ y_ y_ y_ y_ y_ y_ y_=>aA) (fun y_ y_ y_ y_ y_ y_ y_ y_ y_ y_ y_=>aA) (fun y_ y_=>aA) (fun y_ y_=>aA) (fun y_ y_ y_=>aA) (fun y_ y_ y_ y_ y_ y_ y_=>aA) (fun y_ y_ y_ y_=>aA) (fun y_ y_ y_ y_ y_=>aA) (fun y_ y_ y_ y_ y_=>aA) (fun y_ y_ y_ y_ y_=>aA) (fun y_ y_ y_ y_=>aA) (fun y_ y_ y_ y_ h=>by (refine aF h fun z1=>?_;clear h;subst z1);exact ⟨_,rfl⟩) (fun y_ y_ y_=>aA) (fun y_ y_ y_=>aA) (fun y_ y_ y_=>aA) (fun y_ y_ y_=>aA) (fun y_ y_ y_ y_ y_=>aA) (fun y_ y_ y_ y_ y_=>aA) (fun y_ y_ y_=>aA) (fun y_ y_=>aA) (fun y_ y_ y_ y_=>aA) (fun y_ y_=>aA) (fun y_ y_=>aA) (fun y_ y_=>aA) (fun y_=>aA) (fun y_=>aA) (fun y_=>aA) h
theorem bN5 {e:Stmt} {c:Expr×List Stmt×List Stmt} (h:cZ3 e=some c):∃ pos,e=.If c.1 c.2.1 c.2.2 pos:=cB8 h
noncomputable def dK3 (c:Expr×Expr×List Stmt×List Stmt) (e:Stmt):Prop:=∃ pos,e=.For c.1 c.2.1 c.2.2.1 c.2.2.2 pos
theorem cC0 {e:Stmt} {c:Expr×Expr×List Stmt×List Stmt} (h:dB2 e=some c):dK3 c e:=
 Stmt.casesOn (motive_2:=fun e=>dB2 e=some c->dK3 c e) e (fun y_ y_ y_ y_ y_ y_ y_ y_ y_ y_=>aA) (fun y_ y_ y_ y_ y_ y_ y_ y_ y_ y_=>aA) (fun y_ y_ y_ y_ y_ y_ y_ y_ y_ y_ y_=>aA) (fun y_ y_=>aA) (fun y_ y_=>aA) (fun y_ y_ y_=>aA) (fun y_ y_ y_ y_ y_ y_ y_=>aA) (fun y_ y_ y_ y_=>aA) (fun y_ y_ y_ y_ y_=>aA) (fun y_ y_ y_ y_ y_ h=>by (refine aF h fun z1=>?_;clear h;subst z1);exact ⟨_,rfl⟩) (fun y_ y_ y_ y_ y_=>aA) (fun y_ y_ y_ y_=>aA) (fun y_ y_ y_ y_=>aA) (fun y_ y_ y_=>aA) (fun y_ y_ y_=>aA) (fun y_ y_ y_=>aA) (fun y_ y_ y_=>aA) (fun y_ y_ y_ y_ y_=>aA) (fun y_ y_ y_ y_ y_=>aA) (fun y_ y_ y_=>aA) (fun y_ y_=>aA) (fun y_ y_ y_ y_=>aA) (fun y_ y_=>aA) (fun y_ y_=>aA) (fun y_ y_=>aA) (fun y_=>aA) (fun y_=>aA) (fun y_=>aA) h
theorem cQ3 {e:Stmt} {c:Expr×Expr×List Stmt×List Stmt} (h:dB2 e=some c):∃ pos,e=.For c.1 c.2.1 c.2.2.1 c.2.2.2 pos:=cC0 h
noncomputable def dK1 (c:Option Expr) (e:Stmt):Prop:=∃ pos,e=.Return c pos
theorem cB3 {e:Stmt} {c:Option Expr} (h:cB4 e=some c):dK1 c e:=
 Stmt.casesOn (motive_2:=fun e=>cB4 e=some c->dK1 c e) e (fun y_ y_ y_ y_ y_ y_ y_ y_ y_ y_=>aA) (fun y_ y_ y_ y_ y_ y_ y_ y_ y_ y_=>aA) (fun y_ y_ y_ y_ y_ y_ y_ y_ y_ y_ y_=>aA) (fun y_ y_ h=>by (refine aF h fun z1=>?_;clear h;subst z1);exact ⟨_,rfl⟩) (fun y_ y_=>aA) (fun y_ y_ y_=>aA) (fun y_ y_ y_ y_ y_ y_ y_=>aA) (fun y_ y_ y_ y_=>aA) (fun y_ y_ y_ y_ y_=>aA) (fun y_ y_ y_ y_ y_=>aA) (fun y_ y_ y_ y_ y_=>aA) (fun y_ y_ y_ y_=>aA) (fun y_ y_ y_ y_=>aA) (fun y_ y_ y_=>aA) (fun y_ y_ y_=>aA) (fun y_ y_ y_=>aA) (fun y_ y_ y_=>aA) (fun y_ y_ y_ y_ y_=>aA) (fun y_ y_ y_ y_ y_=>aA) (fun y_ y_ y_=>aA) (fun y_ y_=>aA) (fun y_ y_ y_ y_=>aA) (fun y_ y_=>aA) (fun y_ y_=>aA) (fun y_ y_=>aA) (fun y_=>aA) (fun y_=>aA) (fun y_=>aA) h
theorem aY1 {e:Stmt} {c:Option Expr} (h:cB4 e=some c):∃ pos,e=.Return c pos:=cB3 h
noncomputable def cO8 (e:Stmt):Prop:=∃ pos,e=.Continue pos
theorem bN9 {e:Stmt} (h:cC5 e=true):cO8 e:=
 Stmt.casesOn (motive_2:=fun e=>cC5 e=true->cO8 e) e (fun y_ y_ y_ y_ y_ y_ y_ y_ y_ y_=>aE) (fun y_ y_ y_ y_ y_ y_ y_ y_ y_ y_=>aE) (fun y_ y_ y_ y_ y_ y_ y_ y_ y_ y_ y_=>aE) (fun y_ y_=>aE) (fun y_ y_=>aE) (fun y_ y_ y_=>aE) (fun y_ y_ y_ y_ y_ y_ y_=>aE) (fun y_ y_ y_ y_=>aE) (fun y_ y_ y_ y_ y_=>aE) (fun y_ y_ y_ y_ y_=>aE) (fun y_ y_ y_ y_ y_=>aE) (fun y_ y_ y_ y_=>aE) (fun y_ y_ y_ y_=>aE) (fun y_ y_ y_=>aE) (fun y_ y_ y_=>aE) (fun y_ y_ y_=>aE) (fun y_ y_ y_=>aE) (fun y_ y_ y_ y_ y_=>aE) (fun y_ y_ y_ y_ y_=>aE) (fun y_ y_ y_=>aE) (fun y_ y_=>aE) (fun y_ y_ y_ y_=>aE) (fun y_ y_=>aE) (fun y_ y_=>aE) (fun y_ y_=>aE) (fun y_=>aE) (fun y_=>aE) (fun y_ h=>by exact ⟨_,rfl⟩) h
theorem cC4 {e:Stmt} (h:cC5 e=true):∃ pos,e=.Continue pos:=bN9 h
noncomputable def cO5 (e:Stmt):Prop:=∃ pos,e=.Pass pos
theorem bN1 {e:Stmt} (h:cB6 e=true):cO5 e:=
 Stmt.casesOn (motive_2:=fun e=>cB6 e=true->cO5 e) e (fun y_ y_ y_ y_ y_ y_ y_ y_ y_ y_=>aE) (fun y_ y_ y_ y_ y_ y_ y_ y_ y_ y_=>aE) (fun y_ y_ y_ y_ y_ y_ y_ y_ y_ y_ y_=>aE) (fun y_ y_=>aE) (fun y_ y_=>aE) (fun y_ y_ y_=>aE) (fun y_ y_ y_ y_ y_ y_ y_=>aE) (fun y_ y_ y_ y_=>aE) (fun y_ y_ y_ y_ y_=>aE) (fun y_ y_ y_ y_ y_=>aE) (fun y_ y_ y_ y_ y_=>aE) (fun y_ y_ y_ y_=>aE) (fun y_ y_ y_ y_=>aE) (fun y_ y_ y_=>aE) (fun y_ y_ y_=>aE) (fun y_ y_ y_=>aE) (fun y_ y_ y_=>aE) (fun y_ y_ y_ y_ y_=>aE) (fun y_ y_ y_ y_ y_=>aE) (fun y_ y_ y_=>aE) (fun y_ y_=>aE) (fun y_ y_ y_ y_=>aE) (fun y_ y_=>aE) (fun y_ y_=>aE) (fun y_ y_=>aE) (fun y_ h=>by exact ⟨_,rfl⟩) (fun y_=>aE) (fun y_=>aE) h
theorem cB5 {e:Stmt} (h:cB6 e=true):∃ pos,e=.Pass pos:=bN1 h
noncomputable def dK0 (c:Option Expr×Option Expr) (e:Stmt):Prop:=∃ pos,e=.Raise c.1 c.2 pos
theorem cQ0 {e:Stmt} {c:Option Expr×Option Expr} (h:vRse e=some c):dK0 c e:=
 Stmt.casesOn (motive_2:=fun e=>vRse e=some c->dK0 c e) e (fun y_ y_ y_ y_ y_ y_ y_ y_ y_ y_=>aA) (fun y_ y_ y_ y_ y_ y_ y_ y_ y_ y_=>aA) (fun y_ y_ y_ y_ y_ y_ y_ y_ y_ y_ y_=>aA) (fun y_ y_=>aA) (fun y_ y_=>aA) (fun y_ y_ y_=>aA) (fun y_ y_ y_ y_ y_ y_ y_=>aA) (fun y_ y_ y_ y_=>aA) (fun y_ y_ y_ y_ y_=>aA) (fun y_ y_ y_ y_ y_=>aA) (fun y_ y_ y_ y_ y_=>aA) (fun y_ y_ y_ y_=>aA) (fun y_ y_ y_ y_=>aA) (fun y_ y_ y_=>aA) (fun y_ y_ y_=>aA) (fun y_ y_ y_=>aA) (fun y_ y_ y_ h=>by (refine aF h fun z1=>?_;clear h;subst z1);exact ⟨_,rfl⟩) (fun y_ y_ y_ y_ y_=>aA) (fun y_ y_ y_ y_ y_=>aA) (fun y_ y_ y_=>aA) (fun y_ y_=>aA) (fun y_ y_ y_ y_=>aA) (fun y_ y_=>aA) (fun y_ y_=>aA) (fun y_ y_=>aA) (fun y_=>aA) (fun y_=>aA) (fun y_=>aA) h
noncomputable def dJ8 (c:List Stmt×List ExceptHandler×List Stmt×List Stmt) (e:Stmt):Prop:=∃ pos,e=.Try c.1 c.2.1 c.2.2.1 c.2.2.2 pos
theorem cP9 {e:Stmt} {c:List Stmt×List ExceptHandler×List Stmt×List Stmt} (h:vTry e=some c):dJ8 c e:=
 Stmt.casesOn (motive_2:=fun e=>vTry e=some c->dJ8 c e) e (fun y_ y_ y_ y_ y_ y_ y_ y_ y_ y_=>aA) (fun y_ y_ y_ y_ y_ y_ y_ y_ y_ y_=>aA) (fun y_ y_ y_ y_ y_ y_ y_ y_ y_ y_ y_=>aA) (fun y_ y_=>aA) (fun y_ y_=>aA) (fun y_ y_ y_=>aA) (fun y_ y_ y_ y_ y_ y_ y_=>aA) (fun y_ y_ y_ y_=>aA) (fun y_ y_ y_ y_ y_=>aA) (fun y_ y_ y_ y_ y_=>aA) (fun y_ y_ y_ y_ y_=>aA) (fun y_ y_ y_ y_=>aA) (fun y_ y_ y_ y_=>aA) (fun y_ y_ y_=>aA) (fun y_ y_ y_=>aA) (fun y_ y_ y_=>aA) (fun y_ y_ y_=>aA) (fun y_ y_ y_ y_ y_ h=>by (refine aF h fun z1=>?_;clear h;subst z1);exact ⟨_,rfl⟩) (fun y_ y_ y_ y_ y_=>aA) (fun y_ y_ y_=>aA) (fun y_ y_=>aA) (fun y_ y_ y_ y_=>aA) (fun y_ y_=>aA) (fun y_ y_=>aA) (fun y_ y_=>aA) (fun y_=>aA) (fun y_=>aA) (fun y_=>aA) h
theorem cB9 {hd:ExceptHandler} {c:Expr×Option Str×Expr} (h:cQ2 hd=some c):∃ rp hp,hd=.ExceptHandler (some c.1) c.2.1 [.Return (some c.2.2) rp] hp:=by
 rcases hd with ⟨ty,nm,body,hp⟩
 cases ty with
 | none=>exact aA h
 | some t=>
  cases body with
  | nil=>exact aA h
  | cons st rest=>
   cases rest with
   | cons y_ y_=>exact aA h
   | nil=>
    have h:((cB4 st).bind fun o=>o.map fun e=>(t,nm,e))=some c:=h
    cases hr:cB4 st with
    | none=>rw [hr] at h;exact aA h
    | some o=>
     rw [hr] at h
     cases o with
     | none=>exact aA h
     | some e=>
      (refine aF h fun z1=>?_;clear h;subst z1)
      rcases aY1 hr with ⟨rp,rfl⟩
      exact ⟨rp,hp,rfl⟩
theorem aM5 {v:Expr} {t:Option Expr} {line:Nat} (h:aC7 v=false):swapsWith v t line env=Pure.pure false:=by
 cases (v) <;> first | rfl | (exact aE h.symm)
structure Cmp (W:Wd) (P:Px) (A:Around) (fs:List Env) (F:Fns) (env:Env) (Γ:Cx) (c:CE) (e0:Expr) (gens:List Comprehension) (scope:Scope):Prop where
 parts:∃ elt k src ifs x t tg iter ifs',c=.comp elt t (List.length x) k src ifs /\ gens=[⟨tg,iter,ifs',0⟩] /\ CTg A Γ.vis (aJ8 scope x Γ.vis) t tg /\ CompOk scope env Γ.vis (aJ8 scope x Γ.vis) x.length /\ (∀ y,foldedSetIterable iter env y=Pure.pure y) /\
  SiSrc W A fs env Γ.vis iter (fun r=>bnd (evs P.S F src r) (aB1 k)) /\ (∀ cl C,SiB W A fs (compEnvC scope cl C env) (aJ8 scope x Γ.vis) (f8 ifs' (compEnvC scope cl C env) true) (fun r=>bL9 P.S F ifs r)) /\
  (∀ cl C,SiE W A fs (compEnvC scope cl C env) (aJ8 scope x Γ.vis) (eval e0 (compEnvC scope cl C env)) (fun r=>ev P.S F elt r)) /\ env.scope.kind=.function
theorem bY3 (X:Fx W P A fs n F) {Γ:Cx}:∀ {c:CE} {e0:Expr} {gens:List Comprehension} {scope:Scope} {pos:Pos} (hsc:env.scope=Γ.sc) (h:mE P Γ c (.ListComp e0 gens scope pos)=true),Cmp W P A fs F env Γ c e0 gens scope:=by
 intro c e0 gens scope pos hsc h
 cases c with
 | comp elt t nl k src ifs=>
  refine aJ (o:=cK7 gens) h fun g hg h=>?_
  rw [aO3 hg]
  refine aJ (o:=vTg P.loud Γ.vis.length t g.target) h fun x hx h=>?_
  have h5:=(aB h).2
  have h:=(aB h).1
  have h4:=(aB h).2
  have h:=(aB h).1
  have h3:=(aB h).2
  have h:=(aB h).1
  have h2:=(aB h).2
  have h:=(aB h).1
  have h1:=(aB h).2
  have h:=(aB h).1
  have h0:=(aB h).2
  have hnl:=(aB h).1
  rw [eA hnl]
  have hf:env.scope.kind=.function:=by rw [hsc];exact beq_iff_eq.mp (aB h1).2
  exact ⟨elt,k,src,ifs,x,t,g.target,g.iter,g.ifs,rfl,by rw [<- cM8 h0],cN1 X hx,aW5 hsc h1,bD9 h2,
   aM0 X hsc h3 (fun e c hc he=>cI7 X src Γ env e hsc c hc he) (fun es pos hs he=>evL X src Γ env es pos hsc hs he),
   fun cl C=>cW9 X ifs (aN5 scope x Γ) _ g.ifs (aF6 hsc) h4,fun cl C=>evE X elt (aN5 scope x Γ) _ e0 (aF6 hsc) h5,hf⟩
 | _=>exact aE h
theorem cY8 (X:Fx W P A (env::fs) n F) {Γ:Cx} {t:CT} {e:CE} {tg v:Expr} {pos:Pos} (hsc:env.scope=Γ.sc) (h:(mT Γ t tg&&mE P Γ e v&&(bV tg).any fun y=>bT0 Γ y v)=true) :
  SiS W A fs env Γ.vis (exec (.Assign [tg] v pos) env) (fun r=>ex P.S F (.asg (.one t) e) r):=by
 have h3:=(aB h).2
 have h:=(aB h).1
 have h2:=(aB h).2
 have h1:=(aB h).1
 rcases mT_of h1 with ⟨i,y,py,rfl,rfl,ht⟩
 rcases bP7 hsc ht with ⟨hv,hk⟩
 have h3:bT0 Γ (y,py) v=true:=h3
 cases hc:aC7 v with
 | false=>exact bM2 (evE X e Γ env v hsc h2) (aX7 hv hk) (aM5 (env:=env) (line:=pos.line) (t:=some (.Name y py)) hc) rfl rfl
 | true=>
  have h3:(!aC7 v||(aR9 v).any fun q=>!(Γ.sc.names.lookup y == some .local)||(py.line == v.pos.line&&!(q.2.2.names.any fun (n,k)=>n == y&&(k == .local||k == .cell))))=true:=h3
  rw [hc] at h3
  refine aJ (o:=aR9 v) h3 fun q hq h3=>?_
  rcases bD1 hq with ⟨cpos,rfl⟩
  rcases (bY3 X hsc h2).parts with ⟨elt,k,src,ifs,x,t,tg,iter,ifs',rfl,hgen,hg,ck,hs,hsrc,hifs,helt,hf⟩
  cases hloc:env.kindOf y == some .local with
  | true=>
   have hl':(Γ.sc.names.lookup y == some NameKind.local)=true:=by rw [<- hsc];exact hloc
   rw [hl'] at h3
   have h4:=(aB h3).2
   have h3:=(aB h3).1
   have hb:(env.blockKind == ScopeKind.function)=true:=by
    unfold Env.blockKind;rw [hf];rfl
   have hsw:swapsWithSole [.Name y py] (.ListComp q.1 q.2.1 q.2.2 cpos) pos.line env=Pure.pure true:=by
    show (Pure.pure _:Sem Bool)=_
    rw [hb,hloc,h3,h4];rfl
   rw [hgen] at hsw ⊢
   have:=bI5 (W:=W) (A:=A) (fs:=fs) (env:=env) (vis:=Γ.vis) (pos:=pos) (vis':=aJ8 q.2.2 x Γ.vis) (nl:=x.length) (i:=i) ck hs hg hsrc hifs helt hsw hv (beq_iff_eq.mp hloc)
   intro s io m r Z
   have eq:ex P.S F (.asg (.one (.one i)) (.comp elt t x.length k src ifs)) r=bnd (bnd (bnd (evs P.S F src r) (aB1 k)) fun p=>bnd (bS p.2 (fF t (r++List.replicate x.length none) (fun r=>bL9 P.S F ifs r) (fun r=>ev P.S F elt r)) p.1) fun l=>if l.length <= lid then alloc (.list l) else bad) fun v=>bnd (fun m=>.ok (r.set i (some v)) m) fun r'=>ret (.next,r'):=by
    rw [bY (evs P.S F src r)];rfl
   dsimp only
   rw [eq]
   exact this s io m r Z
  | false=>
   have hsw:swapsWithSole [.Name y py] (.ListComp q.1 q.2.1 q.2.2 cpos) pos.line env=Pure.pure false:=by
    show (Pure.pure _:Sem Bool)=_
    rw [hloc,Bool.and_false];rfl
   exact bM2 (evE X _ Γ env _ hsc h2) (aX7 hv hk) hsw rfl rfl
theorem bU1 {Γ:Cx} (hsc:env.scope=Γ.sc):∀ {is:List Nat} {es:List Expr},mTs Γ is es=true->Tgs env Γ.vis is es
 | [],es,h=>eU h
 | i::is,[],h=>aE h
 | i::is,e::es,h=>by
  rcases aB (a:=(bV e).any fun (x:Str×Pos)=>bK5 Γ i x.1) (b:=mTs Γ is es) h with ⟨h1,h2⟩
  refine aJ (o:=bV e) h1 fun q hq h1=>?_
  rcases bP7 hsc h1 with ⟨hv,hk⟩
  exact ⟨q.1,q.2,es,by rw [cA hq],hv,hk,bU1 hsc h2⟩
theorem cT5 {v:Expr} {ts:List Expr} {k:Nat} {p:Pos} (h:(bD0 v).isNone=true):swappedStores [.Tuple ts k p] v env=Pure.pure none:=by
 cases (v) <;> first | rfl | (exact aE h)
theorem cK2 (X:Fx W P A (env::fs) n F) {Γ:Cx} {is:List Nat} {e:CE} {tg v:Expr} {pos:Pos} (hsc:env.scope=Γ.sc) (h:(P.loud&&mTF Γ (.many is) tg&&mE P Γ e v&&!aC7 v&&(bD0 v).isNone)=true) :
  SiS W A fs env Γ.vis (exec (.Assign [tg] v pos) env) (fun r=>ex P.S F (.asg (.one (.many is)) e) r):=by
 have h5:=(aB h).2
 have h:=(aB h).1
 have h4:=(aB h).2
 have h:=(aB h).1
 have h3:=(aB h).2
 have h:=(aB h).1
 have h2:=(aB h).2
 have h1:=(aB h).1
 refine aJ (o:=bD0 tg) h2 fun es hq h2=>?_
 rcases aO2 hq with ⟨k,pt,rfl⟩
 exact bM2 (evE X e Γ env v hsc h3) (cO4 (X.hh h1) (bU1 hsc h2)) (aM5 (env:=env) (line:=pos.line) (t:=some (.Tuple es k pt)) ((Bool.not_eq_true' _).mp h4)) (cT5 h5) rfl
theorem cY9 (X:Fx W P A (env::fs) n F) {Γ:Cx} {t:CTgt} {e:CE} {tg v:Expr} {pos:Pos} (hsc:env.scope=Γ.sc) (h:mAsg P Γ t e tg v=true) :
  SiS W A fs env Γ.vis (exec (.Assign [tg] v pos) env) (fun r=>ex P.S F (.asg t e) r):=by
 cases t with
 | one t=>
  cases t with
  | one i=>exact cY8 X hsc h
  | many is=>exact cK2 X hsc h
 | attr o k=>
  refine aJ (o:=aG5 tg) h fun q hq h=>?_
  rw [aE9 hq]
  have h4:=(aB h).2
  have h:=(aB h).1
  have h3:=(aB h).2
  have h:=(aB h).1
  have h2:=(aB h).2
  have h1:=(aB h).1
  rcases cM9 h1 with ⟨hx,hf⟩
  exact bM2 (evE X e Γ env v hsc h3) (dJ5 (X.S.symm▸hx) (X.S.symm▸hf) (evE X o Γ env _ hsc h2)) (aM5 (env:=env) (line:=pos.line) (t:=some (.Attribute q.1 q.2.1 q.2.2)) ((Bool.not_eq_true' _).mp h4)) rfl rfl
 | idx o i=>
  refine aJ (o:=cB2 tg) h fun q hq h=>?_
  rcases aY0 hq with ⟨p,rfl⟩
  have h4:=(aB h).2
  have h:=(aB h).1
  have h3:=(aB h).2
  have h:=(aB h).1
  have h2:=(aB h).2
  have h1:=(aB h).1
  exact bM2 (evE X e Γ env v hsc h3) (a_idx X.R (evE X o Γ env _ hsc h1) (evE X i Γ env _ hsc h2)) (aM5 (env:=env) (line:=pos.line) (t:=some (.Subscript q.1 q.2 p)) ((Bool.not_eq_true' _).mp h4)) rfl rfl
 | idx2 o i o' i'=>exact aE h
theorem cW7 (hA:A.frames=some (env::fs)) {Γ:Cx} {i:Nat} {src:List CE} {k:IK} {body:List CS} {y:Str} {py pos:Pos} {iter:Expr} {b:List Stmt} (hsrc:bL7 W A (env::fs) env Γ.vis (.Name y py) iter (fun r=>bnd (evs P.S F src r) (aB1 k))) (hv:Γ.vis[i]?=some (some y)) (hk:env.kindOf y=some .local \/ env.kindOf y=some .cell)
  (hb:SiS W A fs env Γ.vis (execs b env) (fun r=>exs P.S F body r)) (hs:∀ x,foldedSetIterable iter env x=Pure.pure x):SiS W A fs env Γ.vis (exec (.For (.Name y py) iter b [] pos) env) (fun r=>ex P.S F (.for_ k (.one i) src body) r):=by
 have:=dA4 hA (pos:=pos) (target:=.Name y py) hsrc (aX7 hv hk) hb hs
 intro s io m r Z
 have eq:ex P.S F (.for_ k (.one i) src body) r=bnd (bnd (evs P.S F src r) (aB1 k)) fun p=>aN2 p.2 (fun v r'=>bnd (fun m=>.ok (r'.set i (some v)) m) fun r''=>exs P.S F body r'') p.1 r:=by
  rw [bY];rfl
 dsimp only
 rw [eq]
 exact this s io m r Z
theorem cI0 (hA:A.frames=some (env::fs)) (hh:A.handled=none) {Γ:Cx} {is:List Nat} {src:List CE} {k:IK} {body:List CS} {es:List Expr} {kx:Nat} {py pos:Pos} {iter:Expr} {b:List Stmt} (hsrc:bL7 W A (env::fs) env Γ.vis (.Tuple es kx py) iter (fun r=>bnd (evs P.S F src r) (aB1 k))) (ht:Tgs env Γ.vis is es)
  (hb:SiS W A fs env Γ.vis (execs b env) (fun r=>exs P.S F body r)) (hs:∀ x,foldedSetIterable iter env x=Pure.pure x):SiS W A fs env Γ.vis (exec (.For (.Tuple es kx py) iter b [] pos) env) (fun r=>ex P.S F (.for_ k (.many is) src body) r):=by
 have:=dA4 hA (pos:=pos) (target:=.Tuple es kx py) hsrc (cO4 hh ht) hb hs
 intro s io m r Z
 have eq:ex P.S F (.for_ k (.many is) src body) r=bnd (bnd (evs P.S F src r) (aB1 k)) fun p=>aN2 p.2 (fun v r'=>bnd (aH5 (.many is) v r') fun r''=>exs P.S F body r'') p.1 r:=by
  rw [bY];rfl
 dsimp only
 rw [eq]
 exact this s io m r Z
theorem bU2 {Γ:Cx} {es:List Stmt} (h:mSs P Γ [] es=true):es=[]:=eU h
theorem bF5 {Γ:Cx} {c:CS} {cs:List CS} {es:List Stmt} (h:mSs P Γ (c::cs) es=true):∃ e es',es=e::es' /\ mS P Γ c e=true /\ mSs P Γ cs es'=true:=by
 cases es with
 | nil=>exact aE h
 | cons e es=>have:=aB (a:=mS P Γ c e) (b:=mSs P Γ cs es) h;exact ⟨e,es,rfl,this.1,this.2⟩
theorem cR7 (X:Fx W P A (env::fs) n F) {Γ:Cx} {c:Nat} {msg:Str} {x:Str} {es:List Expr} {np cpos pos:Pos} (hsc:env.scope=Γ.sc) (h1:P.loud=true) (h2:aU5 P Γ c x=true) (h3:excIn P.K (P.ca c) bmV "ValueError.__new__"=true) (h4:bE es=true)
  (hl:SiL W A (env::fs) env Γ.vis (spliced (backTo cpos (starEach es env))) (fun r=>evs P.S F [.cnst (.str msg)] r)):SiS W A fs env Γ.vis (exec (.Raise (some (.Call (.Name x np) es [] cpos)) none pos) env) (fun r=>ex P.S F (.rse c msg) r):=by
 rcases bE9 hsc h2 with ⟨a,b,e⟩
 rcases X.gl.top with ⟨mg,mb,y_,y_,y_,pp,loose,T⟩
 have:=cP4 (pos:=pos) (np:=np) (bmB:=bmV) (Bn:="ValueError") (B:="ValueError") X.gl (X.hh h1) PySem.F.excBase_ValueError rfl PySem.F.excBase_ValueError rfl T (c:=c) (X.ca▸e) (X.ca▸h3) a b h4 hl (fun r m vs m' q=>by (refine aC5 q fun z1 z2=>?_;clear q;subst z1;subst z2);exact (by decide:1 <= lid))
 exact this
set_option tactic.hygienic true in
theorem cQ6 (X:Fx W P A (env::fs) n F) {Γ:Cx} {c:Nat} {ni:Option Nat} {nm:Option Str} {x:Str} {np hp rp pos:Pos} {body:List Stmt} {e:Expr} {cb:Lo->Mn (Fl×Lo)} {ch:Lo->Mn V} (hsc:env.scope=Γ.sc) (h1:aU5 P Γ c x=true) (h2:aX6 (relT P c) 0 P.S.cls=true) (h3:okNm Γ ni nm=true)
  (hb:SiQ W A fs env Γ.vis (execs body env) cb) (he:∀ a,SiE W (A.mark (some (.ref a))) (env::fs) env Γ.vis (eval e env) ch) :
  SiS W A fs env Γ.vis (exec (.Try body [.ExceptHandler (some (.Name x np)) nm [.Return (some e) rp] hp] [] [] pos) env) (fun r=>bP0 P.S (cb r) c ni ch r):=by
 rcases bE9 hsc h1 with ⟨a,b,e1⟩
 refine x_try X.gl X.R.frames hb he (X.ca▸e1) a b (fun d hd=>?_) ?_
 ·cases q:P.S.cls[d]? with
  | none=>rw [q] at hd;injection hd
  | some k=>
   rw [q] at hd
   have:=aD9 h2 q
   rw [Nat.zero_add] at this
   have this:(!(k.supers.contains c)||exmOne P.K (.ref (P.ca d)) (.ref (P.ca c)) == some true)=true:=this
   rw [show k.supers.contains c=true from hd] at this
   rw [X.ca];exact beq_iff_eq.mp this
 ·cases ni with
  | none=>cases nm with
   | none=>trivial
   | some y=>exact aE h3
  | some i=>cases nm with
   | none=>exact aE h3
   | some y=>
    have q2:=(aB h3).2
    have q1:=(aB h3).1
    refine ⟨?_,?_⟩
    ·split at q1
     ·rename_i z hz;rw [hz,beq_iff_eq.mp q1]
     ·injection q1
    ·show env.scope.names.lookup y=_
     rw [hsc]
     split at q2
     ·assumption
     ·injection q2
theorem Fx.quiet (X:Fx W P A fs n F) (a:Addr):Fx W P.quiet (A.mark (some (.ref a))) fs n F where
 gl:=X.gl
 R:=⟨X.R.frames,X.R.depth,X.R.units⟩
 S:=X.S
 fa:=X.fa
 ca:=X.ca
 hh:=fun h=>by injection h
 calls:=fun k hk=>X.qcalls (A.mark (some (.ref a))) ⟨X.R.frames,X.R.depth,X.R.units⟩ k hk
 new:=fun h=>by injection h
 qcalls:=fun y_ y_ y_ hk=>by injection hk
 objs:=fun h=>by injection h
mutual
theorem exQ (X:Fx W P A (env::fs) n F):∀ (c:CS) (Γ:Cx) (st:Stmt),env.scope=Γ.sc->qS c=true->mS P Γ c st=true->SiQ W A fs env Γ.vis (exec st env) (fun r=>ex P.S F c r)
 | .exp e,Γ,st,hsc,hq,h=>by
  refine aJ (o:=cZ4 st) h fun q hq h=>?_
  rcases bN6 hq with ⟨y_,rfl⟩
  have h2:=(aB h).2
  have h1:=(aB h).1
  exact q_exp (aM5 ((Bool.not_eq_true' _).mp h2)) (evE X e Γ env _ hsc h1)
 | .ite c a b,Γ,st,hsc,hq,h=>by
  have qb:=(aB hq).2
  have qa:=(aB hq).1
  refine aJ (o:=cZ3 st) h fun q hq h=>?_
  rcases bN5 hq with ⟨y_,rfl⟩
  have h3:=(aB h).2
  have h:=(aB h).1
  have h2:=(aB h).2
  have h1:=(aB h).1
  exact q_if (cZ8 X c Γ env _ hsc h1) (exQs X a Γ _ hsc qa h2) (exQs X b Γ _ hsc qb h3)
 | .ret e,Γ,st,hsc,hq,h=>by
  refine aJ (o:=cB4 st) h fun q hq h=>?_
  rcases aY1 hq with ⟨y_,rfl⟩
  refine aJ (o:=q) h fun v hv h=>?_
  rw [hv]
  exact q_ret (evE X e Γ env _ hsc h)
 | .asg _ _,_,_,_,hq,_=>aE hq
 | .for_ _ _ _ _,_,_,_,hq,_=>aE hq
 | .wh _ _,_,_,_,hq,_=>aE hq
 | .rse _ _,_,_,_,hq,_=>aE hq
 | .try_ _ _ _ _,_,_,_,hq,_=>aE hq
 | .cont,_,_,_,hq,_=>aE hq
 | .pass,_,_,_,hq,_=>aE hq
theorem exQs (X:Fx W P A (env::fs) n F):∀ (cs:List CS) (Γ:Cx) (ss:List Stmt),env.scope=Γ.sc->qSs cs=true->mSs P Γ cs ss=true->SiQ W A fs env Γ.vis (execs ss env) (fun r=>exs P.S F cs r)
 | [],Γ,ss,hsc,_,h=>by
  rw [bU2 h]
  exact q_nil
 | c::cs,Γ,ss,hsc,hq,h=>by
  have q2:=(aB hq).2
  have q1:=(aB hq).1
  rcases bF5 h with ⟨e,es',he,h1,h2⟩
  rw [he]
  exact dD5 (exQ X c Γ _ hsc q1 h1) (exQs X cs Γ _ hsc q2 h2)
end
mutual
theorem exS (X:Fx W P A (env::fs) n F):∀ (c:CS) (Γ:Cx) (st:Stmt),env.scope=Γ.sc->mS P Γ c st=true->SiS W A fs env Γ.vis (exec st env) (fun r=>ex P.S F c r)
 | .asg t e,Γ,st,hsc,h=>by
  refine aJ (o:=dB4 st) h fun q hq h=>?_
  rw [cQ5 hq]
  refine aJ (o:=cK7 q.1) h fun tg ht h=>?_
  rw [aO3 ht]
  exact cY9 X hsc h
 | .exp e,Γ,st,hsc,h=>by
  refine aJ (o:=cZ4 st) h fun q hq h=>?_
  rcases bN6 hq with ⟨y_,rfl⟩
  have h2:=(aB h).2
  have h1:=(aB h).1
  exact x_exp (aM5 ((Bool.not_eq_true' _).mp h2)) (evE X e Γ env _ hsc h1)
 | .ite c a b,Γ,st,hsc,h=>by
  refine aJ (o:=cZ3 st) h fun q hq h=>?_
  rcases bN5 hq with ⟨y_,rfl⟩
  have h3:=(aB h).2
  have h:=(aB h).1
  have h2:=(aB h).2
  have h1:=(aB h).1
  exact x_if (cZ8 X c Γ env _ hsc h1) (cZ7 X a Γ _ hsc h2) (cZ7 X b Γ _ hsc h3)
 | .for_ k t src body,Γ,st,hsc,h=>by
  refine aJ (o:=dB2 st) h fun q hq h=>?_
  rcases cQ3 hq with ⟨y_,rfl⟩
  have h4:=(aB h).2
  have h:=(aB h).1
  have h3:=(aB h).2
  have h:=(aB h).1
  have h2:=(aB h).2
  have h:=(aB h).1
  have h1:=(aB h).2
  have h0:=(aB h).1
  rw [eU h0]
  have hl:=bQ5 h3
  cases t with
  | many is=>
   refine aJ (o:=bD0 q.1) h1 fun es hq h1=>?_
   rcases aO2 hq with ⟨kx,pt,he⟩
   rw [he]
   exact cI0 X.R.frames (X.hh hl) (bQ4 X hsc h3 (fun e c hc he=>cI7 X src Γ env e hsc c hc he) (fun es pos hs he=>evL X src Γ env es pos hsc hs he)) (bU1 hsc h1) (cZ7 X body Γ _ hsc h4) (bD9 h2)
  | one i=>
  refine aJ (o:=bV q.1) h1 fun y hq ht=>?_
  rcases bP7 hsc ht with ⟨hv,hk⟩
  rw [cA hq]
  exact cW7 X.R.frames (cD7 X hsc h3 (fun e c hc he=>cI7 X src Γ env e hsc c hc he) (fun es pos hs he=>evL X src Γ env es pos hsc hs he)) hv hk (cZ7 X body Γ _ hsc h4) (bD9 h2)
 | .wh _ _,_,_,_,h=>aE h
 | .ret e,Γ,st,hsc,h=>by
  refine aJ (o:=cB4 st) h fun q hq h=>?_
  rcases aY1 hq with ⟨y_,rfl⟩
  refine aJ (o:=q) h fun v hv h=>?_
  rw [hv]
  exact dA1 (evE X e Γ env _ hsc h)
 | .rse c msg,Γ,st,hsc,h=>by
  refine aJ (o:=vRse st) h fun q hq h=>?_
  rcases cQ0 hq with ⟨pos,rfl⟩
  rcases aB h with ⟨h0,h⟩
  refine aJ (o:=q.1) h fun e he h=>?_
  refine aJ (o:=dL e) h fun t ht h=>?_
  rcases dY ht with ⟨np,cpos,rfl⟩
  rw [he,Option.isNone_iff_eq_none.mp h0]
  have h5:=(aB h).2
  have h:=(aB h).1
  have h4:=(aB h).2
  have h:=(aB h).1
  have h3:=(aB h).2
  have h:=(aB h).1
  have h2:=(aB h).2
  have h1:=(aB h).1
  exact cR7 X hsc h1 h2 h3 h4 (evL X [.cnst (.str msg)] Γ env _ _ hsc h4 h5)
 | .try_ b c ni hh,Γ,st,hsc,h=>by
  refine aJ (o:=vTry st) h fun q hq h=>?_
  rcases cP9 hq with ⟨pos,rfl⟩
  have hb:=(aB h).2
  have h:=(aB h).1
  have h2:=(aB h).2
  have h1:=(aB h).1
  refine aJ (o:=cK7 q.2.1) hb fun hd h3 h=>?_
  refine aJ (o:=cQ2 hd) h fun t h4 h=>?_
  refine aJ (o:=bV t.1) h fun x hx h=>?_
  have k6:=(aB h).2
  have h:=(aB h).1
  have k5:=(aB h).2
  have h:=(aB h).1
  have k4:=(aB h).2
  have h:=(aB h).1
  have k3:=(aB h).2
  have h:=(aB h).1
  have k2:=(aB h).2
  have k1:=(aB h).1
  rcases cB9 h4 with ⟨rp,hp,rfl⟩
  rw [aO3 h3,eU h1,eU h2,cA hx]
  exact cQ6 X hsc k1 k2 k3 (exQs X b Γ _ hsc k4 k5) (fun a=>evE (X.quiet a) hh Γ env _ hsc k6)
 | .cont,Γ,st,hsc,h=>by
  rcases cC4 h with ⟨y_,rfl⟩
  exact dA5
 | .pass,Γ,st,hsc,h=>by
  rcases cB5 h with ⟨y_,rfl⟩
  exact dA2
theorem cZ7 (X:Fx W P A (env::fs) n F):∀ (cs:List CS) (Γ:Cx) (ss:List Stmt),env.scope=Γ.sc->mSs P Γ cs ss=true->SiS W A fs env Γ.vis (execs ss env) (fun r=>exs P.S F cs r)
 | [],Γ,ss,hsc,h=>by
  rw [bU2 h]
  exact dA3
 | c::cs,Γ,ss,hsc,h=>by
  rcases bF5 h with ⟨e,es',he,h1,h2⟩
  rw [he]
  exact cK3 (exS X c Γ _ hsc h1) (cZ7 X cs Γ _ hsc h2)
end
theorem aZ9:∀ {ds:List FnD} {j i:Nat} {d:FnD},mFs P j ds=true->ds[i]?=some d->P.can (j+i)=true->mF P (j+i) d=true
 | [],j,i,d,_,h,_=>by simp at h
 | x::ds,j,i,d,hm,h,hk=>by
  have h2:=(aB hm).2
  have h1:=(aB hm).1
  cases i with
  | zero=>
   have e:x=d:=by simpa using h
   rw [e] at h1
   have h1:(!P.can j||mF P j d)=true:=h1
   rw [show P.can j=true from hk] at h1
   exact h1
  | succ i=>
   have e:j+(i+1)=j+1+i:=by lia
   rw [e] at hk ⊢
   exact aZ9 h2 (by simpa using h) hk
set_option tactic.hygienic true in
theorem cT3 (hck:mFs P 0 P.S.fns=true) (hn:P.ok=none) (k:Nat) (hk:k < P.S.fns.length):∃ o fd,P.K.lookup (P.fa k)=some o /\ o.data=.func fd /\ o.cls=.type "function":=by
 have hm:=aZ9 (j:=0) hck (List.getElem?_eq_getElem hk) (by unfold Px.can;rw [hn])
 rw [Nat.zero_add] at hm
 unfold mF at hm
 split at hm
 ·rename_i o ho
  split at hm
  ·rename_i fd hfd
   split at hm
   ·exact ⟨o,fd,ho,hfd,beq_iff_eq.mp (aB (aB hm).1).1⟩
   ·injection hm
  ·injection hm
 ·injection hm
theorem AR.born {A:Around} {fs:List Env} {n:Nat} (R:AR A fs (n+1)) (env:Env):AR (Mini.Internal.born (A.deeper env)) (env::fs) n:=by
 have Rd:=R.deeper env
 refine ⟨Rd.frames,?_,?_⟩
 ·have:=R.depth;show A.depth+1+1+4 * n <= 900;lia
 ·have:=R.units;show A.units+3+1+40 * n+400 <= 9000;lia
set_option tactic.hygienic true in
theorem aQ3 (gl:Gl W P.K) (hS:W.S=P.S) (hfa:W.fa=P.fa) (hca:W.ca=P.ca) (hck:mFs P 0 P.S.fns=true) (hqk:∀ (n:Nat) (A:Around) (fs:List Env),AR A fs n->∀ k,P.qok.contains k=true->SiF W A fs (.ref (W.fa k)) (run P.S n k)) :
  ∀ (n:Nat) (A:Around) (fs:List Env),AR A fs n->(P.loud=true->A.handled=none)->∀ k,P.can k=true->SiK W A fs (.ref (W.fa k)) (run P.S n k)
 | 0,A,fs,R,hh,k,hok=>fun s io m vs us H G hu hne=>absurd rfl hne
 | n+1,A,fs,R,hh,k,hok=>by
  show SiK W A fs (.ref (W.fa k)) (bC2 P.S (run P.S n) k)
  cases hd:P.S.fns[k]? with
  | none=>
   intro s io m vs us H G hu hne
   exact absurd (by unfold bC2;rw [hd];rfl) hne
  | some d=>
   have hm:=aZ9 (j:=0) hck hd (by rw [Nat.zero_add];exact hok)
   rw [Nat.zero_add] at hm
   unfold mF at hm
   split at hm
   ·rename_i o ho
    split at hm
    ·rename_i fd hfd
     split at hm
     ·rename_i body hb
      simp only [Bool.and_eq_true] at hm
      have:=cJ6 (W:=W) (fs:=fs) (A:=A) (n:=n) (Fb:=fun r=>exs P.S (run P.S n) d.body r) gl R ho hfd hm.1.2 hb
       (fun env hsc=>cZ7 (X:=⟨gl,R.deeper env,hS,hfa,hca,hh,fun k hk=>(aQ3 gl hS hfa hca hck hqk n (A.deeper env) (env::fs) (R.deeper env) hh k hk).f,fun hn k hk=>aQ3 gl hS hfa hca hck hqk n (born (A.deeper env)) (env::fs) (R.born env) hh k (by unfold Px.can;rw [hn]),fun A' R'=>hqk n A' (env::fs) R',cT3 hck⟩) d.body ⟨fd.scope,d.names.map some⟩ body hsc hm.2)
      rw [<- hfa] at this
      have eq:bC2 P.S (run P.S n) k=fun vs=>if vs.length=d.np then bnd (exs P.S (run P.S n) d.body (vs.map some++List.replicate (d.names.length - d.np) none)) finF else bad:=by
       funext vs;unfold bC2;rw [hd]
      rw [eq]
      exact this
     ·injection hm
    ·injection hm
   ·injection hm
theorem cZ1 (gl:Gl W P.K) (hS:W.S=P.S) (hfa:W.fa=P.fa) (hca:W.ca=P.ca) (hck:mFs P 0 P.S.fns=true) (hcq:mFs P.quiet 0 P.S.fns=true) :
  ∀ (n:Nat) (A:Around) (fs:List Env),AR A fs n->(P.loud=true->A.handled=none)->∀ k,P.can k=true->SiF W A fs (.ref (W.fa k)) (run P.S n k):=
 fun n A fs R hh k hk=>(aQ3 gl hS hfa hca hck (fun n A fs R k hk=>(aQ3 (P:=P.quiet) gl hS hfa hca hcq (fun y_ y_ y_ y_ y_ h=>by injection h) n A fs R (fun h=>by injection h) k hk).f) n A fs R hh k hk).f
end
end Mini.Internal
namespace Mini.Internal
open PySem
noncomputable def Wp {α:Type} (x:Mn α) (m:MH) (Q:α->MH->Prop) (E:Nat->MH->Prop):Prop:=match x m with
 | .ok a m'=>Q a m'
 | .exc c m'=>E c m'
 | .bad=>False
noncomputable abbrev nox:Nat->MH->Prop:=fun y_ y_=>False
noncomputable abbrev cA3 (Q:V->MH->Prop):Fl×Lo->MH->Prop:=fun p m'=>match p.1 with | .ret v=>Q v m' | .next=>Q .none m' | .cont=>False
noncomputable abbrev bL8 {α:Sort _} (Q:Fl×Lo->MH->Prop) (I:α->Lo->MH->Prop) (xs:α):Fl×Lo->MH->Prop:=fun p m'=>match p.1 with | .ret v=>Q (.ret v,p.2) m' | _=>I xs p.2 m'
section
variable {α β:Type} {S:Sig} {F:Fns} {r:Lo} {m m':MH} {Q:α->MH->Prop} {E:Nat->MH->Prop}
theorem aH {x:Mn α} {a:α} (h:x m=.ok a m') (q:Q a m'):Wp x m Q E:=by unfold Wp;rw [h];exact q
theorem cK4 {x:Mn α} {c:Nat} (h:x m=.exc c m') (q:E c m'):Wp x m Q E:=by unfold Wp;rw [h];exact q
theorem aM {x:Mn β} {f:β->Mn α} (h:Wp x m (fun a m'=>Wp (f a) m' Q E) E):Wp (bnd x f) m Q E:=by
 unfold Wp bnd at *
 cases q:x m with
 | ok a m1=>rw [q] at h;exact h
 | exc c m1=>rw [q] at h;exact h
 | bad=>rw [q] at h;exact h
theorem wp_mono {x:Mn α} {Q':α->MH->Prop} {E':Nat->MH->Prop} (h:Wp x m Q' E') (k:∀ a m',Q' a m'->Q a m') (l:∀ c m',E' c m'->E c m'):Wp x m Q E:=by
 unfold Wp at *
 cases q:x m with
 | ok a m1=>rw [q] at h;exact k _ _ h
 | exc c m1=>rw [q] at h;exact l _ _ h
 | bad=>rw [q] at h;exact h
theorem aX {x:Mn α} {Q':α->MH->Prop} (h:Wp x m Q' nox) (k:∀ a m',Q' a m'->Q a m'):Wp x m Q E:=wp_mono h k fun y_ y_ q=>q.elim
theorem aL5 {x:Mn α} (h:Wp x m Q nox):∃ a m',x m=.ok a m' /\ Q a m':=by
 unfold Wp at h
 cases q:x m with
 | ok a m1=>rw [q] at h;exact ⟨a,m1,rfl,h⟩
 | exc c m1=>rw [q] at h;exact h.elim
 | bad=>rw [q] at h;exact h.elim
end
noncomputable def Le (m m':MH):Prop:=m.length <= m'.length /\ ∀ p,p < m.length->m'[p]?=m[p]?
theorem Le.refl (m:MH):Le m m:=⟨Nat.le_refl _,fun y_ y_=>rfl⟩
theorem Le.trans {a b c:MH} (h:Le a b) (k:Le b c):Le a c:=⟨Nat.le_trans h.1 k.1,fun p q=>(k.2 p (Nat.lt_of_lt_of_le q h.1)).trans (h.2 p q)⟩
theorem Le.app (m e:MH):Le m (m++e):=⟨by simp,fun p q=>List.getElem?_append_left q⟩
theorem bJ {m:MH} {p:Nat} {o:MObj} (k:m[p]?=some o):p < m.length:=by
 rcases Nat.lt_or_ge p m.length with q | q
 ·exact q
 ·rw [List.getElem?_eq_none q] at k;injection k
theorem Le.has {m m':MH} (h:Le m m') {p:Nat} {o:MObj} (k:m[p]?=some o):m'[p]?=some o:=by
 rw [h.2 p (bJ k),k]
theorem Le.set {m m':MH} (h:Le m m') {p:Nat} (hp:m.length <= p) (o:MObj):Le m (m'.set p o):=
 ⟨by rw [List.length_set];exact h.1,fun q hq=>by rw [List.getElem?_set_ne (by lia)];exact h.2 q hq⟩
theorem bI {m:MH} {p:Nat} {o o':MObj} (k:m[p]?=some o):(m.set p o')[p]?=some o':=by
 rw [List.getElem?_set_self (bJ k)]
theorem aY {m:MH} {p q:Nat} {o o':MObj} (hn:p≠q) (k:m[q]?=some o):(m.set p o')[q]?=some o:=by
 rw [List.getElem?_set_ne hn];exact k
theorem bW {m:MH} {o:MObj}:(m++[o])[m.length]?=some o:=by simp
section
variable {S:Sig} {F:Fns} {r:Lo} {m:MH} {E:Nat->MH->Prop}
section
variable {Q:V->MH->Prop}
theorem aL {o:MObj} (h:∀ p m',Le m m'->m'[p]?=some o->m.length <= p->Q (.ref p) m'):Wp (alloc o) m Q E:=h m.length (m++[o]) (.app _ _) bW (Nat.le_refl _)
theorem aC {α:Type} {x:Mn α} {a:α} {m':MH} {Q:α->MH->Prop} (h:x m=.ok a m') (q:Q a m'):Wp x m Q E:=aH h q
theorem d9 {op:Operator} {a b:CE} (h:Wp (ev S F a r) m (fun x m'=>Wp (ev S F b r) m' (fun y m'=>Wp (bY8 op x y) m' Q E) E) E):Wp (ev S F (.bin op a b) r) m Q E:=
 aM (x:=ev S F a r) (wp_mono h (fun y_ y_ q=>aM (x:=ev S F b r) q) fun y_ y_ q=>q)
theorem bD {k:Nat} {as:List CE} (h:Wp (evs S F as r) m (fun vs m'=>Wp (F k vs) m' Q E) E):Wp (ev S F (.call k as) r) m Q E:=aM (x:=evs S F as r) h
theorem aI0 {b:Bi} {as:List CE} (h:Wp (evs S F as r) m (fun vs m'=>Wp (biV b vs) m' Q E) E):Wp (ev S F (.bi b as) r) m Q E:=aM (x:=evs S F as r) h
theorem aE4 {a i:CE} (h:Wp (ev S F a r) m (fun x m'=>Wp (ev S F i r) m' (fun y m'=>Wp (aX8 x y) m' Q E) E) E):Wp (ev S F (.idx a i) r) m Q E:=
 aM (x:=ev S F a r) (wp_mono h (fun y_ y_ q=>aM (x:=ev S F i r) q) fun y_ y_ q=>q)
theorem aT3 {as:List CE} (h:Wp (evs S F as r) m (fun vs m'=>Q (.tup vs) m') E):Wp (ev S F (.tup as) r) m Q E:=aM (x:=evs S F as r) h
theorem aS {as:List CE} (h:Wp (evs S F as r) m (fun vs m'=>Wp (alloc (.list vs)) m' Q E) E):Wp (ev S F (.list as) r) m Q E:=aM (x:=evs S F as r) h
theorem dP {a b:CE} {op:CmpOp} (h:Wp (ev S F a r) m (fun x m'=>Wp (ev S F b r) m' (fun y m'=>Wp (aF9 op x y) m' (fun c m'=>Q (.bool c) m') E) E) E):Wp (ev S F (.cmp a [op] [b]) r) m Q E:=
 aM (x:=ev S F a r) (wp_mono h (fun x y_ q=>aM (x:=ev S F b r) (wp_mono q (fun y y_ q=>aM (x:=aF9 op x y) q) fun y_ y_ q=>q)) fun y_ y_ q=>q)
theorem aC3 {o:CE} {n:Sm} {as:List CE} (h:Wp (ev S F o r) m (fun x m'=>∃ k,smK x m'=some k /\ smH k n=true /\ Wp (evs S F as r) m' (fun vs m'=>Wp (dD k x n vs) m' Q E) E) E):Wp (ev S F (.smeth o n as) r) m Q E:=by
 refine aM (x:=ev S F o r) (wp_mono h (fun x m' q=>?_) fun y_ y_ q=>q)
 rcases q with ⟨k,hk,hs,q⟩
 have q2:=aM (x:=evs S F as r) q
 unfold Wp at q2 ⊢
 dsimp only
 rw [hk]
 dsimp only
 rw [if_pos hs]
 exact q2
theorem aK {Q:List V->MH->Prop} (h:Q [] m):Wp (evs S F [] r) m Q E:=h
theorem aD {a:CE} {as:List CE} {Q:List V->MH->Prop} (h:Wp (ev S F a r) m (fun v m'=>Wp (evs S F as r) m' (fun vs m'=>Q (v::vs) m') E) E):Wp (evs S F (a::as) r) m Q E:=
 aM (x:=ev S F a r) (wp_mono h (fun v y_ q=>aM (x:=evs S F as r) q) fun y_ y_ q=>q)
end
section
variable {Q:Bool->MH->Prop}
theorem dO {e:CE} (h:Wp (ev S F e r) m (fun v m'=>Wp (fT v) m' Q E) E):Wp (evT S F (.val e) r) m Q E:=aM (x:=ev S F e r) h
theorem dD6 {e:CB} (h:Wp (evT S F e r) m (fun b m'=>Q (!b) m') E):Wp (evT S F (.not e) r) m Q E:=aM (x:=evT S F e r) h
theorem aM3 {c:Bool} {bs:List CB} (h:Wp (aW1 S F c bs r) m Q E):Wp (evT S F (.all c bs) r) m Q E:=h
theorem cK {c:Bool} {a:CB} {as:List CB} (h:Wp (evT S F a r) m (fun b m'=>bif b == c then Wp (aW1 S F c as r) m' Q E else Q b m') E):Wp (aW1 S F c (a::as) r) m Q E:=by
 refine aM (x:=evT S F a r) (wp_mono h (fun t m' q=>?_) fun y_ y_ q=>q)
 cases e:t == c with
 | true=>rw [e] at q;exact q
 | false=>rw [e] at q;exact q
end
section
variable {Q:Fl×Lo->MH->Prop} {ss:List CS}
theorem fX {s:CS} (h:Wp (ex S F s r) m (fun p m'=>match p.1 with | .next=>Wp (exs S F ss p.2) m' Q E | f=>Q (f,p.2) m') E):Wp (exs S F (s::ss) r) m Q E:=by
 refine aM (x:=ex S F s r) (wp_mono h (fun p m' q=>?_) fun y_ y_ q=>q)
 rcases p with ⟨f,r'⟩
 cases (f) <;> exact q
theorem bK {i:Nat} {e:CE} (h:Wp (ev S F e r) m (fun v m'=>Wp (exs S F ss (r.set i (some v))) m' Q E) E):Wp (exs S F (.asg (.one (.one i)) e::ss) r) m Q E:=
 fX (aM (x:=ev S F e r) h)
theorem dS {e:CE} (h:Wp (ev S F e r) m (fun v m'=>Wp (exs S F ss r) m' Q E) E):Wp (exs S F (.exp e::ss) r) m Q E:=fX (aM (x:=ev S F e r) h)
theorem a9 {e:CE} (h:Wp (ev S F e r) m (fun v m'=>Q (.ret v,r) m') E):Wp (exs S F (.ret e::ss) r) m Q E:=fX (aM (x:=ev S F e r) h)
theorem dE (h:Q (.next,r) m):Wp (exs S F [] r) m Q E:=h
theorem aK0 {c:Nat} {t:Str} (h:E c m):Wp (exs S F (.rse c t::ss) r) m Q E:=fX (cK4 rfl h)
theorem bB8:∀ (a b:List CS) (r:Lo) (m:MH),Wp (exs S F (a++b) r) m Q E->Wp (exs S F a r) m (fun p m'=>match p.1 with | .next=>Wp (exs S F b p.2) m' Q E | f=>Q (f,p.2) m') E
 | [],b,r,m,h=>h
 | s::a,b,r,m,h=>by
  unfold Wp at h
  refine fX ?_
  have e:exs S F (s::a++b) r m=(ex S F s r m).bind (fun p=>match p.1 with | .next=>exs S F (a++b) p.2 | f=>ret (f,p.2)):=rfl
  rw [e] at h
  unfold Wp
  cases q:ex S F s r m with
  | ok p m1=>
   rw [q] at h
   rcases p with ⟨f,r1⟩
   cases f with
   | next=>exact bB8 a b r1 m1 h
   | cont=>exact h
   | ret v=>exact h
  | exc c m1=>rw [q] at h;exact h
  | bad=>rw [q] at h;exact h
theorem aE6 {c:CB} {a b:List CS} (h:Wp (evT S F c r) m (fun t m'=>Wp (exs S F ((bif t then a else b)++ss) r) m' Q E) E):Wp (exs S F (.ite c a b::ss) r) m Q E:=by
 refine fX (aM (x:=evT S F c r) (wp_mono h (fun t m' q=>?_) fun y_ y_ q=>q))
 cases (t)
 ·exact bB8 _ _ _ _ q
 ·exact bB8 _ _ _ _ q
theorem aY8 {body:List CS} {c:Nat} {nm:Option Nat} {hd:CE} (h:Wp (exs S F body r) m (fun p m'=>match p.1 with | .next=>Wp (exs S F ss p.2) m' Q E | f=>Q (f,p.2) m')
  (fun d m'=>((S.cls[d]?).any fun k=>k.supers.contains c)=true /\ Wp (ev S F hd (exR nm d r)) m' (fun v m'=>Q (.ret v,exN nm r) m') nox)):Wp (exs S F (.try_ body c nm hd::ss) r) m Q E:=by
 refine fX ?_
 have key:ex S F (.try_ body c nm hd) r m=bP0 S (exs S F body r) c nm (fun r'=>ev S F hd r') r m:=rfl
 unfold Wp at h ⊢
 rw [key]
 unfold bP0
 cases q:exs S F body r m with
 | ok p m1=>rw [q] at h;exact h
 | bad=>rw [q] at h;exact h
 | exc d m1=>
  rw [q] at h
  rcases h with ⟨h1,h2⟩
  rcases aL5 h2 with ⟨v,m2,e2,q2⟩
  have e3:dB6 S c nm (fun r'=>ev S F hd r') r d m1=.ok (.ret v,exN nm r) m2:=by unfold dB6;rw [if_pos h1];dsimp only;rw [e2];rfl
  dsimp only
  rw [e3]
  exact q2
end
end
theorem bC5 {P Q:Prop} (h:P):bif true then P else Q:=h
theorem cY5 {P Q:Prop} (h:Q):bif false then P else Q:=h
section
variable {S:Sig} {F:Fns} {r:Lo} {m:MH}
theorem aC1 {a b c:CE} {o o':CmpOp} {x y z:V} {t u:Bool} (ha:ev S F a r m=.ok x m) (hb:ev S F b r m=.ok y m) (hc:ev S F c r m=.ok z m) (h1:aF9 o x y m=.ok t m) (h2:aF9 o' y z m=.ok u m):ev S F (.cmp a [o,o'] [b,c]) r m=.ok (.bool (t&&u)) m:=by
 show Res.bind (ev S F a r m) _=_
 rw [ha]
 show Res.bind (ev S F b r m) _=_
 rw [hb]
 show Res.bind (aF9 o x y m) _=_
 rw [h1]
 cases t with
 | false=>rfl
 | true=>
  show Res.bind (ev S F c r m) _=_
  rw [hc]
  show Res.bind (aF9 o' y z m) _=_
  rw [h2];rfl
theorem cE3 {a b:CE} {as:List CE} {x y:Bool} (ha:ev S F a r m=.ok (.bool x) m) (hb:ev S F (.boolop true (b::as)) r m=.ok (.bool y) m):ev S F (.boolop true (a::b::as)) r m=.ok (.bool (x&&y)) m:=by
 show Res.bind (ev S F a r m) _=_
 rw [ha]
 cases x with
 | false=>rfl
 | true=>exact hb
theorem aO {e:CE} {b:Bool} (h:ev S F e r m=.ok (.bool b) m):evT S F (.val e) r m=.ok b m:=by
 show Res.bind (ev S F e r m) _=_
 rw [h];rfl
theorem bM {e:CB} {b:Bool} (h:evT S F e r m=.ok b m):evT S F (.not e) r m=.ok (!b) m:=by
 show Res.bind (evT S F e r m) _=_
 rw [h];rfl
theorem aW {a:CB} {as:List CB} {x y:Bool} (ha:evT S F a r m=.ok x m) (hb:aW1 S F false as r m=.ok y m):aW1 S F false (a::as) r m=.ok (x||y) m:=by
 show Res.bind (evT S F a r m) _=_
 rw [ha]
 cases x with
 | true=>rfl
 | false=>exact hb
theorem bE5 {a:CB} {as:List CB} {x y:Bool} (ha:evT S F a r m=.ok x m) (hb:aW1 S F true as r m=.ok y m):aW1 S F true (a::as) r m=.ok (x&&y) m:=by
 show Res.bind (evT S F a r m) _=_
 rw [ha]
 cases x with
 | false=>rfl
 | true=>exact hb
end
noncomputable def b9 (S:Sig) (k np nl:Nat) (b:List CS):Prop:=∃ d,S.fns[k]?=some d /\ d.np=np /\ d.names.length=nl /\ d.body=b
theorem bR7 {S:Sig} {n k np nl:Nat} {b:List CS} {vs:List V} (h:b9 S k np nl b) (hv:vs.length=np):run S (n+1) k vs=bnd (exs S (run S n) b (vs.map some++List.replicate (nl - np) Option.none)) finF:=by
 rcases h with ⟨d,h1,h2,h3,h4⟩
 show bC2 S (run S n) k vs=_
 unfold bC2;rw [h1];dsimp only;rw [if_pos (hv.trans h2.symm),h2,h3,h4]
theorem bF {S:Sig} {n k np nl:Nat} {b:List CS} {vs:List V} {m:MH} {Q:V->MH->Prop} {E:Nat->MH->Prop} (h:b9 S k np nl b) (hv:vs.length=np)
  (hb:Wp (exs S (run S n) b (vs.map some++List.replicate (nl - np) Option.none)) m (cA3 Q) E):Wp (run S (n+1) k vs) m Q E:=by
 rw [bR7 h hv]
 refine aM (wp_mono hb (fun p m' q=>?_) fun y_ y_ q=>q)
 rcases p with ⟨f,r⟩
 cases (f) <;> exact q
theorem fC {S:Sig} {n k:Nat} {d:FnD} {vs:List V} {m:MH} {Q:V->MH->Prop} {E:Nat->MH->Prop} (h:S.fns[k]?=some d) (hv:vs.length=d.np)
  (hb:Wp (exs S (run S n) d.body (vs.map some++List.replicate (d.names.length - d.np) Option.none)) m (cA3 Q) E):Wp (run S (n+1) k vs) m Q E:=
 bF ⟨d,h,rfl,rfl,rfl⟩ hv hb
end Mini.Internal
namespace Mini.Internal
open PySem PySem.W PyProof.Rows
noncomputable def goT (ok:Thread->Bool) (st:SharedT->Thread->Option (SharedT×Thread)):Nat->SharedT->Thread->Option SharedT
 | 0,_,_=>none
 | n+1,s,t=>match through t with
  | true=>some s
  | false=>match ok t with
   | false=>none
   | true=>match st s t with
    | some (s',t')=>goT ok st n s' t'
    | none=>none
theorem cM7 {tb:String->Option Builtin} {p:Program} {w:World} {n₀:Nat} {ann:Option Value}:∀ {n:Nat} {s s':SharedT} {t:Thread},goT (stepOk n₀ ann) (stepT (denote tb) p w) n s t=some s'->topRun tb p w n₀ ann n s.abs t=some s'.abs
 | 0,_,_,_,h=>by injection h
 | n+1,s,s',t,h=>by
  unfold goT at h
  unfold topRun
  cases he:through t with
  | true=>rw [he] at h;(refine aF h fun z1=>?_;clear h;subst z1);rfl
  | false=>
   rw [he] at h
   cases hk:stepOk n₀ ann t with
   | false=>rw [hk] at h;injection h
   | true=>
    rw [hk] at h
    cases hs:stepT (denote tb) p w s t with
    | none=>rw [hs] at h;injection h
    | some r=>rcases r with ⟨s₂,t₂⟩;rw [hs] at h;rw [stepT_spec hs];exact cM7 h
noncomputable def dE9 (P:Params):Nat->List (Params->Obj)->BT->BT
 | _,[],t=>t
 | n,o::r,t=>dE9 P (n+1) r (t.ins n (o P))
noncomputable def boots:List (Params->Obj):=[boot_o_0,boot_o_1,boot_o_2,boot_o_3,boot_o_4,boot_o_5,boot_o_6,boot_o_7,boot_o_8,boot_o_9,boot_o_10]
noncomputable def dI7 (P:Params) (os:OsState):SharedT:=⟨dE9 P 0 boots .nil,11,(boot_heap P).life,Array.mk [],boot_drawn,boot_toks,os⟩
theorem bY6:∀ (P:Params) (os:OsState),(dI7 P os).abs=⟨boot_heap P,Array.mk [],boot_drawn,boot_toks,os⟩:=by intro P os;kernel_rfl
theorem bY5:∀ w:World,((boot_heap w.params).isNs mainGlobals&&(Array.mk ([]:List GenState)).size == 0,(boot_heap w.params).objs.size,(boot_heap w.params).nsMap mainGlobals "__annotations__")=(true,11,some (.ref 6)):=by intro w;kernel_rfl
noncomputable def cL2 (p:Program) (N:Nat) (w:World) (os:OsState):Option SharedT:=
 goT (Fast.tw6613529449190102663 11 (some (.ref 6))) (Fast.tw10156331382660048174 (Fast.tw11892475500146522536 Fast.tw14364793385576792824) p w) N (dI7 w.params os) (topStub p)
theorem cR6 {p:Program} {N:Nat} {w:World} {os:OsState} {s:SharedT} (h:cL2 p N w os=some s):topRun treeTable p w 11 (some (.ref 6)) N ⟨boot_heap w.params,Array.mk [],boot_drawn,boot_toks,os⟩ (topStub p)=some s.abs:=by
 rw [<- bY6]
 refine cM7 ?_
 rw [Fast.te6613529449190102663,Fast.te10156331382660048174,Fast.te11892475500146522536,Fast.te14364793385576792824]
 exact h
noncomputable def xtOf (q:Program) (R:WRecords) (s:Shared):Bool:=xlAt q [] s&&recOk R s
noncomputable def bF7 (p q:Program) (R:WRecords) (chk:Heap->Bool) (w:World) (s:Shared):=
  (staticsOk (importedModules p.main.body) (boot_heap w.params) s.heap&&namesBound p s.heap&&gensDone s&&laidKept (boot_heap w.params) s.heap,
   Fast.tw4187177175401517315 q [] (importedModules p.main.body) (xtOf q R) true s,chk s.heap)
theorem cU6 {p q:Program} {R:WRecords} {chk:Heap->Bool} {N:Nat} (e:opening p=plainProg p.main.scope.names) (hN:Nat.ble 600 N=true) (f:∀ s,fenceModules? p s=some s)
  (h:∀ w os,(cL2 p N w os).map (fun s=>bF7 p q R chk w s.abs)=some (true,openGood q [],true)):LeftO p q [] (xtOf q R) (fun s=>chk s.heap) (fun y_=>true) N:=fun w=>by
 rcases Option.map_eq_some_iff.mp (boot_open e hN f w) with ⟨⟨hp,gs,d,k,os⟩,eo,e'⟩
 obtain ⟨rfl,rfl,rfl,rfl⟩:hp=boot_heap w.params /\ gs=Array.mk [] /\ d=boot_drawn /\ k=boot_toks:=by simpa using e'
 obtain ⟨z1,z2,z3⟩:_ /\ _ /\ _:=by simpa only [Prod.mk.injEq] using bY5 w
 rcases Option.map_eq_some_iff.mp (h w os) with ⟨s,hr,hl⟩
 have r:=cR6 hr
 unfold bF7 at hl
 obtain ⟨l1,l2,l3⟩:_ /\ _ /\ _:=by simpa only [Prod.mk.injEq] using hl
 have t:topFrom treeTable p w N ⟨boot_heap w.params,Array.mk [],boot_drawn,boot_toks,os⟩=some s.abs:=by
  unfold topFrom
  dsimp only
  rw [z1,z2,z3,r]
  show (match staticsOk (importedModules p.main.body) (boot_heap w.params) s.abs.heap&&namesBound p s.abs.heap&&gensDone s.abs&&laidKept (boot_heap w.params) s.abs.heap with | true=>_ | false=>_)=_
  rw [l1]
 rw [<- Fast.te4187177175401517315] at l2
 unfold openEnds
 rw [eo]
 show (topFrom treeTable p w N _).map _=_
 rw [t]
 exact congrArg some (Prod.ext l2 l3)
noncomputable def aI9 (as:List Addr) (h:Heap):Frag:=as.filterMap fun a=>(h.get? a).map fun o=>(a,o)
set_option tactic.hygienic true in
theorem aI8 (h:Heap):∀ as:List Addr,(aI9 as h).In h
 | [],a,o,e=>by injection e
 | b::as,a,o,e=>by
  unfold aI9 at e
  cases q:h.get? b with
  | none=>
   rw [List.filterMap_cons_none (by rw [q];rfl)] at e
   exact aI8 h as a o e
  | some o'=>
   rw [List.filterMap_cons_some (b:=(b,o')) (by rw [q];rfl),List.lookup_cons] at e
   split at e
   ·rename_i hb
    (refine aF e fun z1=>?_;clear e;subst z1)
    rw [beq_iff_eq.mp hb];exact q
   ·exact aI8 h as a o e
noncomputable def Has (chk:Frag->Bool) (_:World) (h:Heap):Prop:=∃ K:Frag,K.In h /\ chk K=true
theorem cE9 {l:OpenLaw} {keep:List Nat} {as:List Addr} {chk:Frag->Bool} {N:Nat} {d:DefRec} {kwd:List (Str×Expr)} (k0:l.wellSaid=true) (e:opening l.prog=plainProg l.prog.main.scope.names) (hN:Nat.ble 600 N=true) (f:∀ s,fenceModules? l.prog s=some s)
  (h:∀ w os,(cL2 l.prog N w os).map (fun s=>bF7 l.prog (view l.prog keep) l.row.records (fun h=>chk (aI9 as h)) w s.abs)=some (true,openGood (view l.prog keep) [],true))
  (hdef:defOf (view l.prog keep) l.row.name=some (d,kwd)) (hp:l.row.prog.theDef l.row.name=some (d.params,d.body,d.scope)) (hk:kwWritten? d.params.kwonlyargs d.params.kw_defaults=some kwd)
  (hwr:(!l.row.writes||l.row.records.isEmpty)=true) (ok:(chainsOk (view l.prog keep)&&opensWell l.row.prog&&(frees l.row.toRowW&&l.row.within.isEmpty))=true) (hb:l.row.prog.bare) (hw:l.row.toRowW.promised)
  (call:WalkO (view l.prog keep) [] (XL (view l.prog keep) []) (Has chk) l.row.toRowW d kwd fun f vs=>PySem.call f vs):l.Holds:=
 holds_law k0 fun said=>holds_open (q:=view l.prog keep) (loose:=[]) (Xt:=xtOf (view l.prog keep) l.row.records) (XP:=XL (view l.prog keep) []) (cU6 e hN f h)
  (fun w s e=>⟨aI9 as s.heap,aI8 _ as,e⟩) (fun w h h' ⟨K,k1,k2⟩ k=>⟨K,k1.keeps k,k2⟩) (fun s e=>xl_of s (Bool.and_eq_true_iff.mp e).1) XL.keeps hdef hp hk (fun s e=>recFacts_of (Bool.and_eq_true_iff.mp e).2) hwr said ok hb hw call
end Mini.Internal
namespace Mini.Internal
open PySem PySem.W PyProof.Rows
noncomputable def gaOf (K:Frag) (x:Str):Addr:=match nsIn K mainGlobals x with | some (some (.ref a))=>a | _=>0
noncomputable def aZ4 (S:Sig) (k:Nat):Option ClsD:=S.cls.find? fun d=>d.init == some k||d.meths.any fun q=>q.2 == k
noncomputable def naOf (K:Frag) (C:Addr) (x:Str):Addr:=match bE7 K C with
 | some N=>(match nsIn K N x with | some (some (.ref a))=>a | _=>0)
 | none=>0
noncomputable def faOf (K:Frag) (S:Sig) (k:Nat):Addr:=match S.fns[k]? with
 | some d=>(match aZ4 S k with | some D=>naOf K (gaOf K D.name) d.name | none=>gaOf K d.name)
 | none=>0
noncomputable def caOf (K:Frag) (S:Sig) (k:Nat):Addr:=match S.cls[k]? with
 | some d=>gaOf K d.name
 | none=>0
noncomputable def cS3 (S:Sig) (qok:List Nat) (K:Frag):Px:=⟨K,S,faOf K S,caOf K S,true,none,qok⟩
noncomputable def cY1 (S:Sig) (qok:List Nat) (k:Nat) (K:Frag):Bool:=mFs (cS3 S qok K) 0 S.fns&&mFs (cS3 S qok K).quiet 0 S.fns&&(aZ4 S k).isNone&&(match S.fns[k]? with | some d=>(match nsIn K mainGlobals d.name with | some (some (.ref _))=>true | _=>false) | none=>false)
theorem cH4 {vs:List Value} {ns:List Int} (h:IntsAre vs ns):IntsR ns vs:=by
 induction h with
 | nil=>exact .nil
 | cons n t h ih=>exact .cons n t ih
set_option tactic.hygienic true in
theorem glue {prog:Program} {w:World} {K:Frag} {S:Sig} {qok:List Nat} {s₁:Shared} {mg mb:Str->Option Value} {loose:List Str} {view:Program} {mean:ExcName->Option Value} {claim:ClaimW} {cl:Str->Option Addr} {args:List WData} {fa l:Addr} {vals:List Value} {ns:List Int} {k n:Nat} {d:FnD}
    (T:Top view loose mean mg mb s₁.heap) (hsee:importsNone view=true) (KX:K.In s₁.heap) (hg:s₁.gens=#[]) (hck:cY1 S qok k K=true) (hd:S.fns[k]?=some d) (hm:mg d.name=some (.ref fa))
    (hL:s₁.heap.IsList l vals.toArray) (hI:IntsAre vals ns) (hlen:ns.length <= 63) (hn:n <= 100) (hrun:Wp (run S n k [.scr ns]) [] (fun v y_=>v=.bool true) nox)
    (hr:∀ cls,claim.raises args cls=false) (hp:claim.post args (.bool true) args=true) :
    wpAny (model prog w) callerA (call (.ref fa) [.ref l]) (fun v s'=>GoodWG claim cl mean args s₁ (.ok (.ret v)) s') (fun e s'=>GoodWG claim cl mean args s₁ (.error e) s') s₁:=by
  rcases Bool.and_eq_true_iff.mp hck with ⟨hck,hc3⟩
  rcases Bool.and_eq_true_iff.mp hck with ⟨hck,hc4⟩
  rcases Bool.and_eq_true_iff.mp hck with ⟨hc1,hc2⟩
  have hf:fa=faOf K S k:=by
    unfold faOf
    rw [Option.isNone_iff_eq_none.mp hc4]
    unfold gaOf
    rw [hd] at hc3 ⊢
    dsimp only at hc3 ⊢
    split at hc3
    · rename_i a e
      have:=mg_of KX T.g e
      rw [hm] at this
      (refine aF this fun z1=>?_;clear this;(first | (injection z1;done) | subst z1 | cases (z1)))
    · injection hc3
  let W:Wd:=⟨prog,w,S,faOf K S,caOf K S,s₁.heap⟩
  have gl:Gl W K:=⟨⟨by rcases (T.seer hsee).mods with ⟨mm,⟨o,y_,y_,e,y_⟩,y_⟩;exact ⟨o,e⟩,T.nolimit⟩,KX,mg,mb,T.g,T.b,T.builtins,_,_,topRead_of T⟩
  have R:AR callerA [] n:=⟨rfl,by show 1+claimMargin+4 * n <= 900;have:claimMargin <= 400:=(by decide +kernel);lia,by show 4+40 * n+400 <= 9000;lia⟩
  rcases aL5 hrun with ⟨v,m',e,rfl⟩
  have H:HR W s₁.heap [] []:=⟨fun y_ y_ e=>e,rfl,fun n p o h=>by simp at h,fun b ⟨p,hp,_⟩=>(nomatch hp),fun i j p q y_ h=>by simp at h⟩
  rcases hL with ⟨o,ho,hc,N,hd⟩
  have hv:VRs W s₁.heap [] [.scr ns] [.ref l]:=.cons (.scr ho hc hd (by simpa using cH4 hI) (by unfold lid;lia)) .nil
  have key:=cZ1 (W:=W) (P:=cS3 S qok K) gl rfl rfl rfl hc1 hc2 n callerA [] R (fun y_=>rfl) k rfl s₁ [] [] [.scr ns] [.ref l] H (fun y_ q=>nomatch q) hv (by show run S n k [.scr ns] []≠_;rw [e];intro q;injection q)
  rw [hf]
  refine wpAny_mono key (fun u s' q=>?_) fun x s' q=>?_
  · rcases q with ⟨v,m2,io',e2,st,H2,kv,sm⟩
    have e2:run S n k [.scr ns] []=.ok v m2:=e2
    rw [e] at e2
    (refine aC5 e2 fun z1 z2=>?_;clear e2;subst z1;subst z2)
    subst kv
    exact GoodW.toG ⟨.inl ⟨_,_,[],rfl,hr,.bool true,hp,fun y_=>⟨List.nodup_nil,fun y_ q=>nomatch q⟩⟩,H2.keep,sm.2,sm.1.trans hg⟩
  · rcases q with ⟨c,m2,io',a,g,e2,y_⟩
    have e2:run S n k [.scr ns] []=.exc c m2:=e2
    rw [e] at e2
    injection e2
noncomputable def chkA (S:Sig) (qok:List Nat) (n:Nat) (K:Frag):Bool:=mFs (cS3 S qok K) 0 (S.fns.take n)
noncomputable def chkB (S:Sig) (qok:List Nat) (n k:Nat) (K:Frag):Bool:=mFs (cS3 S qok K) n (S.fns.drop n)&&mFs (cS3 S qok K).quiet 0 S.fns&&(aZ4 S k).isNone&&(match S.fns[k]? with | some d=>(match nsIn K mainGlobals d.name with | some (some (.ref _))=>true | _=>false) | none=>false)
theorem bU3 {P:Px}:∀ {xs ys:List FnD} {k:Nat},mFs P k xs=true->mFs P (k+xs.length) ys=true->mFs P k (xs++ys)=true
 | [],_,_,_,h=>h
 | x::xs,ys,k,h,h'=>by
  have h:((!P.can k||mF P k x)&&mFs P (k+1) xs)=true:=h
  have h2:=Bool.and_eq_true_iff.mp h
  show ((!P.can k||mF P k x)&&mFs P (k+1) (xs++ys))=true
  rw [h2.1,bU3 (k:=k+1) h2.2 (by rw [Nat.add_right_comm];exact h')];rfl
theorem dI3 {S:Sig} {qok:List Nat} {n k:Nat} {K:Frag} (h:(chkA S qok n K&&chkB S qok n k K)=true) (hn:(S.fns.take n).length=n):cY1 S qok k K=true:=by
 rcases Bool.and_eq_true_iff.mp h with ⟨h1,h2⟩
 have h1:mFs (cS3 S qok K) 0 (S.fns.take n)=true:=h1
 unfold chkB at h2
 rcases Bool.and_eq_true_iff.mp h2 with ⟨h2,h5⟩
 rcases Bool.and_eq_true_iff.mp h2 with ⟨h2,h4⟩
 rcases Bool.and_eq_true_iff.mp h2 with ⟨h2,h3⟩
 have e:=bU3 (ys:=S.fns.drop n) h1 (by rw [hn,Nat.zero_add];exact h2)
 rw [List.take_append_drop] at e
 unfold cY1
 rw [e,h3,h4,h5];rfl
theorem cE2 {α β:Type} {x:Option α} {f:α->Bool} {g:α->β} {c1 c2:α->Bool} {G:β} (ha:x.map f=some true) (hb:x.map g=some G) (h1:x.map c1=some true) (h2:x.map c2=some true) {k:α->Bool×β×Bool} (hk:∀ s,k s=(f s,g s,c1 s&&c2 s)):x.map k=some (true,G,true):=by
 cases x with
 | none=>injection ha
 | some s=>
  have a:f s=true:=Option.some.inj ha
  have b:g s=G:=Option.some.inj hb
  have c:c1 s=true:=Option.some.inj h1
  have d:c2 s=true:=Option.some.inj h2
  show some (k s)=_
  rw [hk,a,b,c,d];rfl
end Mini.Internal
namespace Mini.Internal
open PySem
section
variable {S:Sig} {F:Fns} {r:Lo} {m:MH} {E:Nat->MH->Prop} {p q:Nat} {xs ys:List V} {v:V} {Q:V->MH->Prop}
theorem cR3 (h:m[p]?=some (.list xs)):smK (.ref p) m=some 0:=by unfold smK;dsimp only;rw [h]
theorem aG3 {k:Int} (h:m[p]?=some (.list xs)) (hv:at_ xs k=some v) (hk:k.natAbs < 2 ^ 60) (q:Q v m):Wp (aX8 (.ref p) (.int k)) m Q E:=by
 refine aH (m':=m) ?_ q
 unfold aX8;dsimp only;rw [h];dsimp only;rw [if_pos hk,hv];rfl
theorem fD (h:m[p]?=some (.list xs)) (h':m[q]?=some (.list ys)) (hl:xs.length+ys.length <= lid) (k:∀ p m',Le m m'->m'[p]?=some (.list (xs++ys))->m.length <= p->Q (.ref p) m'):Wp (bY8 .Add (.ref p) (.ref q)) m Q E:=by
 refine aH (a:=.ref m.length) (m':=m++[.list (xs++ys)]) ?_ (k _ _ (.app _ _) bW (Nat.le_refl _))
 show (match m[p]?,m[q]? with | some (.list x),some (.list y)=>if x.length+y.length <= lid then alloc (.list (x++y)) m else .bad | _,_=>.bad)=_
 rw [h,h']
 show (if xs.length+ys.length <= lid then alloc (.list (xs++ys)) m else .bad)=_
 rw [if_pos hl];rfl
theorem bM6 (h:m[p]?=some (.list xs)) (k:Q (.int xs.length) m):Wp (biV .len [.ref p]) m Q E:=by
 refine aH (m':=m) ?_ k
 unfold biV;dsimp only;rw [h]
theorem bC3:∀ bs:List Bool,bR (bs.map .bool)=some bs
 | []=>rfl
 | b::bs=>by
  show (bR (bs.map .bool)).map (b::·)=_
  rw [bC3 bs];rfl
theorem cP6 {bs:List Bool} {b:Bool} (h:m[p]?=some (.list (bs.map .bool))) (k:Q (.int (bs.count b)) m):Wp (dD 0 (.ref p) .count [.bool b]) m Q E:=by
 refine aH (m':=m) ?_ k
 show (match m[p]? with | some (.list xs)=>bK1 p xs .count [.bool b] m | _=>.bad)=_
 rw [h]
 show (match bR (bs.map V.bool) with | some bs=>Res.ok (V.int (bs.count b)) m | Option.none=>.bad)=_
 rw [bC3]
theorem cP5 {bs:List Bool} {b:Bool} (h:m[p]?=some (.list (bs.map .bool))) (hc:bs.contains b=true) (k:Q (.int (bs.idxOf b)) m):Wp (dD 0 (.ref p) .index [.bool b]) m Q E:=by
 refine aH (m':=m) ?_ k
 show (match m[p]? with | some (.list xs)=>bK1 p xs .index [.bool b] m | _=>.bad)=_
 rw [h]
 show (match bR (bs.map V.bool) with | some bs=>if bs.contains b then Res.ok (V.int (bs.idxOf b)) m else .bad | Option.none=>.bad)=_
 rw [bC3]
 show (if bs.contains b then Res.ok (V.int (bs.idxOf b)) m else .bad)=_
 rw [if_pos hc]
theorem dR {n:Nat} (h:m[n]?=some (.list xs)):(Gd.list n xs).stays m=true:=by
 show (match m[n]? with | some (.list ys)=>V.sames xs ys | _=>false)=true
 rw [h];exact fP xs
theorem fV {Q:List V×Gd->MH->Prop} (h:m[p]?=some (.list xs)) (k:Q (xs,.list p xs) m):Wp (aB1 .expr [.ref p]) m Q E:=by
 refine aH (m':=m) ?_ k
 unfold aB1 eX;dsimp only;rw [h]
end
theorem aX9 {g:Gd} {step:V->Lo->Mn (Fl×Lo)} {Q:Fl×Lo->MH->Prop} {E:Nat->MH->Prop} (I:List V->Lo->MH->Prop) (hg:∀ xs r m,I xs r m->g.stays m=true)
  (hs:∀ x xs r m,I (x::xs) r m->Wp (step x r) m (bL8 Q I xs) E) (hn:∀ r m,I [] r m->Q (.next,r) m) :
  ∀ (xs:List V) (r:Lo) (m:MH),I xs r m->Wp (aN2 g step xs r) m Q E
 | [],r,m,h=>by
  refine aH (m':=m) ?_ (hn r m h)
  show (if g.stays m then _ else _)=_
  rw [if_pos (hg _ _ _ h)]
 | x::xs,r,m,h=>by
  have e:aN2 g step (x::xs) r m=(step x r m).bind (fun p=>match p.1 with | .ret x=>ret (.ret x,p.2) | _=>aN2 g step xs p.2):=if_pos (hg _ _ _ h)
  have k:=hs x xs r m h
  unfold Wp at k ⊢
  rw [e]
  cases q:step x r m with
  | bad=>rw [q] at k;exact k
  | exc c m1=>rw [q] at k;exact k
  | ok p m1=>
   rw [q] at k
   rcases p with ⟨f,r1⟩
   cases f with
   | ret v=>exact k
   | next=>exact aX9 I hg hs hn xs r1 m1 k
   | cont=>exact aX9 I hg hs hn xs r1 m1 k
theorem cE1 {S:Sig} {F:Fns} {k:IK} {t:CT} {src:List CE} {body ss:List CS} {r:Lo} {m:MH} {Q:Fl×Lo->MH->Prop} {E:Nat->MH->Prop} (h:Wp (evs S F src r) m (fun vs m'=>Wp (aB1 k vs) m' (fun p m'=>∃ I:List V->Lo->MH->Prop,I p.1 r m' /\ (∀ xs r m,I xs r m->p.2.stays m=true) /\
      (∀ x xs r m,I (x::xs) r m->Wp (aH5 t x r) m (fun r' m'=>Wp (exs S F body r') m' (bL8 Q I xs) E) E) /\ (∀ r m,I [] r m->Wp (exs S F ss r) m Q E)) E) E):Wp (exs S F (.for_ k t src body::ss) r) m Q E:=by
  refine fX (aM (x:=evs S F src r) (wp_mono h (fun vs m' h=>aM (x:=aB1 k vs) (wp_mono h (fun p m' h=>?_) fun y_ y_ q=>q)) fun y_ y_ q=>q))
  rcases h with ⟨I,h0,hg,hs,hn⟩
  exact aX9 I hg (fun x xs r m hi=>aM (x:=aH5 t x r) (wp_mono (hs x xs r m hi) (fun r' m' q=>wp_mono q (fun p m' q=>by rcases p with ⟨f,r1⟩;cases (f) <;> exact q) fun y_ y_ q=>q) fun y_ y_ q=>q)) hn p.1 r m' h0
theorem bC9 {g:Gd} {step:V->Mn (Option V)} {Q:List V->MH->Prop} {E:Nat->MH->Prop} (I:List V->List V->MH->Prop) (hg:∀ xs l m,I xs l m->g.stays m=true)
  (hs:∀ x xs l m,I (x::xs) l m->Wp (step x) m (fun o m'=>I xs (l++eP o []) m') nox) (hn:∀ l m,I [] l m->Q l m) :
  ∀ (xs l:List V) (m:MH),I xs l m->Wp (bS g step xs) m (fun l' m'=>Q (l++l') m') E
 | [],l,m,h=>by
  refine aH (a:=[]) (m':=m) (if_pos (hg _ _ _ h)) ?_
  rw [List.append_nil];exact hn l m h
 | x::xs,l,m,h=>by
  rcases aL5 (hs x xs l m h) with ⟨o,m1,e,k⟩
  have e2:bS g step (x::xs) m=((step x m).nox).bind (fun o=>bnd (bS g step xs) fun r=>ret (eP o r)):=if_pos (hg _ _ _ h)
  have ih:=bC9 (E:=E) I hg hs hn xs _ m1 k
  have e3:bS g step (x::xs) m=(bS g step xs m1).bind (fun r=>ret (eP o r)):=by rw [e2,e];rfl
  unfold Wp at ih ⊢
  rw [e3]
  cases q:bS g step xs m1 with
  | bad=>rw [q] at ih;exact ih
  | exc c m2=>rw [q] at ih;exact ih
  | ok l' m2=>
   rw [q] at ih
   have ih:Q (l++eP o []++l') m2:=ih
   show Q (l++eP o l') m2
   have e4:l++eP o []++l'=l++eP o l':=by cases (o) <;> simp [eP]
   rw [<- e4];exact ih
theorem cS9 {S:Sig} {F:Fns} {elt:CE} {k:IK} {t:CT} {nl:Nat} {src:List CE} {ifs:List CB} {r:Lo} {m:MH} {Q:V->MH->Prop} {E:Nat->MH->Prop} (h:Wp (evs S F src r) m (fun vs m'=>Wp (aB1 k vs) m' (fun p m'=>∃ I:List V->List V->MH->Prop,I p.1 [] m' /\ (∀ xs l m,I xs l m->p.2.stays m=true) /\
      (∀ x xs l m,I (x::xs) l m->Wp (aH5 t x (r++List.replicate nl Option.none)) m (fun r' m'=>Wp (bL9 S F ifs r') m' (fun b m'=>bif b then Wp (ev S F elt r') m' (fun y m'=>I xs (l++[y]) m') nox else I xs l m') nox) nox) /\ (∀ l m,I [] l m->l.length <= lid /\ ∀ p m',Le m m'->m'[p]?=some (.list l)->m.length <= p->Q (.ref p) m')) E) E):Wp (ev S F (.comp elt t nl k src ifs) r) m Q E:=by
  refine aM (x:=evs S F src r) (wp_mono h (fun vs m' h=>aM (x:=aB1 k vs) (wp_mono h (fun p m' h=>?_) fun y_ y_ q=>q)) fun y_ y_ q=>q)
  rcases h with ⟨I,h0,hg,hs,hn⟩
  refine aM ?_
  refine bC9 (Q:=fun l m'=>Wp (if l.length <= lid then alloc (.list l) else bad) m' Q E) I hg (fun x xs l m hi=>?_) (fun l m hi=>?_) p.1 [] m' h0
  · refine aM (x:=aH5 t x _) (wp_mono (hs x xs l m hi) (fun r' m' q=>aM (x:=bL9 S F ifs r') (wp_mono q (fun b m' q=>?_) fun y_ y_ q=>q)) fun y_ y_ q=>q)
    cases b with
    | true=>exact aM (x:=ev S F elt r') (wp_mono q (fun y m' q=>q) fun y_ y_ q=>q)
    | false=>show I xs (l++[]) m';rw [List.append_nil];exact q
  · rcases hn l m hi with ⟨h1,h2⟩
    rw [if_pos h1]
    exact aL h2
theorem bA9 {S:Sig} {F:Fns} {c:CB} {r:Lo} {m:MH} {Q:Bool->MH->Prop} {E:Nat->MH->Prop} (h:Wp (evT S F c r) m Q E):Wp (bL9 S F [c] r) m Q E:=by
 refine aM (x:=evT S F c r) (wp_mono h (fun b m' q=>?_) fun y_ y_ q=>q)
 cases (b) <;> exact q
theorem bZ8 {α β:Type} {g:α->Option β} {x:α} {xs:List α} {d:β} {ds:List β} (h1:g x=some d) (h2:eS g xs=some ds):eS g (x::xs)=some (d::ds):=by
 show (match g x,eS g xs with | some d,some ds=>some (d::ds) | _,_=>none)=_
 rw [h1,h2]
theorem bZ7 {α β:Type} {g:α->Option β} {x:α} {xs:List α} (h1:g x=none):eS g (x::xs)=none:=by
 show (match g x,eS g xs with | some d,some ds=>some (d::ds) | _,_=>none)=_
 rw [h1]
theorem bS2 (m:MH):∀ is:List Int,eS (rd cP m) (is.map V.int)=some (is.map PyData.int)
 | []=>rfl
 | i::is=>bZ8 rfl (bS2 m is)
theorem cW1 {m:MH} {p:Nat} {is:List Int} (h:m[p]?=some (.list (is.map V.int))) (x:Int):inV (.int x) (.ref p) m=.ok (is.any fun j=>j == x) m:=by
 unfold inV;dsimp only;rw [h];dsimp only;rw [bS2]
 show Res.ok ((is.map PyData.int).any fun e=>PyData.eqv e (.int x)) m=_
 rw [List.any_map];rfl
end Mini.Internal
namespace Mini.Internal
open PySem
theorem md0 {x n:Int} (h:0 < n):0 <= x % n:=Int.emod_nonneg _ (Int.ne_of_gt h)
theorem md1 {x n:Int} (h:0 < n):x % n < n:=Int.emod_lt_of_pos _ h
theorem aJ7 {a b:Int} {c:Nat} (h0:0 <= a) (h1:a < b) (h2:b <= (c:Int)):a.natAbs < c:=Int.ofNat_lt.mp (by rw [Int.natAbs_of_nonneg h0];exact Int.lt_of_lt_of_le h1 h2)
theorem abs60 {a b:Int} (h0:0 <= a) (h1:a < b) (h2:b <= 1000000):a.natAbs < 2 ^ 60:=Nat.lt_of_lt_of_le (aJ7 (c:=1000000) h0 h1 h2) (by decide)
theorem md60 {x n:Int} (h:0 < n) (h2:n <= 1000000):(x % n).natAbs < 2 ^ 60:=abs60 (md0 h) (md1 h) h2
theorem md30 {x n:Int} (h:0 < n) (h2:n <= 1000000):(x % n).natAbs < 1073741824:=Nat.lt_of_lt_of_le (aJ7 (c:=1000000) (md0 h) (md1 h) h2) (by decide)
theorem bP3 {a:Int} {n:Nat} (h0:0 <= a) (h:a < (n:Int)):a.toNat < n:=(Int.toNat_lt h0).mpr h
theorem cZ {a b:Int} (h:a <= b):a.toNat <= b.toNat:=Int.toNat_le_toNat h
theorem mdN {x n:Int} {k:Nat} (h:0 < n) (hk:n <= (k:Int)):(x % n).toNat < k:=bP3 (md0 h) (Int.lt_of_lt_of_le (md1 h) hk)
theorem cU2 {x n:Int} (h:0 < n):x % n=((x % n).toNat:Int):=(Int.toNat_of_nonneg (md0 h)).symm
theorem cV {n k:Nat} (h:n <= k) (hk:k <= 1000000):n <= lid:=Nat.le_trans h (Nat.le_trans hk (by decide))
theorem bL {α:Type} {p:α->Prop}:∀ x∈([]:List α),p x:=fun y_ h=>absurd h List.not_mem_nil
theorem aI {α:Type} {p:α->Prop} {a:α} {l:List α} (h:p a) (t:∀ x∈l,p x):∀ x∈a::l,p x:=List.forall_mem_cons.mpr ⟨h,t⟩
theorem dJ4 (x:Int):0 <= (if x < 0 then -x else x):=by
 by_cases h:x < 0
 ·rw [if_pos h];exact Int.neg_nonneg_of_nonpos (Int.le_of_lt h)
 ·rw [if_neg h];exact Int.not_lt.mp h
theorem aG4 {x:Mn V} {m:MH} {a:V} {Q:V->MH->Prop} {E:Nat->MH->Prop} (h:Wp x m (fun u m'=>u=a /\ Le m m') nox) (k:∀ m',Le m m'->Q a m'):Wp x m Q E:=aX h fun y_ m' z=>z.1▸k m' z.2
theorem bI4 {xs:List V} {x n:Int} (h:0 < n) (hn:n=(xs.length:Int)):∃ v,at_ xs (x % n)=some v /\ v∈xs:=by
 have:(x % n).toNat < xs.length:=mdN h (Int.le_of_eq hn)
 refine ⟨xs[(x % n).toNat],?_,List.getElem_mem this⟩
 unfold at_;rw [if_pos (md0 h),List.getElem?_eq_getElem this]
theorem bM3 {α:Type} {g:Gd} {step:V->Mn (Option V)} {vv ww:α->V} {keep:α->Bool} {M:MH->Prop} (hg:∀ m,M m->g.stays m=true):∀ {zs:List α},(∀ z∈zs,∀ m,M m->Wp (step (vv z)) m (fun o m'=>o=(bif keep z then some (ww z) else none) /\ M m') nox)->∀ m,M m->Wp (bS g step (zs.map vv)) m (fun l m'=>l=(zs.filter keep).map ww /\ M m') nox:=by
 intro zs
 induction zs with
 | nil=>intro _ m hm;exact aH (a:=[]) (m':=m) (if_pos (hg m hm)) ⟨rfl,hm⟩
 | cons z zs ih=>
  intro hs m hm
  rcases aL5 (hs z (.head _) m hm) with ⟨o,m1,e,q1⟩
  rcases aL5 (ih (fun z hz=>hs z (.tail _ hz)) m1 q1.2) with ⟨l,m2,e2,q2⟩
  refine aH (a:=eP o l) (m':=m2) ?_ ⟨?_,q2.2⟩
  ·have e3:bS g step ((z::zs).map vv) m=((step (vv z) m).nox).bind (fun o=>bnd (bS g step (zs.map vv)) fun r=>ret (eP o r)):=if_pos (hg m hm)
   rw [e3,e]
   show Res.bind (bS g step (zs.map vv) m1) _=_
   rw [e2];rfl
  ·rw [q1.1,q2.1,List.filter_cons]
   cases keep z <;> rfl
theorem aP5 {S:Sig} {F:Fns} {elt:CE} {k:IK} {t:CT} {nl:Nat} {src:List CE} {ifs:List CB} {r:Lo} {m:MH} {Q:V->MH->Prop} {E:Nat->MH->Prop} {α:Type} (zs:List α) (vv ww:α->V) (keep:α->Bool) (M:MH->Prop)
  (h:Wp (evs S F src r) m (fun vs m'=>Wp (aB1 k vs) m' (fun p m'=>p.1=zs.map vv /\ M m' /\ (∀ m,M m->p.2.stays m=true) /\
   (∀ z∈zs,∀ m,M m->Wp (aH5 t (vv z) (r++List.replicate nl Option.none)) m (fun r' m'=>Wp (bL9 S F ifs r') m' (fun b m'=>b=keep z /\ (bif b then Wp (ev S F elt r') m' (fun y m'=>y=ww z /\ M m') nox else M m')) nox) nox) /\
   zs.length <= lid /\ ∀ p m1 m2,M m1->Le m1 m2->m2[p]?=some (.list ((zs.filter keep).map ww))->m1.length <= p->Q (.ref p) m2) E) E):Wp (ev S F (.comp elt t nl k src ifs) r) m Q E:=by
 refine aM (x:=evs S F src r) (wp_mono h (fun vs m' h=>aM (x:=aB1 k vs) (wp_mono h (fun p m' h=>?_) fun y_ y_ q=>q)) fun y_ y_ q=>q)
 rcases h with ⟨e0,h0,hg,hs,hl,hn⟩
 rw [e0]
 refine aM (aX (bM3 (keep:=keep) (ww:=ww) hg (fun z hz m hm=>?_) m' h0) fun l m1 q=>?_)
 ·refine aM (x:=aH5 t (vv z) _) (wp_mono (hs z hz m hm) (fun r' m' q=>aM (x:=bL9 S F ifs r') (wp_mono q (fun b m' q=>?_) fun y_ y_ q=>q)) fun y_ y_ q=>q)
  rcases q with ⟨e,q⟩
  rw [e] at q ⊢
  cases hk:keep z with
  | true=>rw [hk] at q;exact aM (x:=ev S F elt r') (wp_mono q (fun y m' q=>⟨congrArg some q.1,q.2⟩) fun y_ y_ q=>q)
  | false=>rw [hk] at q;exact ⟨rfl,q⟩
 ·have hle:l.length <= lid:=by rw [q.1,List.length_map];exact Nat.le_trans (List.length_filter_le _ _) hl
  rw [if_pos hle]
  exact aL fun p m2 l2 k g=>hn p m1 m2 q.2 l2 (q.1▸k) g
theorem aN3 {α:Type} (zs:List α):(zs.filter fun y_=>true)=zs:=List.filter_eq_self.mpr fun y_ y_=>rfl
theorem bS6 {S:Sig} {F:Fns} {elt:CE} {k:IK} {t:CT} {nl:Nat} {src:List CE} {r:Lo} {m:MH} {Q:V->MH->Prop} {E:Nat->MH->Prop} {α:Type} (zs:List α) (vv ww:α->V) (M:MH->Prop)
  (h:Wp (evs S F src r) m (fun vs m'=>Wp (aB1 k vs) m' (fun p m'=>p.1=zs.map vv /\ M m' /\ (∀ m,M m->p.2.stays m=true) /\
   (∀ z∈zs,∀ m,M m->Wp (aH5 t (vv z) (r++List.replicate nl Option.none)) m (fun r' m'=>Wp (ev S F elt r') m' (fun y m'=>y=ww z /\ M m') nox) nox) /\
   zs.length <= lid /\ ∀ p m1 m2,M m1->Le m1 m2->m2[p]?=some (.list (zs.map ww))->m1.length <= p->Q (.ref p) m2) E) E):Wp (ev S F (.comp elt t nl k src []) r) m Q E:=by
 refine aP5 zs vv ww (fun y_=>true) M (wp_mono h (fun vs m' h=>wp_mono h (fun p m' h=>?_) fun y_ y_ q=>q) fun y_ y_ q=>q)
 rcases h with ⟨e0,h0,hg,hs,hl,hn⟩
 refine ⟨e0,h0,hg,fun z hz m hm=>wp_mono (hs z hz m hm) (fun r' m' q=>aC rfl ⟨rfl,q⟩) fun y_ y_ q=>q,hl,?_⟩
 rw [aN3];exact hn
theorem aH6 {S:Sig} {F:Fns} {k:IK} {t:CT} {src:List CE} {body ss:List CS} {r:Lo} {m:MH} {Q:Fl×Lo->MH->Prop} {E:Nat->MH->Prop} {α:Type} (zs:List α) (vv:α->V) (I:List α->Lo->MH->Prop) (h:Wp (evs S F src r) m (fun vs m'=>Wp (aB1 k vs) m' (fun p m'=>p.1=zs.map vv /\ I zs r m' /\ (∀ zs r m,I zs r m->p.2.stays m=true) /\
      (∀ z zs r m,I (z::zs) r m->Wp (aH5 t (vv z) r) m (fun r' m'=>Wp (exs S F body r') m' (bL8 Q I zs) E) E) /\ (∀ r m,I [] r m->Wp (exs S F ss r) m Q E)) E) E):Wp (exs S F (.for_ k t src body::ss) r) m Q E:=by
  refine cE1 (wp_mono h (fun vs m' h=>wp_mono h (fun p m' h=>?_) fun y_ y_ q=>q) fun y_ y_ q=>q)
  rcases h with ⟨e0,h0,hg,hs,hn⟩
  refine ⟨fun xs r m=>∃ z,xs=z.map vv /\ I z r m,⟨zs,e0,h0⟩,fun y_ y_ y_ ⟨_,_,q⟩=>hg _ _ _ q,?_,?_⟩
  · rintro x xs r m ⟨z,e,q⟩
    cases z with
    | nil=>injection e
    | cons c z=>
      cases (e)
      refine wp_mono (hs c z r m q) (fun r' m' q=>wp_mono q (fun p m' q=>?_) fun y_ y_ q=>q) fun y_ y_ q=>q
      rcases p with ⟨f,r1⟩
      cases f with
      | ret v=>exact q
      | next=>exact ⟨z,rfl,q⟩
      | cont=>exact ⟨z,rfl,q⟩
  · rintro r m ⟨z,e,q⟩
    cases z with
    | nil=>exact hn r m q
    | cons c z=>injection e
theorem aG {S:Sig} {F:Fns} {r:Lo} {m:MH} {a:CE} {as:List CE} {v:V} {vs:List V} (ha:ev S F a r m=.ok v m) (hs:evs S F as r m=.ok vs m):evs S F (a::as) r m=.ok (v::vs) m:=by
 show Res.bind (ev S F a r m) _=_
 rw [ha]
 show Res.bind (evs S F as r m) _=_
 rw [hs];rfl
theorem aC0 {S:Sig} {F:Fns} {r:Lo} {m:MH} {as:List CE} {vs:List V} (hs:evs S F as r m=.ok vs m):ev S F (.tup as) r m=.ok (.tup vs) m:=by
 show Res.bind (evs S F as r m) _=_
 rw [hs];rfl
end Mini.Internal
namespace Mini.Internal
open PySem
inductive Pl (m:MH):V->Prop
 | none:Pl m .none
 | bool (b:Bool):Pl m (.bool b)
 | int (i:Int):Pl m (.int i)
 | str (s:Str) (h:s.length <= 64):Pl m (.str s)
 | tup (xs:List V) (h:xs.length <= 64):Pl m (.tup xs)
 | list (p:Nat) (xs:List V) (h:m[p]?=some (.list xs)):Pl m (.ref p)
 | dict (p:Nat) (kvs:List (Ky×V)) (e:Nat) (h:m[p]?=some (.dict kvs e)):Pl m (.ref p)
theorem Pl.le {m m':MH} (l:Le m m') {v:V} (h:Pl m v):Pl m' v:=by
 cases h with
 | none=>exact .none
 | bool b=>exact .bool b
 | int i=>exact .int i
 | str s h=>exact .str s h
 | tup xs h=>exact .tup xs h
 | list p xs hp=>exact .list p xs (l.has hp)
 | dict p kvs e hp=>exact .dict p kvs e (l.has hp)
noncomputable def vI:V->Bool | .int _=>true | .bool _=>true | _=>false
noncomputable def vB:V->Bool | .bool _=>true | _=>false
noncomputable def vS:V->Bool | .str _=>true | _=>false
noncomputable def vT:V->Bool | .tup _=>true | _=>false
noncomputable def vW:V->Bool | .int _=>true | _=>false
section
variable {S:Sig} {m:MH} {v:V}
theorem cV1 (h:Pl m v):eB S v .int m=.ok (vI v) m:=by
 cases h with
 | list p xs hp=>unfold eB;dsimp only;rw [hp];rfl
 | dict p kvs e hp=>unfold eB;dsimp only;rw [hp];rfl
 | _=>rfl
theorem cG9 (h:Pl m v):eB S v .bool m=.ok (vB v) m:=by
 cases h with
 | list p xs hp=>unfold eB;dsimp only;rw [hp];rfl
 | dict p kvs e hp=>unfold eB;dsimp only;rw [hp];rfl
 | _=>rfl
theorem bA4 (h:Pl m v):eB S v .str m=.ok (vS v) m:=by
 cases h with
 | list p xs hp=>unfold eB;dsimp only;rw [hp];rfl
 | dict p kvs e hp=>unfold eB;dsimp only;rw [hp];rfl
 | _=>rfl
theorem bA3 (h:Pl m v):eB S v .tuple m=.ok (vT v) m:=by
 cases h with
 | list p xs hp=>unfold eB;dsimp only;rw [hp];rfl
 | dict p kvs e hp=>unfold eB;dsimp only;rw [hp];rfl
 | _=>rfl
end
section
variable {S:Sig} {F:Fns} {r:Lo} {m:MH}
theorem aH8 {a:CE} {t:Ty} {x:V} {b:Bool} (ha:ev S F a r m=.ok x m) (h:eB S x t m=.ok b m):ev S F (.isi a t) r m=.ok (.bool b) m:=by
 show Res.bind (ev S F a r m) _=_
 rw [ha]
 show Res.bind (eB S x t m) _=_
 rw [h];rfl
theorem dD3 {a:CE} {b:Bool} (ha:ev S F a r m=.ok (.bool b) m):ev S F (.not a) r m=.ok (.bool (!b)) m:=by
 show Res.bind (ev S F a r m) _=_
 rw [ha];rfl
theorem dD2 {a:CE} {c:Bool} {v:V} (ha:ev S F a r m=.ok v m):ev S F (.boolop c [a]) r m=.ok v m:=ha
theorem bA {a:CE} {k:Nat} {x v:V} (ha:ev S F a r m=.ok x m) (h:F k [x] m=.ok v m):ev S F (.call k [a]) r m=.ok v m:=by
 show Res.bind (Res.bind (ev S F a r m) _) _=_
 rw [ha];exact h
theorem eD {as:List CE} {k:Nat} {vs:List V} {v:V} (ha:evs S F as r m=.ok vs m) (h:F k vs m=.ok v m):ev S F (.call k as) r m=.ok v m:=by
 show Res.bind (evs S F as r m) _=_
 rw [ha];exact h
theorem aU {a b:CE} {o:CmpOp} {x y:V} {t:Bool} (ha:ev S F a r m=.ok x m) (hb:ev S F b r m=.ok y m) (h:aF9 o x y m=.ok t m):ev S F (.cmp a [o] [b]) r m=.ok (.bool t) m:=by
 show Res.bind (ev S F a r m) _=_
 rw [ha]
 show Res.bind (ev S F b r m) _=_
 rw [hb]
 show Res.bind (aF9 o x y m) _=_
 rw [h];rfl
theorem aV {c:CB} {a b ss:List CS} {t:Bool} {Q:Fl×Lo->MH->Prop} {E:Nat->MH->Prop} (h:evT S F c r m=.ok t m) (k:Wp (exs S F ((bif t then a else b)++ss) r) m Q E):Wp (exs S F (.ite c a b::ss) r) m Q E:=aE6 (aH h k)
theorem b8 {c:Bool}:aW1 S F c [] r m=.ok c m:=rfl
theorem cJ {c:Bool} {bs:List CB} {b:Bool} (h:aW1 S F c bs r m=.ok b m):evT S F (.all c bs) r m=.ok b m:=h
end
theorem dW {α:Type} {x:Mn α} {m:MH} {a:α} (h:Wp x m (fun v m'=>v=a /\ m'=m) nox):x m=.ok a m:=by
 rcases aL5 h with ⟨y_,y_,e,rfl,rfl⟩
 exact e
noncomputable def b_at:List CS:=[.ite (.val (.cmp (.var 1) [.Lt] [.bi .len [.var 0]])) [.ret (.idx (.var 0) (.var 1))] [],.ret (.cnst (.int 0))]
noncomputable def at0 (ns:List Int) (k:Int):Int:=(ns[k.toNat]?).getD 0
theorem cY7 {S:Sig} {k:Nat} (h:b9 S k 2 2 b_at) (n:Nat) (ns:List Int) (j:Int) (hj:0 <= j) (m:MH):run S (n+1) k [.scr ns,.int j] m=.ok (.int (at0 ns j)) m:=by
 refine dW (bF h rfl (aV (t:=decide (j < (ns.length:Int))) rfl ?_))
 by_cases hl:j < (ns.length:Int)
 ·rw [decide_eq_true hl]
  refine a9 (aE4 (aC rfl (aC rfl (aH (a:=.int (at0 ns j)) (m':=m) ?_ ⟨rfl,rfl⟩))))
  show (if 0 <= j then ofO ((ns[j.toNat]?).map V.int) m else .bad)=_
  rw [if_pos hj]
  unfold at0
  rw [List.getElem?_eq_getElem ((Int.toNat_lt hj).mpr hl)];rfl
 ·rw [decide_eq_false hl]
  refine a9 (aC rfl ⟨?_,rfl⟩)
  unfold at0
  rw [List.getElem?_eq_none (Nat.le_of_not_lt fun c=>hl ((Int.toNat_lt hj).mp c))];rfl
noncomputable def eQ:List CS:=[.ret (.boolop true [.isi (.var 0) .int,.not (.isi (.var 0) .bool)])]
theorem aA7 {S:Sig} {k:Nat} (h:b9 S k 1 1 eQ) (n:Nat) {m:MH} {v:V} (hv:Pl m v):run S (n+1) k [v] m=.ok (.bool (vW v)) m:=by
 refine dW (bF h rfl (a9 (aH (cE3 (aH8 rfl (cV1 hv)) (dD2 (dD3 (aH8 rfl (cG9 hv))))) ⟨?_,rfl⟩)))
 cases (hv) <;> rfl
noncomputable def aN9 (kW gM c:Nat):List CS:=[.ite (.all false [.not (.val (.call kW [.var 0])),.not (.val (.cmp (.cnst (.int 1)) [.LtE,.LtE] [.var 0,.glob gM]))]) [.rse c (Str.ofString "a town has 1 to 12 houses")] []]
noncomputable def isC:V->Bool | .int i=>decide (1 <= i)&&decide (i <= 12) | _=>false
theorem bT5 {S:Sig} {k kW gM c:Nat} {gn:Str} (h:b9 S k 1 1 (aN9 kW gM c)) (hW:b9 S kW 1 1 eQ) (hM:S.globs[gM]?=some (gn,.int 12)) (n:Nat) {m:MH} {v:V} (hv:Pl m v):run S (n+2) k [v] m=if isC v then .ok .none m else .exc c m:=by
 have e1:ev S (run S (n+1)) (.call kW [.var 0]) [some v] m=.ok (.bool (vW v)) m:=aA7 hW n hv
 have eg:ev S (run S (n+1)) (.glob gM) [some v] m=.ok (.int 12) m:=by
  show (match S.globs[gM]? with | some p=>ret p.2.val | Option.none=>bad) m=_
  rw [hM];rfl
 have e3:aW1 S (run S (n+1)) false [.not (.val (.call kW [.var 0])),.not (.val (.cmp (.cnst (.int 1)) [.LtE,.LtE] [.var 0,.glob gM]))] [some v] m=.ok (!isC v) m:=by
  have no:vW v=false->isC v=false->aW1 S (run S (n+1)) false [.not (.val (.call kW [.var 0])),.not (.val (.cmp (.cnst (.int 1)) [.LtE,.LtE] [.var 0,.glob gM]))] [some v] m=.ok (!isC v) m:=fun h1 h2=>by
   show Res.bind (evT S (run S (n+1)) (.not (.val (.call kW [.var 0]))) [some v] m) _=_
   rw [bM (aO e1),h1,h2];rfl
  cases hv with
  | int i=>exact (aW (bM (aO e1)) (aW (bM (aO (aC1 rfl rfl eg rfl rfl))) b8)).trans (by rw [Bool.or_false];rfl)
  | _=>exact no rfl rfl
 rw [bR7 h rfl]
 show Res.bind (Res.bind (Res.bind (aW1 S (run S (n+1)) false [.not (.val (.call kW [.var 0])),.not (.val (.cmp (.cnst (.int 1)) [.LtE,.LtE] [.var 0,.glob gM]))] [some v] m) _) _) _=_
 rw [e3]
 cases isC v <;> rfl
end Mini.Internal
namespace Mini.Internal
open PySem
noncomputable def letterS:Str:=Str.ofString "abcdefghijklmnopqrstuvwxyz"
noncomputable def letters:List Nat:=letterS.cps.toList
noncomputable def okC (c:Nat):Bool:=decide (c∈letters)
noncomputable def ch (c:Nat):V:=.str ⟨#[c]⟩
noncomputable def cA1 (s:Str):Bool:=decide ((1:Int) <= (s.length:Int))&&decide ((s.length:Int) <= 8)
noncomputable def cN5:V->Bool | .str s=>!cA1 s | _=>true
noncomputable def aF5:V->Bool | .str s=>cA1 s&&s.cps.toList.all okC | _=>false
section
variable {S:Sig} {F:Fns} {m:MH}
theorem cL4 {s:Str} {r:Lo} {a:CE} (ha:ev S F a r m=.ok (.str s) m) (h:s.length <= lid):ev S F (.bi .len [a]) r m=.ok (.int s.length) m:=by
 show Res.bind (Res.bind (ev S F a r m) _) _=_
 rw [ha]
 exact if_pos h
theorem dD4 {xs:List V} {r:Lo} {a:CE} (ha:ev S F a r m=.ok (.tup xs) m) (h:xs.length <= lid):ev S F (.bi .len [a]) r m=.ok (.int xs.length) m:=by
 show Res.bind (Res.bind (ev S F a r m) _) _=_
 rw [ha]
 exact if_pos h
theorem aH9 {g:Nat} {nm:Str} {l:Lt} {r:Lo} (h:S.globs[g]?=some (nm,l)):ev S F (.glob g) r m=.ok l.val m:=by
 show (match S.globs[g]? with | some p=>ret p.2.val | Option.none=>bad) m=_
 rw [h];rfl
theorem cF9 {r:Lo} {v:V} {x y:CE} (hv:Pl m v) (hx:ev S F x r m=.ok v m) (hy:ev S F y r m=.ok (.int 8) m) :
  evT S F (.all false [.not (.val (.isi x .str)),.not (.val (.cmp (.cnst (.int 1)) [.LtE,.LtE] [.bi .len [x],y]))]) r m=.ok (cN5 v) m:=by
 have no:vS v=false->evT S F (.all false [.not (.val (.isi x .str)),.not (.val (.cmp (.cnst (.int 1)) [.LtE,.LtE] [.bi .len [x],y]))]) r m=.ok true m:=fun h=>by
  show Res.bind (evT S F (.not (.val (.isi x .str))) r m) _=_
  rw [bM (aO (aH8 hx (bA4 hv))),h];rfl
 cases hv with
 | str s hs=>exact (aW (bM (aO (aH8 hx (bA4 (.str s hs))))) (aW (bM (aO (aC1 rfl (cL4 hx (by unfold lid;lia)) hy rfl rfl))) b8)).trans (by rw [Bool.or_false];rfl)
 | _=>exact no rfl
end
noncomputable def fR (gL gM:Nat):List CS:=[
 .ite (.all false [.not (.val (.isi (.var 0) .str)),.not (.val (.cmp (.cnst (.int 1)) [.LtE,.LtE] [.bi .len [.var 0],.glob gM]))]) [.ret (.cnst (.bool false))] [],
 .for_ .expr (.one 1) [.var 0] [.ite (.val (.cmp (.var 1) [.NotIn] [.glob gL])) [.ret (.cnst (.bool false))] []],
 .ret (.cnst (.bool true))]
theorem aU4 {S:Sig} {k gL gM:Nat} {n1 n2:Str} (h:b9 S k 1 2 (fR gL gM)) (hL:S.globs[gL]?=some (n1,.str letterS)) (hM:S.globs[gM]?=some (n2,.int 8)) (n:Nat) {m:MH} {v:V} (hv:Pl m v):run S (n+1) k [v] m=.ok (.bool (aF5 v)) m:=by
 refine dW (bF h rfl (aV (cF9 hv rfl (aH9 hM)) ?_))
 have no:vS v=false->Wp (exs S (run S n) [.ret (.cnst (.bool false))] [some v,Option.none]) m (cA3 fun u m'=>u=.bool (aF5 v) /\ m'=m) nox:=fun h=>by
  refine a9 (aC rfl ⟨?_,rfl⟩)
  cases (v) <;> first | rfl | injection h
 cases hv with
 | str s hs=>
  rw [show cN5 (.str s)=!cA1 s from rfl]
  cases hr:cA1 s with
  | false=>
   refine a9 (aC rfl ⟨?_,rfl⟩)
   show V.bool false=.bool (cA1 s&&s.cps.toList.all okC)
   rw [hr];rfl
  | true=>
   refine aH6 s.cps.toList ch (fun zs r m'=>m'=m /\ (∃ u,r=[some (.str s),u]) /\ s.cps.toList.all okC=zs.all okC) (aC rfl (aC rfl ⟨rfl,⟨rfl,⟨_,rfl⟩,rfl⟩,fun y_ y_ y_ y_=>rfl,?_,?_⟩))
   ·rintro c zs r m' ⟨rfl,⟨u,rfl⟩,e⟩
    refine aC rfl (aV (t:=!okC c) (aO (aU rfl (aH9 hL) rfl)) ?_)
    rw [List.all_cons] at e
    cases hc:okC c with
    | true=>exact dE ⟨rfl,⟨_,rfl⟩,by rw [e,hc];rfl⟩
    | false=>
     refine a9 (aC rfl ⟨?_,rfl⟩)
     show V.bool false=.bool (cA1 s&&s.cps.toList.all okC)
     rw [e,hc,Bool.false_and,Bool.and_false]
   ·rintro r m' ⟨rfl,y_,e⟩
    refine a9 (aC rfl ⟨?_,rfl⟩)
    show V.bool true=.bool (cA1 s&&s.cps.toList.all okC)
    rw [hr,e];rfl
 | none=>exact no rfl
 | bool b=>exact no rfl
 | int i=>exact no rfl
 | tup xs h=>exact no rfl
 | list p xs hp=>exact no rfl
 | dict p kvs e hp=>exact no rfl
end Mini.Internal
namespace Mini.Internal
open PySem
section
variable {S:Sig} {F:Fns} {r:Lo} {m:MH}
theorem cO {a b:CE} {op:Operator} {x y v:V} (ha:ev S F a r m=.ok x m) (hb:ev S F b r m=.ok y m) (h:bY8 op x y m=.ok v m):ev S F (.bin op a b) r m=.ok v m:=by
 show Res.bind (ev S F a r m) _=_
 rw [ha]
 show Res.bind (ev S F b r m) _=_
 rw [hb];exact h
theorem aP3 {a b:CE} {x y v:V} (ha:ev S F a r m=.ok x m) (hb:ev S F b r m=.ok y m) (h:aX8 x y m=.ok v m):ev S F (.idx a b) r m=.ok v m:=by
 show Res.bind (ev S F a r m) _=_
 rw [ha]
 show Res.bind (ev S F b r m) _=_
 rw [hb];exact h
theorem cL9 {i j:Int} (h:i.natAbs < 1073741824 \/ j.natAbs < 1073741824):bY8 .Mult (.int i) (.int j) m=.ok (.int (i * j)) m:=if_pos h
theorem aT6 {i j:Int} (h:0 < j):bY8 .Mod (.int i) (.int j) m=.ok (.int (i % j)) m:=if_pos h
theorem aP0 {a:CB} {as:List CB} (ha:evT S F a r m=.ok true m):aW1 S F false (a::as) r m=.ok true m:=by
 show Res.bind (evT S F a r m) _=_
 rw [ha];rfl
end
end Mini.Internal
namespace Mini.Internal
open PySem
noncomputable def kq:List Nat:=(Str.ofString "kqxz").cps.toList
noncomputable def cS (b k:Int):Int:=b+31 * k * (b % 2)
noncomputable def size (b k:Int):Int:=cS b k / 26 % 8
noncomputable def letter (b k:Int) (j:Nat):Nat:=(letters[((cS b k+5 * (j:Int) * (1+cS b k % 3)) % 26).toNat]?).getD 0
noncomputable def bU (b k:Int):List Nat:=(List.range (size b k).toNat).map (letter b k)
noncomputable def here (b k:Int):Int:=if b % 2=0 then b / 4 % (size b k+1) else size b k
noncomputable def four:List Str:=[Str.ofString "say",Str.ofString "mark",Str.ofString "by",Str.ofString "house"]
noncomputable def fourL:List (List Nat):=four.map fun s=>s.cps.toList
noncomputable def kqx (k:Int):Nat:=(kq[(k % 4).toNat]?).getD 0
noncomputable def bE2 (b k:Int):List Nat:=if b % 9=4 then (fourL[(k % 4).toNat]?).getD []
 else (bU b k).take (here b k).toNat++[kqx k]++(bU b k).drop (here b k).toNat
noncomputable def row (b k:Int):Str:=⟨(bE2 b k).toArray⟩
theorem aO8 (b k:Int):0 <= size b k /\ size b k < 8:=by
 show 0 <= cS b k / 26 % 8 /\ cS b k / 26 % 8 < 8
 exact ⟨md0 (by decide),md1 (by decide)⟩
theorem aO7 (b k:Int):0 < size b k+1:=Int.lt_add_one_of_le (aO8 b k).1
theorem bW0 (b k:Int):0 <= here b k /\ here b k <= size b k:=by
 unfold here
 by_cases h:b % 2=0
 ·rw [if_pos h];exact ⟨md0 (aO7 b k),Int.le_of_lt_add_one (md1 (aO7 b k))⟩
 ·rw [if_neg h];exact ⟨(aO8 b k).1,Int.le_refl _⟩
theorem bD7 (b k:Int):(bU b k).length=(size b k).toNat:=by simp [bU]
theorem aI5:letters.length=26:=by decide +kernel
theorem cM1:kq.length=4:=by decide +kernel
theorem dF5:kq.all okC=true:=by decide +kernel
theorem cH9:(fourL.all fun l=>l.all okC&&decide (1 <= l.length)&&decide (l.length <= 8))=true:=by decide +kernel
theorem bA0:letters.all okC=true:=by decide +kernel
theorem bK2 (b k:Int) (j:Nat):okC (letter b k j)=true:=by
 have h4:((cS b k+5 * (j:Int) * (1+cS b k % 3)) % 26).toNat < letters.length:=by rw [aI5];exact mdN (by decide) (by decide)
 unfold letter
 rw [List.getElem?_eq_getElem h4]
 exact List.all_eq_true.mp bA0 _ (List.getElem_mem h4)
theorem cD4 (b k:Int):(bU b k).all okC=true:=by
 rw [List.all_eq_true]
 intro c hc
 rcases List.mem_map.mp hc with ⟨j,y_,rfl⟩
 exact bK2 b k j
theorem dF4 (k:Int):okC (kqx k)=true:=by
 have h4:(k % 4).toNat < kq.length:=by rw [cM1];exact mdN (by decide) (by decide)
 unfold kqx
 rw [List.getElem?_eq_getElem h4]
 exact List.all_eq_true.mp dF5 _ (List.getElem_mem h4)
theorem cL3 {l:List Nat} {n x:Nat}:(l.take n++[x]++l.drop n).length=l.length+1:=by
 rw [List.length_append,List.length_append,List.length_singleton,Nat.add_right_comm,<- List.length_append,List.take_append_drop]
theorem bS0 (b k:Int):(bE2 b k).all okC=true /\ 1 <= (bE2 b k).length /\ (bE2 b k).length <= 8:=by
 unfold bE2
 split
 ·have h4:(k % 4).toNat < fourL.length:=mdN (k:=4) (by decide) (by decide)
  rw [List.getElem?_eq_getElem h4]
  have:=List.all_eq_true.mp cH9 _ (List.getElem_mem h4)
  simp only [Bool.and_eq_true,decide_eq_true_eq] at this
  exact ⟨this.1.1,this.1.2,this.2⟩
 ·have hs:=aO8 b k
  have hh:=bW0 b k
  have hlen:=bD7 b k
  have ta:=cD4 b k
  have e:(bU b k).all okC=(((bU b k).take (here b k).toNat).all okC&&((bU b k).drop (here b k).toNat).all okC):=by rw [<- List.all_append,List.take_append_drop]
  rw [ta] at e
  rcases Bool.and_eq_true_iff.mp e.symm with ⟨e1,e2⟩
  refine ⟨?_,?_,?_⟩
  ·rw [List.all_append,List.all_append,e1,e2]
   show (true&&(okC (kqx k)&&true)&&true)=true
   rw [dF4];rfl
  ·rw [cL3];exact Nat.le_add_left _ _
  ·rw [cL3,hlen]
   exact Nat.succ_le_of_lt (bP3 hs.1 hs.2)
theorem aB8 (b k:Int):aF5 (.str (row b k))=true:=by
 rcases bS0 b k with ⟨h1,h2,h3⟩
 have e:(row b k).length=(bE2 b k).length:=by show (bE2 b k).toArray.size=_;rw [List.size_toArray]
 show (cA1 (row b k)&&(bE2 b k).toArray.toList.all okC)=true
 unfold cA1
 rw [e,decide_eq_true (show (1:Int) <= (bE2 b k).length from Int.ofNat_le.mpr h2),decide_eq_true (show ((bE2 b k).length:Int) <= 8 from Int.ofNat_le.mpr h3),h1];rfl
theorem bR9 (b k:Int):1 <= (row b k).length /\ (row b k).length <= 8:=by
 rcases bS0 b k with ⟨h1,h2,h3⟩
 have e:(row b k).length=(bE2 b k).length:=by show (bE2 b k).toArray.size=_;rw [List.size_toArray]
 rw [e];exact ⟨h2,h3⟩
theorem aH2 (a b:List Nat):(⟨a.toArray⟩:Str)++⟨b.toArray⟩=⟨(a++b).toArray⟩:=by
 show Str.append _ _=_
 simp [Str.append]
theorem bV6:∀ (cs:List Nat) (acc:List Nat),(cs.map fun c=>(⟨#[c]⟩:Str)).foldl (fun a p=>a++(Str.ofString "")++p) ⟨acc.toArray⟩=⟨(acc++cs).toArray⟩
 | [],acc=>by simp
 | c::cs,acc=>by
  have e0:Str.ofString ""=⟨([]:List Nat).toArray⟩:=by decide +kernel
  have e1:(⟨acc.toArray⟩:Str)++Str.ofString ""++⟨#[c]⟩=⟨(acc++[c]).toArray⟩:=by
   have e2:=aH2 acc []
   rw [List.append_nil] at e2
   rw [e0,e2];exact aH2 acc [c]
  rw [List.map_cons,List.foldl_cons,e1,bV6 cs (acc++[c])];simp
theorem cG5 (cs:List Nat):aK4 (Str.ofString "") (cs.map fun c=>(⟨#[c]⟩:Str))=⟨cs.toArray⟩:=by
 cases cs with
 | nil=>rfl
 | cons c cs=>exact bV6 cs [c]
theorem cK9:∀ (cs:List Nat) (k:Nat),(cs.map fun c=>(⟨#[c]⟩:Str)).foldl (fun k x=>k+x.length+(Str.ofString "").length) k=k+cs.length
 | [],k=>rfl
 | c::cs,k=>by
  have e0:(Str.ofString "").length=0:=by decide +kernel
  have e1:(⟨#[c]⟩:Str).length=1:=rfl
  rw [List.map_cons,List.foldl_cons,cK9 cs,e0,e1,List.length_cons,Nat.add_zero,Nat.add_assoc,Nat.add_comm 1]
theorem bG2:∀ cs:List Nat,eC (cs.map ch)=some (cs.map fun c=>(⟨#[c]⟩:Str))
 | []=>rfl
 | c::cs=>by show (eC (cs.map ch)).map _=_;rw [bG2 cs];rfl
theorem bU9 (b k:Int) (j:Nat) (m:MH):aX8 (.str (Str.ofString "abcdefghijklmnopqrstuvwxyz")) (.int ((cS b k+5 * (0+(j:Int)) * (1+cS b k % 3)) % 26)) m=.ok (ch (letter b k j)) m:=by
 have h1:((cS b k+5 * (0+(j:Int)) * (1+cS b k % 3)) % 26).natAbs < 2 ^ 60:=md60 (by decide) (by decide)
 have h4:((cS b k+5 * (j:Int) * (1+cS b k % 3)) % 26).toNat < letters.length:=by rw [aI5];exact mdN (by decide) (by decide)
 have h2:at_ letters ((cS b k+5 * (0+(j:Int)) * (1+cS b k % 3)) % 26)=some (letter b k j):=by
  rw [Int.zero_add];unfold at_ letter;rw [if_pos (md0 (by decide)),List.getElem?_eq_getElem h4];rfl
 show (if _ then ofO ((at_ letters _).map fun c=>V.str ⟨#[c]⟩) m else .bad)=_
 rw [if_pos h1,h2];rfl
theorem cT1 {x:Int}:(1+x % 3).natAbs < 1073741824:=Nat.lt_of_lt_of_le (Int.ofNat_lt.mp (by rw [Int.natAbs_of_nonneg (Int.add_nonneg (by decide) (Int.emod_nonneg x (by decide)))];exact Int.add_lt_add_left (Int.emod_lt_of_pos x (by decide)) 1):_ < 4) (by decide)
theorem dA8 {m:MH} {p:Nat} {cs:List Nat} {Q:V->MH->Prop} {E:Nat->MH->Prop} (h:m[p]?=some (.list (cs.map ch))) (hl:cs.length <= lid) (q:Q (.str ⟨cs.toArray⟩) m):Wp (dD 2 (.str (Str.ofString "")) .join [.ref p]) m Q E:=by
 refine aH (m':=m) ?_ q
 show (match m[p]? with | some (.list xs)=>(match eC xs with | some l=>if fW (Str.ofString "") l <= lid then Res.ok (V.str (aK4 (Str.ofString "") l)) m else .bad | Option.none=>.bad) | _=>.bad)=_
 rw [h];dsimp only;rw [bG2];dsimp only
 rw [if_pos (by unfold fW;rw [cK9,Nat.zero_add];exact hl),cG5]
theorem bS3 {S:Sig} {F:Fns} {r:Lo} {m:MH} {a lo hi st:CE} {x l h t v:V} (ha:ev S F a r m=.ok x m) (hl:ev S F lo r m=.ok l m) (hh:ev S F hi r m=.ok h m) (ht:ev S F st r m=.ok t m) (e:aB4 x l h t m=.ok v m):ev S F (.slice a lo hi st) r m=.ok v m:=by
 show Res.bind (ev S F a r m) _=_
 rw [ha]
 show Res.bind (ev S F lo r m) _=_
 rw [hl]
 show Res.bind (ev S F hi r m) _=_
 rw [hh]
 show Res.bind (ev S F st r m) _=_
 rw [ht];exact e
theorem bQ3 {n:Int} {m:MH} (h:n.natAbs < 2 ^ 30):aB1 .range [.int n] m=.ok ((List.range n.toNat).map fun (j:Nat)=>V.int (0+(j:Int)),.none) m:=by
 have er:aB9 [.int n]=some ((List.range (n - 0).toNat).map fun (j:Nat)=>V.int (0+(j:Int))):=by
  show (if n.natAbs < 2 ^ 30 then some (bE4 0 n) else none)=_
  rw [if_pos h];rfl
 rw [Int.sub_zero] at er
 show (match aB9 [.int n] with | some l=>ret (l,Gd.none) | none=>bad) m=_
 rw [er];rfl
noncomputable def b_row:List CS:=[
 .asg (.one (.one 2)) (.cnst (.str (Str.ofString "abcdefghijklmnopqrstuvwxyz"))),
 .asg (.one (.one 3)) (.bin .Add (.var 0) (.bin .Mult (.bin .Mult (.cnst (.int 31)) (.var 1)) (.bin .Mod (.var 0) (.cnst (.int 2))))),
 .asg (.one (.one 4)) (.bin .Mod (.bin .FloorDiv (.var 3) (.cnst (.int 26))) (.cnst (.int 8))),
 .asg (.one (.one 5)) (.smeth (.cnst (.str (Str.ofString ""))) .join [.comp (.idx (.var 2) (.bin .Mod (.bin .Add (.var 3) (.bin .Mult (.bin .Mult (.cnst (.int 5)) (.var 7)) (.bin .Add (.cnst (.int 1)) (.bin .Mod (.var 3) (.cnst (.int 3)))))) (.cnst (.int 26)))) (.one 7) 1 .range [.var 4] []]),
 .asg (.one (.one 6)) (.var 4),
 .ite (.val (.cmp (.bin .Mod (.var 0) (.cnst (.int 2))) [.Eq] [.cnst (.int 0)])) [
  .asg (.one (.one 6)) (.bin .Mod (.bin .FloorDiv (.var 0) (.cnst (.int 4))) (.bin .Add (.var 4) (.cnst (.int 1))))] [],
 .ite (.val (.cmp (.bin .Mod (.var 0) (.cnst (.int 9))) [.Eq] [.cnst (.int 4)])) [
  .ret (.idx (.list [.cnst (.str (Str.ofString "say")),.cnst (.str (Str.ofString "mark")),.cnst (.str (Str.ofString "by")),.cnst (.str (Str.ofString "house"))]) (.bin .Mod (.var 1) (.cnst (.int 4))))] [],
 .ret (.bin .Add (.bin .Add (.slice (.var 5) (.cnst .none) (.var 6) (.cnst .none)) (.idx (.cnst (.str (Str.ofString "kqxz"))) (.bin .Mod (.var 1) (.cnst (.int 4))))) (.slice (.var 5) (.var 6) (.cnst .none) (.cnst .none)))]
theorem aS7 {S:Sig} {kf:Nat} (h:b9 S kf 2 7 b_row) (n:Nat) (b k:Int) (m:MH):Wp (run S (n+1) kf [.int b,.int k]) m (fun v m'=>v=.str (row b k) /\ Le m m') nox:=by
 have hs:=aO8 b k
 have hh:=bW0 b k
 have hlen:=bD7 b k
 have hl7:(bU b k).length <= 7:=by rw [hlen];exact Nat.le_of_lt_succ (bP3 hs.1 hs.2)
 have hlid:(bU b k).length <= lid:=cV hl7 (by decide)
 refine bF h rfl ?_
 refine bK (aC rfl ?_)
 refine bK (aH (a:=.int (cS b k)) (m':=m) (cO rfl (cO (cO rfl rfl rfl) (cO rfl rfl rfl) (cL9 (Or.inr (md30 (by decide) (by decide))))) rfl) ?_)
 refine bK (aH (a:=.int (size b k)) (m':=m) (cO (cO rfl rfl rfl) rfl rfl) ?_)
 refine bK (aC3 (aC rfl ⟨2,rfl,rfl,aD (bS6 (List.range (size b k).toNat) (fun (j:Nat)=>V.int (0+(j:Int))) (fun j=>ch (letter b k j)) (fun m'=>m'=m) (aC rfl (aH (bQ3 (aJ7 (c:=2 ^ 30) hs.1 hs.2 (by decide))) ⟨rfl,rfl,fun y_ y_=>rfl,?_,by rw [List.length_range,<- hlen];exact hlid,?_⟩)))⟩))
 ·rintro j y_ m' rfl
  exact aC rfl (aH (aP3 rfl (cO (cO rfl (cO (cO rfl rfl rfl) (cO rfl (cO rfl rfl rfl) rfl) (cL9 (Or.inr cT1))) rfl) rfl rfl) (bU9 b k j m')) ⟨rfl,rfl⟩)
 intro p m0 m2 em l2 kp y_
 rw [em] at l2
 have el:(List.range (size b k).toNat).map (fun j=>ch (letter b k j))=(bU b k).map ch:=by
  unfold bU;rw [List.map_map];rfl
 rw [el] at kp
 refine aC rfl (dA8 kp hlid ?_)
 refine bK (aC rfl ?_)
 have fin:∀ a:Int,a=here b k->Wp (exs S (run S n) (b_row.drop 6) [some (.int b),some (.int k),some (.str (Str.ofString "abcdefghijklmnopqrstuvwxyz")),some (.int (cS b k)),some (.int (size b k)),some (.str ⟨(bU b k).toArray⟩),some (.int a)]) m2 (cA3 fun v m'=>v=.str (row b k) /\ Le m m') nox:=by
  rintro y_ rfl
  refine aV (t:=b % 9 == 4) (aO (aU (cO rfl rfl rfl) rfl rfl)) ?_
  have ek:k % 4=((k % 4).toNat:Int):=cU2 (by decide)
  cases h9:b % 9 == 4 with
  | true=>
   have h9':b % 9=4:=eq_of_beq h9
   have h4:(k % 4).toNat < four.length:=mdN (k:=4) (by decide) (by decide)
   refine a9 (aE4 (aS (aC rfl (aL fun q m3 l3 k3 y_=>aC rfl ?_))))
   refine aG3 (v:=.str (row b k)) (xs:=four.map V.str) k3 ?_ (md60 (by decide) (by decide)) ⟨rfl,l2.trans l3⟩
   rw [ek];unfold at_;rw [if_pos (Int.natCast_nonneg _),Int.toNat_natCast,List.getElem?_map,List.getElem?_eq_getElem h4]
   unfold row bE2;rw [if_pos h9']
   unfold fourL
   rw [List.getElem?_map,List.getElem?_eq_getElem h4]
   show some (V.str _)=some (V.str ⟨(four[(k % 4).toNat]).cps.toList.toArray⟩)
   rw [Array.toArray_toList]
  | false=>
   have h9':¬ b % 9=4:=fun q=>by rw [q] at h9;exact absurd h9 (by decide)
   have h4:(k % 4).toNat < kq.length:=by rw [cM1];exact mdN (by decide) (by decide)
   have l1:((bU b k).take (here b k).toNat).length <= 7:=by rw [List.length_take];exact Nat.le_trans (Nat.min_le_right _ _) hl7
   have l2':((bU b k).drop (here b k).toNat).length <= 7:=by rw [List.length_drop];exact Nat.le_trans (Nat.sub_le _ _) hl7
   have hb2:aJ4 (.int (here b k))=some (some (here b k)):=by show (if (here b k).natAbs < 2 ^ 60 then _ else _)=_;rw [if_pos (abs60 hh.1 (Int.lt_of_le_of_lt hh.2 hs.2) (by decide))]
   have hcl:eZ (bU b k).length (here b k)=(here b k).toNat:=by unfold eZ;rw [if_pos hh.1,Nat.min_eq_left (by rw [hlen];exact cZ hh.2)]
   have sl1:dM (bU b k) .none (.int (here b k)) .none=some ((bU b k).take (here b k).toNat):=by
    unfold dM;dsimp only;rw [hb2]
    show some (((bU b k).take (eZ (bU b k).length (here b k))).drop 0)=_
    rw [hcl,List.drop_zero]
   have sl2:dM (bU b k) (.int (here b k)) .none .none=some ((bU b k).drop (here b k).toNat):=by
    unfold dM;dsimp only;rw [hb2]
    show some (((bU b k).take (bU b k).length).drop (eZ (bU b k).length (here b k)))=_
    rw [hcl,List.take_length]
   have s1:aB4 (.str ⟨(bU b k).toArray⟩) .none (.int (here b k)) .none m2=.ok (.str ⟨((bU b k).take (here b k).toNat).toArray⟩) m2:=by
    show (if (bU b k).length <= lid then ofO ((dM (bU b k) .none (.int (here b k)) .none).map fun l=>V.str ⟨l.toArray⟩) m2 else .bad)=_
    rw [if_pos hlid,sl1];rfl
   have s2:aB4 (.str ⟨(bU b k).toArray⟩) (.int (here b k)) .none .none m2=.ok (.str ⟨((bU b k).drop (here b k).toNat).toArray⟩) m2:=by
    show (if (bU b k).length <= lid then ofO ((dM (bU b k) (.int (here b k)) .none .none).map fun l=>V.str ⟨l.toArray⟩) m2 else .bad)=_
    rw [if_pos hlid,sl2];rfl
   have e4:aX8 (.str (Str.ofString "kqxz")) (.int (k % 4)) m2=.ok (.str ⟨#[kqx k]⟩) m2:=by
    have:at_ kq (k % 4)=some (kqx k):=by
     unfold at_ kqx;rw [if_pos (md0 (by decide)),List.getElem?_eq_getElem h4];rfl
    show (if (k % 4).natAbs < 2 ^ 60 then ofO ((at_ kq (k % 4)).map fun c=>V.str ⟨#[c]⟩) m2 else .bad)=_
    rw [if_pos (md60 (by decide) (by decide)),this];rfl
   have er:row b k=⟨((bU b k).take (here b k).toNat).toArray⟩++⟨#[kqx k]⟩++⟨((bU b k).drop (here b k).toNat).toArray⟩:=by
    have e1:((⟨((bU b k).take (here b k).toNat).toArray⟩:Str)++⟨#[kqx k]⟩)=⟨((bU b k).take (here b k).toNat++[kqx k]).toArray⟩:=aH2 _ [_]
    rw [e1,aH2]
    unfold row bE2;rw [if_neg h9']
   have adds:∀ x y:Str,x.length+y.length <= lid->bY8 .Add (.str x) (.str y) m2=.ok (.str (x++y)) m2:=fun x y h=>if_pos h
   rw [er]
   refine a9 (aH (cO (cO (bS3 rfl rfl rfl rfl s1) (aP3 rfl (cO rfl rfl rfl) e4) (adds _ _ ?_)) (bS3 rfl rfl rfl rfl s2) (adds _ _ ?_)) ⟨rfl,l2⟩)
   ·show (List.toArray _).size+1 <= lid
    rw [List.size_toArray];exact cV (Nat.succ_le_succ l1) (by decide)
   ·have:((⟨((bU b k).take (here b k).toNat).toArray⟩:Str)++⟨#[kqx k]⟩).length <= 8:=by
     refine Nat.le_trans (Nat.le_of_eq (congrArg Str.length (aH2 _ [_]))) ?_
     show (List.toArray _).size <= 8
     rw [List.size_toArray,List.length_append,List.length_singleton];exact Nat.succ_le_succ l1
    show Str.length _+(List.toArray _).size <= lid
    rw [List.size_toArray];exact cV (Nat.add_le_add this l2') (by decide)
 refine aV (t:=b % 2 == 0) (aO (aU (cO rfl rfl rfl) rfl rfl)) ?_
 cases h2:b % 2 == 0 with
 | true=>
  have h2':b % 2=0:=eq_of_beq h2
  refine bK (aH (a:=.int (b / 4 % (size b k+1))) (m':=m2) (cO (cO rfl rfl rfl) rfl (aT6 (aO7 b k))) (fin _ ?_))
  unfold here;rw [if_pos h2']
 | false=>
  have h2':¬ b % 2=0:=fun q=>by rw [q] at h2;exact absurd h2 (by decide)
  refine fin _ ?_
  unfold here;rw [if_neg h2']
end Mini.Internal
namespace Mini.Internal
open PySem
noncomputable def cY:Str:=Str.ofString "say"
noncomputable def fJ:Str:=Str.ofString "mark"
noncomputable def num (lo hi:Int):V->Bool | .int i=>decide (lo <= i)&&decide (i <= hi) | _=>false
noncomputable def isW4 (c:Int) (a b d:V):Bool:=match a,b,d with
 | .str s,.int i,.int h=>s == fJ||(s == cY&&(i - h) % c == 0)
 | _,_,_=>false
noncomputable def dD1 (v:V):Option (V×V×V×V):=match v with
 | .tup xs=>match xs with
  | []=>Option.none
  | a::xs=>match xs with
   | []=>Option.none
   | b::xs=>match xs with
    | []=>Option.none
    | r::xs=>match xs with
     | []=>Option.none
     | d::xs=>match xs with
      | []=>some (a,b,r,d)
      | _::_=>Option.none
 | _=>Option.none
theorem cS2 {v:V} {y:V×V×V×V} (h:dD1 v=some y):v=.tup [y.1,y.2.1,y.2.2.1,y.2.2.2]:=by
 cases v with
 | tup xs=>
  cases xs with
  | nil=>(first|(injection h;done)|(refine aF h fun z1=>?_;clear h;(first | (injection z1;done) | subst z1 | cases (z1)))|(refine aC5 h fun z1 z2=>?_;clear h;(first | (injection z1;done) | subst z1 | cases (z1));(first | (injection z2;done) | subst z2 | cases (z2)))|subst h|refine VR.dInt h fun y_=>?_|cases (h))
  | cons a xs=>
   cases xs with
   | nil=>(first|(injection h;done)|(refine aF h fun z1=>?_;clear h;(first | (injection z1;done) | subst z1 | cases (z1)))|(refine aC5 h fun z1 z2=>?_;clear h;(first | (injection z1;done) | subst z1 | cases (z1));(first | (injection z2;done) | subst z2 | cases (z2)))|subst h|refine VR.dInt h fun y_=>?_|cases (h))
   | cons b xs=>
    cases xs with
    | nil=>(first|(injection h;done)|(refine aF h fun z1=>?_;clear h;(first | (injection z1;done) | subst z1 | cases (z1)))|(refine aC5 h fun z1 z2=>?_;clear h;(first | (injection z1;done) | subst z1 | cases (z1));(first | (injection z2;done) | subst z2 | cases (z2)))|subst h|refine VR.dInt h fun y_=>?_|cases (h))
    | cons r xs=>
     cases xs with
     | nil=>(first|(injection h;done)|(refine aF h fun z1=>?_;clear h;(first | (injection z1;done) | subst z1 | cases (z1)))|(refine aC5 h fun z1 z2=>?_;clear h;(first | (injection z1;done) | subst z1 | cases (z1));(first | (injection z2;done) | subst z2 | cases (z2)))|subst h|refine VR.dInt h fun y_=>?_|cases (h))
     | cons d xs=>
      cases xs with
      | nil=>rw [<- Option.some.inj (show some (a,b,r,d)=some y from h)]
      | cons y_ y_=>(first|(injection h;done)|(refine aF h fun z1=>?_;clear h;(first | (injection z1;done) | subst z1 | cases (z1)))|(refine aC5 h fun z1 z2=>?_;clear h;(first | (injection z1;done) | subst z1 | cases (z1));(first | (injection z2;done) | subst z2 | cases (z2)))|subst h|refine VR.dInt h fun y_=>?_|cases (h))
 | _=>injection h
noncomputable def isW (c:Int) (v:V):Bool:=match dD1 v with
 | some y=>vS y.1&&(num 0 9999 y.2.1&&(aF5 y.2.2.1&&(num 0 (c - 1) y.2.2.2&&isW4 c y.1 y.2.1 y.2.2.2)))
 | Option.none=>false
structure Th (m:MH) (v:V):Prop where
 pl:Pl m v
 sub:∀ xs,v=.tup xs->∀ x∈xs,Pl m x
theorem Th.le {m m':MH} (l:Le m m') {v:V} (h:Th m v):Th m' v:=⟨h.pl.le l,fun xs e x hx=>(h.sub xs e x hx).le l⟩
section
variable {S:Sig} {m:MH}
noncomputable def aD1:List CS:=[.ret (.bin .Mod (.var 1) (.var 0))]
theorem aW6 {k:Nat} (h:b9 S k 2 2 aD1) (n:Nat) (c i:Int) (hc:0 < c):run S (n+1) k [.int c,.int i] m=.ok (.int (i % c)) m:=
 dW (bF h rfl (a9 (aH (cO rfl rfl (aT6 hc)) ⟨rfl,rfl⟩)))
noncomputable def cG1:CB:=.all false [.not (.val (.isi (.var 1) .tuple)),.val (.cmp (.bi .len [.var 1]) [.NotEq] [.cnst (.int 4)]),.not (.val (.isi (.idx (.var 1) (.cnst (.int 0))) .str))]
noncomputable def aV2 (v:V):Bool:=match dD1 v with
 | some y=>vS y.1
 | Option.none=>false
theorem cG0 {F:Fns} {v c:V} {r:Lo} (hv:Th m v):evT S F cG1 (some c::some v::r) m=.ok (!aV2 v) m:=by
 have no:vT v=false->aV2 v=false->evT S F cG1 (some c::some v::r) m=.ok (!aV2 v) m:=fun h1 h2=>by
  rw [h2]
  refine cJ (aP0 ?_)
  rw [bM (aO (aH8 rfl (bA3 hv.pl))),h1];rfl
 rcases hv with ⟨hp,hs⟩
 cases hp with
 | tup xs hx=>
  have hl:ev S F (.bi .len [.var 1]) (some c::some (V.tup xs)::r) m=.ok (.int xs.length) m:=dD4 rfl (by unfold lid;lia)
  have hh:xs.length≠4->evT S F cG1 (some c::some (V.tup xs)::r) m=.ok true m:=fun h=>by
   refine cJ ((aW (bM (aO (aH8 rfl (bA3 (.tup xs hx))))) (aP0 (aO (aU hl rfl (t:=true) ?_)))))
   show Res.ok (!(((xs.length:Int)) == 4)) m=_
   rw [show (((xs.length:Int)) == 4)=false from beq_false_of_ne (by lia)];rfl
  cases xs with
  | nil=>exact hh (by decide)
  | cons a xs=>
   cases xs with
   | nil=>exact hh (show 1≠4 by decide)
   | cons b xs=>
    cases xs with
    | nil=>exact hh (show 2≠4 by decide)
    | cons d xs=>
     cases xs with
     | nil=>exact hh (show 3≠4 by decide)
     | cons e xs=>
      cases xs with
      | nil=>
       have ha:Pl m a:=hs _ rfl a (.head _)
       exact cJ ((aW (bM (aO (aH8 rfl (bA3 (.tup _ hx))))) (aW (aO (aU hl rfl rfl)) (aW (bM (aO (aH8 rfl (bA4 ha)))) b8))).trans (by rw [Bool.or_false];rfl))
      | cons y_ y_=>exact hh (fun z=>Nat.succ_ne_zero _ (Nat.add_right_cancel (m:=4) (show _+1+4=0+4 from z)))
 | none=>exact no rfl rfl
 | bool b=>exact no rfl rfl
 | int i=>exact no rfl rfl
 | str s h=>exact no rfl rfl
 | list p xs hp=>exact no rfl rfl
 | dict p kvs e hp=>exact no rfl rfl
theorem cH0 {c:Int} {v:V} (h:aV2 v=false):isW c v=false:=by
 unfold aV2 at h
 unfold isW
 cases q:dD1 v with
 | none=>rfl
 | some y=>
  rw [q] at h
  show (vS y.1&&_)=false
  rw [show vS y.1=false from h];rfl
theorem cW6 {v:V} (h:aV2 v=true):∃ s b r d,v=.tup [.str s,b,r,d]:=by
 unfold aV2 at h
 cases q:dD1 v with
 | none=>rw [q] at h;(first|(injection h;done)|(refine aF h fun z1=>?_;clear h;(first | (injection z1;done) | subst z1 | cases (z1)))|(refine aC5 h fun z1 z2=>?_;clear h;(first | (injection z1;done) | subst z1 | cases (z1));(first | (injection z2;done) | subst z2 | cases (z2)))|subst h|refine VR.dInt h fun y_=>?_|cases (h))
 | some y=>
  rw [q] at h
  have h:vS y.1=true:=h
  rw [cS2 q]
  cases e:y.1 with
  | str s=>exact ⟨s,_,_,_,rfl⟩
  | _=>rw [e] at h;(first|(injection h;done)|(refine aF h fun z1=>?_;clear h;(first | (injection z1;done) | subst z1 | cases (z1)))|(refine aC5 h fun z1 z2=>?_;clear h;(first | (injection z1;done) | subst z1 | cases (z1));(first | (injection z2;done) | subst z2 | cases (z2)))|subst h|refine VR.dInt h fun y_=>?_|cases (h))
set_option tactic.hygienic true in
theorem cL5 {lo hi:Int} {v:V} (h:num lo hi v=true):∃ i,v=.int i /\ lo <= i /\ i <= hi:=by
 unfold num at h
 split at h
 ·rename_i i
  rcases Bool.and_eq_true_iff.mp h with ⟨h1,h2⟩
  exact ⟨i,rfl,of_decide_eq_true h1,of_decide_eq_true h2⟩
 ·injection h
theorem cA9 {v:V} (h:vW v=true):∃ i,v=.int i:=by
 cases v with
 | int i=>exact ⟨i,rfl⟩
 | _=>injection h
theorem dE1 {lo hi:Int} {v:V} (h:vW v=false):num lo hi v=false:=by
 cases v with
 | int i=>injection h
 | _=>rfl
noncomputable def aD0 (kN kW kR kC gM:Nat):List CS:=[
 .exp (.call kN [.var 0]),
 .ite cG1 [.ret (.cnst (.bool false))] [],
 .ite (.all false [.not (.val (.call kW [.idx (.var 1) (.cnst (.int 1))])),.not (.val (.cmp (.cnst (.int 0)) [.LtE,.LtE] [.idx (.var 1) (.cnst (.int 1)),.glob gM])),.not (.val (.call kR [.idx (.var 1) (.cnst (.int 2))]))]) [.ret (.cnst (.bool false))] [],
 .ite (.all false [.not (.val (.call kW [.idx (.var 1) (.cnst (.int 3))])),.not (.val (.cmp (.cnst (.int 0)) [.LtE,.Lt] [.idx (.var 1) (.cnst (.int 3)),.var 0]))]) [.ret (.cnst (.bool false))] [],
 .ite (.val (.cmp (.idx (.var 1) (.cnst (.int 0))) [.Eq] [.cnst (.str (Str.ofString "say"))])) [
  .ret (.cmp (.idx (.var 1) (.cnst (.int 3))) [.Eq] [.call kC [.var 0,.idx (.var 1) (.cnst (.int 1))]])] [],
 .ret (.cmp (.idx (.var 1) (.cnst (.int 0))) [.Eq] [.cnst (.str (Str.ofString "mark"))])]
theorem bF2 {c i h:Int} (hc:0 < c) (h0:0 <= h) (h1:h < c):(h == i % c)=((i - h) % c == 0):=by
 rw [Bool.eq_iff_iff,beq_iff_eq,beq_iff_eq]
 constructor
 ·rintro rfl
  rw [<- Int.emod_emod_of_dvd _ (Int.dvd_refl c)]
  have:=Int.emod_emod_of_dvd i (Int.dvd_refl c)
  rw [Int.sub_emod,this,Int.sub_self,Int.zero_emod];rfl
 ·intro q
  have e:=Int.emod_add_mul_ediv (i - h) c
  have e2:i=h+c * ((i - h) / c):=by rw [q,Int.zero_add] at e;rw [e,Int.add_comm,Int.sub_add_cancel]
  rw [e2,Int.add_mul_emod_self_left,Int.emod_eq_of_lt h0 h1]
theorem bK4 {k kN kW kR kC gN gM gL gS cB:Nat} {n1 n2 n3 n4:Str} (h:b9 S k 2 2 (aD0 kN kW kR kC gM)) (hN:b9 S kN 1 1 (aN9 kW gN cB)) (hW:b9 S kW 1 1 eQ) (hR:b9 S kR 1 2 (fR gL gS)) (hC:b9 S kC 2 2 aD1)
  (gn:S.globs[gN]?=some (n1,.int 12)) (gm:S.globs[gM]?=some (n2,.int 9999)) (gl:S.globs[gL]?=some (n3,.str letterS)) (gs:S.globs[gS]?=some (n4,.int 8)) (n:Nat) {c:Int} {v:V} (h1:1 <= c) (h2:c <= 12) (hv:Th m v) :
  run S (n+3) k [.int c,v] m=.ok (.bool (isW c v)) m:=by
 refine dW (bF h rfl (dS (bD (aC rfl (aH (a:=.none) (m':=m) ?_ ?_)))))
 ·rw [bT5 hN hW gn n (.int c)]
  show (if (decide (1 <= c)&&decide (c <= 12))=true then _ else _)=_
  rw [decide_eq_true h1,decide_eq_true h2];rfl
 refine aV (cG0 (r:=[]) hv) ?_
 cases h4:aV2 v with
 | false=>exact a9 (aC rfl ⟨by rw [cH0 h4];rfl,rfl⟩)
 | true=>
  rcases cW6 h4 with ⟨s,b,r,d,rfl⟩
  have hb:Pl m b:=hv.sub _ rfl b (by simp)
  have hr:Pl m r:=hv.sub _ rfl r (by simp)
  have hd:Pl m d:=hv.sub _ rfl d (by simp)
  have eW:isW c (.tup [.str s,b,r,d])=(num 0 9999 b&&(aF5 r&&(num 0 (c - 1) d&&isW4 c (.str s) b d))):=rfl
  have e2:evT S (run S (n+2)) (.all false [.not (.val (.call kW [.idx (.var 1) (.cnst (.int 1))])),.not (.val (.cmp (.cnst (.int 0)) [.LtE,.LtE] [.idx (.var 1) (.cnst (.int 1)),.glob gM])),.not (.val (.call kR [.idx (.var 1) (.cnst (.int 2))]))]) [some (.int c),some (.tup [.str s,b,r,d])] m=.ok (!(num 0 9999 b&&aF5 r)) m:=by
   have ew:evT S (run S (n+2)) (.not (.val (.call kW [.idx (.var 1) (.cnst (.int 1))]))) [some (.int c),some (.tup [.str s,b,r,d])] m=.ok (!vW b) m:=bM (aO (bA rfl (aA7 hW _ hb)))
   cases hw:vW b with
   | false=>rw [dE1 hw];exact cJ (aP0 (by rw [ew,hw];rfl))
   | true=>
    rcases cA9 hw with ⟨i,rfl⟩
    refine cJ ((aW ew (aW (bM (aO (aC1 rfl rfl (aH9 gm) rfl rfl))) (aW (bM (aO (bA rfl (aU4 hR gl gs _ hr)))) b8))).trans ?_)
    show Res.ok (!true||(!(decide (0 <= i)&&decide (i <= 9999))||(!aF5 r||false))) m=_
    rw [Bool.or_false,<- Bool.not_and];rfl
  refine aV e2 ?_
  cases hnr:(num 0 9999 b&&aF5 r) with
  | false=>
   refine a9 (aC rfl ⟨?_,rfl⟩)
   rw [eW,<- Bool.and_assoc,hnr];rfl
  | true=>
   rcases Bool.and_eq_true_iff.mp hnr with ⟨hnb,hrr⟩
   rcases cL5 hnb with ⟨i,rfl,hi0,hi9⟩
   have e3:evT S (run S (n+2)) (.all false [.not (.val (.call kW [.idx (.var 1) (.cnst (.int 3))])),.not (.val (.cmp (.cnst (.int 0)) [.LtE,.Lt] [.idx (.var 1) (.cnst (.int 3)),.var 0]))]) [some (.int c),some (.tup [.str s,.int i,r,d])] m=.ok (!num 0 (c - 1) d) m:=by
    have ew:evT S (run S (n+2)) (.not (.val (.call kW [.idx (.var 1) (.cnst (.int 3))]))) [some (.int c),some (.tup [.str s,.int i,r,d])] m=.ok (!vW d) m:=bM (aO (bA rfl (aA7 hW _ hd)))
    cases hw:vW d with
    | false=>rw [dE1 hw];exact cJ (aP0 (by rw [ew,hw];rfl))
    | true=>
     rcases cA9 hw with ⟨h,rfl⟩
     refine cJ ((aW ew (aW (bM (aO (aC1 rfl rfl rfl rfl rfl))) b8)).trans ?_)
     show Res.ok (!true||(!(decide (0 <= h)&&decide (h < c))||false)) m=.ok (!(decide (0 <= h)&&decide (h <= c - 1))) m
     rw [Bool.or_false,show decide (h < c)=decide (h <= c - 1) from by rw [decide_eq_decide];lia];rfl
   refine aV e3 ?_
   cases hnd:num 0 (c - 1) d with
   | false=>
    refine a9 (aC rfl ⟨?_,rfl⟩)
    rw [eW,hnd,hnb,hrr];rfl
   | true=>
    rcases cL5 hnd with ⟨h,rfl,hh0,hh1⟩
    refine aV (t:=s == cY) (aO (aU rfl rfl rfl)) ?_
    rw [eW,hnd,hnb,hrr]
    cases hs:s == cY with
    | true=>
     refine a9 (aH (aU rfl (eD rfl (aW6 hC _ c i (by lia))) rfl) ⟨?_,rfl⟩)
     show V.bool (h == i % c)=.bool (s == fJ||(s == cY&&(i - h) % c == 0))
     rw [hs,eq_of_beq hs,show (cY == fJ)=false by decide +kernel,bF2 (by lia) hh0 (by lia)];rfl
    | false=>
     refine a9 (aH (aU rfl rfl rfl) ⟨?_,rfl⟩)
     show V.bool (s == fJ)=.bool (s == fJ||(s == cY&&(i - h) % c == 0))
     rw [hs,Bool.false_and,Bool.or_false]
end
end Mini.Internal
namespace Mini.Internal
open PySem
section
variable {S:Sig} {m:MH}
theorem bT {k:Nat} (h:b9 S k 1 1 eQ) (n:Nat) (i:Int):run S (n+1) k [.int i] m=.ok (.bool true) m:=
 dW (bF h rfl (a9 (aC rfl ⟨rfl,rfl⟩)))
theorem eG {k kW gM c:Nat} {gn:Str} (h:b9 S k 1 1 (aN9 kW gM c)) (hW:b9 S kW 1 1 eQ) (hM:S.globs[gM]?=some (gn,.int 12)) (n:Nat) {i:Int} (h1:1 <= i) (h2:i <= 12):run S (n+2) k [.int i] m=.ok .none m:=by
 have e:=bM (aO (aC1 (S:=S) (F:=run S (n+1)) (r:=[some (.int i)]) (m:=m) (a:=.cnst (.int 1)) (b:=.var 0) (o:=.LtE) (o':=.LtE) (t:=decide (1 <= i)) (u:=decide (i <= 12)) rfl rfl (aH9 hM) rfl rfl))
 rw [decide_eq_true h1,decide_eq_true h2] at e
 exact dW (bF h rfl (aV (t:=false) (cJ (aW (x:=false) (bM (aO (bA rfl (bT hW n i)))) (aW (x:=false) e b8))) (dE ⟨rfl,rfl⟩)))
theorem bE1 {k gL gM:Nat} {n1 n2:Str} (h:b9 S k 1 2 (fR gL gM)) (hL:S.globs[gL]?=some (n1,.str letterS)) (hM:S.globs[gM]?=some (n2,.int 8)) (n:Nat) {s:Str} (hr:aF5 (.str s)=true):run S (n+1) k [.str s] m=.ok (.bool true) m:=by
 have hr:(cA1 s&&s.cps.toList.all okC)=true:=hr
 rcases Bool.and_eq_true_iff.mp hr with ⟨h1,h2⟩
 have h8:s.length <= lid:=by
  have:=of_decide_eq_true (Bool.and_eq_true_iff.mp h1).2
  exact Nat.le_trans (Int.ofNat_le.mp this) (by decide)
 have e:=bM (aO (aC1 (S:=S) (F:=run S n) (r:=[some (.str s),Option.none]) (m:=m) (a:=.cnst (.int 1)) (b:=.bi .len [.var 0]) (o:=.LtE) (o':=.LtE) (t:=decide ((1:Int) <= (s.length:Int))) (u:=decide ((s.length:Int) <= 8)) rfl (cL4 rfl h8) (aH9 hM) rfl rfl))
 rw [show (decide ((1:Int) <= (s.length:Int))&&decide ((s.length:Int) <= 8))=true from h1] at e
 refine dW (bF h rfl (aV (t:=false) (cJ (aW (x:=false) rfl (aW (x:=false) e b8))) ?_))
 refine aH6 s.cps.toList ch (fun zs r m'=>m'=m /\ (∃ u,r=[some (.str s),u]) /\ zs.all okC=true) (aC rfl (aC rfl ⟨rfl,⟨rfl,⟨_,rfl⟩,h2⟩,fun y_ y_ y_ y_=>rfl,?_,?_⟩))
 ·rintro c zs r m' ⟨rfl,⟨u,rfl⟩,e⟩
  rcases Bool.and_eq_true_iff.mp e with ⟨q1,q2⟩
  refine aC rfl (aV (t:=!okC c) (aO (aU rfl (aH9 hL) rfl)) ?_)
  rw [q1]
  exact dE ⟨rfl,⟨_,rfl⟩,q2⟩
 ·intro r m' q
  exact a9 (aC rfl ⟨rfl,q.1⟩)
theorem aS9 {F:Fns} {r:Lo} {a c:CE} {x y:Int} (ha:ev S F a r m=.ok (.int x) m) (hc:ev S F c r m=.ok (.int y) m) (h0:0 <= x) (h1:x < y):evT S F (.not (.val (.cmp (.cnst (Lt.int 0)) [.LtE,.Lt] [a,c]))) r m=.ok false m:=by
 have:=bM (aO (aC1 (S:=S) (F:=F) (r:=r) (m:=m) (a:=.cnst (Lt.int 0)) (o:=.LtE) (o':=.Lt) (t:=decide (0 <= x)) (u:=decide (x < y)) rfl ha hc rfl rfl))
 rw [decide_eq_true h0,decide_eq_true h1] at this
 exact this
theorem aR6 {k kN kW kR kC gN gM gL gS cB:Nat} {n1 n2 n3 n4:Str} (h:b9 S k 2 2 (aD0 kN kW kR kC gM)) (hN:b9 S kN 1 1 (aN9 kW gN cB)) (hW:b9 S kW 1 1 eQ) (hR:b9 S kR 1 2 (fR gL gS)) (hC:b9 S kC 2 2 aD1)
  (gn:S.globs[gN]?=some (n1,.int 12)) (gm:S.globs[gM]?=some (n2,.int 9999)) (gl:S.globs[gL]?=some (n3,.str letterS)) (gs:S.globs[gS]?=some (n4,.int 8)) (n:Nat) {c i y:Int} {s r:Str} (h1:1 <= c) (h2:c <= 12)
  (hk:s=cY \/ s=fJ) (i0:0 <= i) (i1:i <= 9999) (hr:aF5 (.str r)=true) (y0:0 <= y) (y1:y < c) (hc:s=cY->(i - y) % c=0):run S (n+3) k [.int c,.tup [.str s,.int i,.str r,.int y]] m=.ok (.bool true) m:=by
 have e:=bM (aO (aC1 (S:=S) (F:=run S (n+2)) (r:=[some (.int c),some (.tup [.str s,.int i,.str r,.int y])]) (m:=m) (a:=.cnst (.int 0)) (b:=.idx (.var 1) (.cnst (.int 1))) (o:=.LtE) (o':=.LtE) (t:=decide (0 <= i)) (u:=decide (i <= 9999)) rfl rfl (aH9 gm) rfl rfl))
 rw [decide_eq_true i0,decide_eq_true i1] at e
 refine dW (bF h rfl (dS (aH (bA rfl (eG hN hW gn n h1 h2)) (aV (t:=false) (cJ (aW (x:=false) rfl (aW (x:=false) rfl (aW (x:=false) rfl b8))))
  (aV (t:=false) (cJ (aW (x:=false) (bM (aO (bA rfl (bT hW _ i)))) (aW (x:=false) e (aW (x:=false) (bM (aO (bA rfl (bE1 hR gl gs _ hr)))) b8))))
  (aV (t:=false) (cJ (aW (x:=false) (bM (aO (bA rfl (bT hW _ y)))) (aW (x:=false) (aS9 rfl rfl y0 y1) b8)))
  (aV (t:=s == cY) (aO (aU rfl rfl rfl)) ?_)))))))
 rcases hk with rfl | rfl
 ·refine a9 (aH (aU (t:=y == i % c) rfl (eD rfl (aW6 hC _ c i (Int.lt_of_lt_of_le (by decide) h1))) rfl) ⟨?_,rfl⟩)
  rw [bF2 (Int.lt_of_lt_of_le (by decide) h1) y0 y1,hc rfl];rfl
 ·rw [show (fJ == cY)=false by decide +kernel]
  exact a9 (aH (aU (t:=fJ == fJ) rfl rfl rfl) ⟨by rw [beq_self_eq_true],rfl⟩)
end
end Mini.Internal
namespace Mini.Internal
open PySem
noncomputable def bZ4:List CS:=[
 (.asg (.one (.one 1)) (.list [(.cnst (Lt.str (Str.ofString "count"))),(.cnst (Lt.str (Str.ofString "house"))),(.cnst (Lt.str (Str.ofString "row"))),(.cnst (Lt.str (Str.ofString "word"))),(.cnst (Lt.str (Str.ofString "forged"))),(.cnst (Lt.str (Str.ofString "letter"))),(.cnst (Lt.str (Str.ofString "written"))),(.cnst (Lt.str (Str.ofString "text")))])),
 (.asg (.one (.one 2)) (.list [(.isi (.var 0) (.cls 2)),(.isi (.var 0) (.cls 3)),(.isi (.var 0) (.cls 4))])),
 (.asg (.one (.one 2)) (.bin .Add (.var 2) (.list [(.isi (.var 0) (.cls 5)),(.isi (.var 0) (.cls 6)),(.isi (.var 0) (.cls 7))]))),
 (.asg (.one (.one 2)) (.bin .Add (.var 2) (.list [(.isi (.var 0) (.cls 8)),(.isi (.var 0) (.cls 9))]))),
 (.ite (.all false [(.val (.cmp (.smeth (.var 2) .count [(.cnst (Lt.bool true))]) [.NotEq] [(.cnst (Lt.int 1))])),(.not (.val (.isi (.var 0) (.cls 0))))]) [
  (.ret (.tup [(.cnst (Lt.str (Str.ofString "other")))]))] []),
 (.ret (.tup [(.idx (.var 1) (.smeth (.var 2) .index [(.cnst (Lt.bool true))]))]))]
noncomputable def kwords:List Str:=[Str.ofString "count",Str.ofString "house",Str.ofString "row",Str.ofString "word",Str.ofString "forged",Str.ofString "letter",Str.ofString "written",Str.ofString "text"]
theorem aA5 {S:Sig} {k:Nat} (h:b9 S k 1 3 bZ4) (n:Nat) (d:Nat) (f:Nat->Bool) (w:Str) (m:MH) (hf:∀ c m,eB S (.exc d) (.cls c) m=.ok (f c) m) (h0:f 0=true) (hc:[f 2,f 3,f 4,f 5,f 6,f 7,f 8,f 9].count true=1) (hw:kwords[[f 2,f 3,f 4,f 5,f 6,f 7,f 8,f 9].idxOf true]?=some w) (hin:[f 2,f 3,f 4,f 5,f 6,f 7,f 8,f 9].contains true=true) :
  Wp (run S (n+1) k [.exc d]) m (fun v m'=>v=.tup [.str w] /\ Le m m') nox:=by
 refine bF h rfl ?_
 have ei:∀ c r m,r[0]?=some (some (.exc d))->ev S (run S n) (.isi (.var 0) (.cls c)) r m=.ok (.bool (f c)) m:=by
  intro c r m hr
  have:ev S (run S n) (.var 0) r m=.ok (.exc d) m:=by
   show (match r[0]? with | some (some v)=>ret v | _=>bad) m=_
   rw [hr];rfl
  show Res.bind (ev S (run S n) (.var 0) r m) _=_
  rw [this]
  show Res.bind (eB S (.exc d) (.cls c) m) _=_
  rw [hf];rfl
 have el:∀ a b c r m,r[0]?=some (some (.exc d))->evs S (run S n) [.isi (.var 0) (.cls a),.isi (.var 0) (.cls b),.isi (.var 0) (.cls c)] r m=.ok ([f a,f b,f c].map .bool) m:=by
  intro a b c r m hr
  show Res.bind (ev S (run S n) (.isi (.var 0) (.cls a)) r m) _=_
  rw [ei a r m hr]
  show Res.bind (Res.bind (ev S (run S n) (.isi (.var 0) (.cls b)) r m) _) _=_
  rw [ei b r m hr]
  show Res.bind (Res.bind (Res.bind (ev S (run S n) (.isi (.var 0) (.cls c)) r m) _) _) _=_
  rw [ei c r m hr];rfl
 have el2:∀ a b r m,r[0]?=some (some (.exc d))->evs S (run S n) [.isi (.var 0) (.cls a),.isi (.var 0) (.cls b)] r m=.ok ([f a,f b].map .bool) m:=by
  intro a b r m hr
  show Res.bind (ev S (run S n) (.isi (.var 0) (.cls a)) r m) _=_
  rw [ei a r m hr]
  show Res.bind (Res.bind (ev S (run S n) (.isi (.var 0) (.cls b)) r m) _) _=_
  rw [ei b r m hr];rfl
 refine bK (aS (aC rfl (aL fun p0 m0 l0 k0 y_=>?_)))
 refine bK (aS (aH (el 2 3 4 _ _ rfl) (aL fun p1 m1 l1 k1 y_=>?_)))
 refine bK (d9 (aC rfl (aS (aH (el 5 6 7 _ _ rfl) (aL fun p2 m2 l2 k2 y_=>fD (l2.has k1) k2 (show 3+3 <= lid by decide) fun p3 m3 l3 k3 y_=>?_)))))
 refine bK (d9 (aC rfl (aS (aH (el2 8 9 _ _ rfl) (aL fun p4 m4 l4 k4 y_=>fD (l4.has k3) k4 (show 6+2 <= lid by decide) fun p5 m5 l5 k5 y_=>?_)))))
 have k0':=((((l1.trans l2).trans l3).trans l4).trans l5).has k0
 have lf:=(((((l0.trans l1).trans l2).trans l3).trans l4).trans l5)
 have k6:m5[p5]?=some (.list ([f 2,f 3,f 4,f 5,f 6,f 7,f 8,f 9].map .bool)):=k5
 refine aE6 (aM3 (cK (dO (dP (aC3 (aC rfl ⟨0,cR3 k6,rfl,aC rfl (cP6 k6 ?_)⟩))))))
 rw [hc]
 refine aC rfl (aC rfl (aC rfl ?_))
 refine cK (dD6 (dO (aH (ei 0 _ _ rfl) (aC rfl ?_))))
 rw [h0]
 refine a9 (aT3 (aD (aE4 (aC rfl (aC3 (aC rfl ⟨0,cR3 k6,rfl,aC rfl (cP5 k6 hin ?_)⟩))))))
 have h8:[f 2,f 3,f 4,f 5,f 6,f 7,f 8,f 9].idxOf true < 8:=List.idxOf_lt_length_of_mem (List.contains_iff_mem.mp hin)
 refine aG3 (v:=.str w) k0' ?_ (by rw [Int.natAbs_natCast];exact Nat.lt_trans h8 (by decide)) (aC rfl ⟨rfl,lf⟩)
 unfold at_
 rw [if_pos (Int.natCast_nonneg _),Int.toNat_natCast]
 show (kwords.map V.str)[_]?=_
 rw [List.getElem?_map,hw];rfl
end Mini.Internal
namespace Mini.Internal
open PySem
noncomputable def Mod (T:List Nat) (m m':MH):Prop:=m.length <= m'.length /\ ∀ p,p < m.length->p∉T->m'[p]?=m[p]?
theorem Mod.refl (T:List Nat) (m:MH):Mod T m m:=⟨Nat.le_refl _,fun y_ y_ y_=>rfl⟩
theorem Mod.trans {T:List Nat} {a b c:MH} (h:Mod T a b) (k:Mod T b c):Mod T a c:=⟨Nat.le_trans h.1 k.1,fun p q z=>(k.2 p (Nat.lt_of_lt_of_le q h.1) z).trans (h.2 p q z)⟩
theorem Le.mod {T:List Nat} {a b:MH} (h:Le a b):Mod T a b:=⟨h.1,fun p q y_=>h.2 p q⟩
theorem Mod.has {T:List Nat} {m m':MH} (h:Mod T m m') {p:Nat} {o:MObj} (k:m[p]?=some o) (z:p∉T):m'[p]?=some o:=by
 rw [h.2 p (bJ k) z,k]
theorem Mod.set {T:List Nat} {m:MH} {p:Nat} {o:MObj} (h:p∈T):Mod T m (m.set p o):=
 ⟨by rw [List.length_set];exact Nat.le_refl _,fun q y_ z=>by rw [List.getElem?_set_ne];rintro rfl;exact z h⟩
section
variable {S:Sig} {F:Fns} {r:Lo} {m:MH} {E:Nat->MH->Prop}
theorem cY6 {p c k:Nat} {fs:List (Nat×V)} {v:V} (h:m[p]?=some (.inst c fs)) (hv:aK5 k fs=some v):aD2 (.ref p) k m=.ok v m:=by
 unfold aD2;dsimp only;rw [h];dsimp only;rw [hv];rfl
theorem aN {a:CE} {p c k:Nat} {fs:List (Nat×V)} {v:V} (ha:ev S F a r m=.ok (.ref p) m) (h:m[p]?=some (.inst c fs)) (hv:aK5 k fs=some v):ev S F (.attr a k) r m=.ok v m:=by
 show Res.bind (ev S F a r m) _=_
 rw [ha];exact cY6 h hv
theorem bQ {o:CE} {k:Nat} {as:List CE} {Q:V->MH->Prop} (h:Wp (ev S F o r) m (fun x m'=>∃ p c fs d j,x=.ref p /\ m'[p]?=some (.inst c fs) /\ S.cls[c]?=some d /\ aK5 k fs=none /\ d.meths.lookup k=some j /\ Wp (evs S F as r) m' (fun vs m''=>Wp (F j (.ref p::vs)) m'' Q E) E) E):Wp (ev S F (.meth o k as) r) m Q E:=by
 refine aM (x:=ev S F o r) (wp_mono h (fun x m' q=>?_) fun y_ y_ q=>q)
 rcases q with ⟨p,c,fs,d,j,rfl,h1,h2,h3,h4,q⟩
 have em:fU S k (.ref p) m'=.ok j m':=by unfold fU;dsimp only;rw [h1];dsimp only;rw [h2];dsimp only;rw [h3];dsimp only;rw [h4];rfl
 exact aM (aH em (aM (x:=evs S F as r) q))
theorem bE8 {c:Nat} {as:List CE} {Q:V->MH->Prop} (h:Wp (evs S F as r) m (fun vs m'=>∃ d k,S.cls[c]?=some d /\ d.exc=false /\ d.init=some k /\ Wp (F k (.ref m'.length::vs)) (m'++[.inst c []]) (fun u m''=>u=.none /\ Q (.ref m'.length) m'') E) E):Wp (ev S F (.new c as) r) m Q E:=by
 refine aM (x:=evs S F as r) (wp_mono h (fun vs m' q=>?_) fun y_ y_ q=>q)
 rcases q with ⟨d,k,h1,h2,h3,q⟩
 unfold cT9
 rw [h1];dsimp only;rw [h2,h3]
 show Wp (bnd (alloc (.inst c [])) fun x=>bnd (F k (x::vs)) (dE5 x)) m' Q E
 refine aM (aH (a:=.ref m'.length) (m':=m'++[.inst c []]) rfl (aM (x:=F k (.ref m'.length::vs)) (wp_mono q (fun u m'' z=>?_) fun y_ y_ z=>z)))
 rcases z with ⟨rfl,z⟩
 exact z
variable {Q:Fl×Lo->MH->Prop} {ss:List CS}
theorem aB7 {o e:CE} {k:Nat} (h:Wp (ev S F e r) m (fun v m'=>Wp (ev S F o r) m' (fun x m''=>∃ p c fs,x=.ref p /\ m''[p]?=some (.inst c fs) /\ Wp (exs S F ss r) (m''.set p (.inst c (fB k v fs))) Q E) E) E):Wp (exs S F (.asg (.attr o k) e::ss) r) m Q E:=by
 refine fX (aM (x:=ev S F e r) (wp_mono h (fun v m' q=>aM (aM (x:=ev S F o r) (wp_mono q (fun x m'' q=>?_) fun y_ y_ q=>q))) fun y_ y_ q=>q))
 rcases q with ⟨p,c,fs,rfl,h1,q⟩
 refine aM (aH (a:=()) (m':=m''.set p (.inst c (fB k v fs))) (by unfold dT;dsimp only;rw [h1]) q)
theorem d8 {o i e:CE} (h:Wp (ev S F e r) m (fun v m1=>Wp (ev S F o r) m1 (fun x m2=>Wp (ev S F i r) m2 (fun y m3=>Wp (dN x y v) m3 (fun y_ m4=>Wp (exs S F ss r) m4 Q E) E) E) E) E):Wp (exs S F (.asg (.idx o i) e::ss) r) m Q E:=by
 refine fX (aM (x:=ev S F e r) (wp_mono h (fun v m' q=>aM (aM (x:=ev S F o r) (wp_mono q (fun x m'' q=>aM (x:=ev S F i r) (wp_mono q (fun y m3 q=>aM (x:=dN x y v) (wp_mono q (fun y_ m4 q=>q) fun y_ y_ q=>q)) fun y_ y_ q=>q)) fun y_ y_ q=>q))) fun y_ y_ q=>q))
theorem dX {p e:Nat} {y:V} {k:Ky} {kvs:List (Ky×V)} {v:V} {Q:Unit->MH->Prop} (h:m[p]?=some (.dict kvs e)) (hk:dQ y=some k) (hs:aP k kvs=true) (hl:kvs.length < lid) (q:Q () (m.set p (.dict (put k v kvs) (e+1)))):Wp (dN (.ref p) y v) m Q E:=by
 refine aH (a:=()) (m':=m.set p (.dict (put k v kvs) (e+1))) ?_ q
 unfold dN;dsimp only;rw [h];dsimp only;rw [hk];dsimp only;rw [hs,decide_eq_true hl];rfl
theorem dA7 {p e:Nat} {j:Int} {kvs:List (Ky×V)} {v:V} {Q:V->MH->Prop} (h:m[p]?=some (.dict kvs e)) (hs:aP (.int j) kvs=true) (hl:bX (.int j) kvs=some v) (q:Q v (m.set p (.dict (fM (.int j) kvs) (e+1)))):Wp (dD 1 (.ref p) .pop [.int j]) m Q E:=by
 refine aH (m':=m.set p (.dict (fM (.int j) kvs) (e+1))) ?_ q
 show (match m[p]? with | some (.dict kvs e)=>bL1 p kvs e .pop [.int j] m | _=>.bad)=_
 rw [h]
 show (if aP (.int j) kvs=true then (match bX (.int j) kvs with | some v=>Res.ok v (m.set p (.dict (fM (.int j) kvs) (e+1))) | Option.none=>.bad) else .bad)=_
 rw [if_pos hs,hl]
theorem cA6 {p:Nat} {xs:List V} {v:V} {Q:V->MH->Prop} (h:m[p]?=some (.list xs)) (hl:xs.length < lid) (q:Q .none (m.set p (.list (xs++[v])))):Wp (dD 0 (.ref p) .append [v]) m Q E:=by
 refine aH (m':=m.set p (.list (xs++[v]))) ?_ q
 show (match m[p]? with | some (.list xs)=>bK1 p xs .append [v] m | _=>.bad)=_
 rw [h]
 show (if xs.length < lid then Res.ok V.none (m.set p (.list (xs++[v]))) else .bad)=_
 rw [if_pos hl]
theorem smK_d {p e:Nat} {kvs:List (Ky×V)} (h:m[p]?=some (.dict kvs e)):smK (.ref p) m=some 1:=by unfold smK;dsimp only;rw [h]
theorem aT {p e:Nat} {x:V} {k:Ky} {kvs:List (Ky×V)} (h:m[p]?=some (.dict kvs e)) (hk:dQ x=some k) (hs:aP k kvs=true):inV x (.ref p) m=.ok (bX k kvs).isSome m:=by
 unfold inV;dsimp only;rw [h];dsimp only;rw [hk];dsimp only;rw [if_pos hs]
theorem eI {p e:Nat} {x v:V} {k:Ky} {kvs:List (Ky×V)} (h:m[p]?=some (.dict kvs e)) (hk:dQ x=some k) (hs:aP k kvs=true) (hl:bX k kvs=some v):aX8 (.ref p) x m=.ok v m:=by
 unfold aX8;dsimp only;rw [h];dsimp only;rw [hk];dsimp only;rw [if_pos hs,hl];rfl
end
end Mini.Internal
namespace Mini.Internal
open PySem
structure Wo where
 k:Str
 n:Int
 r:Str
 h:Int
 deriving DecidableEq
noncomputable def Wo.v (w:Wo):V:=.tup [.str w.k,.int w.n,.str w.r,.int w.h]
noncomputable def Wo.ky (w:Wo):Ky:=.tup [.inr w.k,.inl w.n,.inr w.r,.inl w.h]
theorem dA6 {a b:Wo} (h:a.ky=b.ky):a=b:=by
 rcases a with ⟨a1,a2,a3,a4⟩
 rcases b with ⟨b1,b2,b3,b4⟩
 cases (h);rfl
noncomputable def mrk (n:Int) (r:Str) (h:Int):Wo:=⟨fJ,n,r,h⟩
noncomputable def aE0 (a b:Wo):Bool:=a.h == b.h&&a.k == b.k&&a.n == b.n&&a.r != b.r
noncomputable def kD (l:List Wo):List (Ky×V):=l.map fun w=>(w.ky,.bool true)
noncomputable def iD (l:List Int):List (Ky×V):=l.map fun i=>(.int i,.bool true)
noncomputable def fA (w:Wo) (l:List Wo):List Wo:=if w∈l then l else l++[w]
theorem cT (l:List Wo) (w:Wo):aP w.ky (kD l)=true:=by
 unfold aP kD
 rw [List.all_map,List.all_eq_true]
 intro _ _;rfl
theorem cU (l:List Int) (k:Int):aP (.int k) (iD l)=true:=by
 unfold aP iD
 rw [List.all_map,List.all_eq_true]
 intro _ _;rfl
theorem aI4 (w:Wo):∀ l:List Wo,(bX w.ky (kD l)).isSome=decide (w∈l)
 | []=>by simp [kD,bX]
 | a::l=>by
  show (if a.ky=w.ky then some (V.bool true) else bX w.ky (kD l)).isSome=_
  by_cases z:a=w
  ·subst z;rw [if_pos rfl];simp
  ·rw [if_neg fun c=>z (dA6 c),aI4 w l]
   have:w≠a:=fun c=>z c.symm
   simp [this]
theorem aT0 (w:Wo):∀ l:List Wo,put w.ky (.bool true) (kD l)=kD (fA w l)
 | []=>by simp [kD,put,fA]
 | a::l=>by
  show (if a.ky=w.ky then (a.ky,V.bool true)::kD l else (a.ky,V.bool true)::put w.ky (.bool true) (kD l))=_
  by_cases z:a=w
  ·subst z;rw [if_pos rfl];simp [fA,kD]
  ·rw [if_neg fun c=>z (dA6 c),aT0 w l]
   have:w≠a:=fun c=>z c.symm
   unfold fA
   by_cases y:w∈l
   ·rw [if_pos y,if_pos (.tail _ y)];rfl
   ·rw [if_neg y,if_neg (by simp [this,y])];rfl
theorem bV3 {a b:Int} (h:Ky.int a=Ky.int b):a=b:=dF3 h
noncomputable def tD {α:Type} (g:α->Int) (f:α->V) (l:List α):List (Ky×V):=l.map fun x=>(.int (g x),f x)
theorem bC {α:Type} (g:α->Int) (f:α->V) (l:List α) (k:Int):aP (.int k) (tD g f l)=true:=by
 unfold aP tD
 rw [List.all_map,List.all_eq_true]
 intro _ _;rfl
theorem aD5 {α:Type} (g:α->Int) (f:α->V) (k:Int):∀ l:List α,bX (.int k) (tD g f l)=(l.find? fun x=>g x == k).map f
 | []=>rfl
 | a::l=>by
  show (if Ky.int (g a)=Ky.int k then some (f a) else bX (.int k) (tD g f l))=_
  by_cases z:g a=k
  ·rw [if_pos (by rw [z]),List.find?_cons_of_pos (by simp [z])];rfl
  ·rw [if_neg fun c=>z (bV3 c),List.find?_cons_of_neg (by simp [z]),aD5 g f k l]
theorem dH {α:Type} (g:α->Int) (f:α->V) (k:Int) (l:List α):(bX (.int k) (tD g f l)).isSome=l.any fun x=>g x == k:=by
 rw [aD5,Option.isSome_map]
 induction l with
 | nil=>rfl
 | cons a l ih=>
  rw [List.any_cons]
  by_cases z:(g a == k)=true
  ·rw [List.find?_cons_of_pos (p:=fun x=>g x == k) z,z];rfl
  ·rw [List.find?_cons_of_neg (p:=fun x=>g x == k) z,ih];simp [z]
theorem aC2 {α:Type} (g:α->Int) (f:α->V) (k:Int) (v:V):∀ l:List α,(l.any fun x=>g x == k)=false->put (.int k) v (tD g f l)=tD g f l++[(.int k,v)]
 | [],_=>rfl
 | a::l,h=>by
  rw [List.any_cons,Bool.or_eq_false_iff] at h
  show (if Ky.int (g a)=Ky.int k then _ else (Ky.int (g a),f a)::put (.int k) v (tD g f l))=_
  rw [if_neg fun c=>by rw [bV3 c] at h;simp at h,aC2 g f k v l h.2];rfl
theorem cH5 (l:List Int):iD l=tD id (fun y_=>.bool true) l:=rfl
structure Hs where
 cnt:Int
 own:Int
 onw:Int
 known:List Wo
 marked:List Int
 rows:List (Int×Str×List Wo)
 named:List (Int×Wo×Wo)
noncomputable def aD7 (c:Int):Int:=(c+(c - 1) / 3) / 2+1
noncomputable def Hs.marking (s:Hs) (w:Wo):Hs×List Wo:=
 if w.k≠cY \/ w.n∈s.marked then (s,[]) else ({ s with marked:=s.marked++[w.n],known:=fA (mrk w.n w.r s.own) s.known },[mrk w.n w.r s.own])
noncomputable def Hs.marks (s:Hs) (n:Int) (r:Str):List Wo:=((List.range s.cnt.toNat).map fun (j:Nat)=>mrk n r j).filter fun w=>decide (w∈s.known)
noncomputable def Hs.wrote (s:Hs) (n:Int):Bool:=s.rows.any fun x=>x.1 == n
noncomputable def Hs.writing (s:Hs) (n:Int) (r:Str):Hs×List Wo:=
 if ((s.marks n r).length:Int) < aD7 s.cnt \/ s.wrote n=true then (s,[]) else ({ s with rows:=s.rows++[(n,r,s.marks n r)] },s.marks n r)
noncomputable def Hs.naming (s:Hs) (w:Wo) (ahead:List Wo):Hs×List Wo:=match ahead with
 | []=>(s,[])
 | a::_=>if (s.named.any fun x=>x.1 == w.h)=true then (s,[]) else ({ s with named:=s.named++[(w.h,a,w)] },[a,w])
noncomputable def Hs.hear (s:Hs) (w:Wo):Hs×List Wo:=
 if w∈s.known then (s,[]) else
  let ahead:=s.known.filter fun a=>aE0 a w
  let a:=({ s with known:=s.known++[w] }:Hs).marking w
  let b:=a.1.writing w.n w.r
  let c:=b.1.naming w ahead
  (c.1,a.2++b.2++c.2)
noncomputable def Hs.call (s:Hs) (r:Str):Hs×List Wo:=
 let w:Wo:=⟨cY,s.onw,r,s.own⟩
 let a:=({ s with onw:=s.onw+s.cnt }:Hs).hear w
 (a.1,w::a.2)
structure Hd where
 p:Nat
 a:Nat
 b:Nat
 c:Nat
 d:Nat
 e:Nat
 f:Nat
 bs:List Nat
noncomputable def Hd.foot (D:Hd):List Nat:=[D.p,D.a,D.b,D.c,D.d,D.e,D.f]
noncomputable def Hd.all (D:Hd):List Nat:=D.foot++D.bs
noncomputable def aK1 (l:List (Int×Str×List Wo)):List (Ky×V):=tD (·.1) (fun x=>V.str x.2.1) l
noncomputable def bM0 (l:List (Int×Nat)):List (Ky×V):=tD (·.1) (fun x=>V.ref x.2) l
noncomputable def bak (s:Hs) (D:Hd):List (Int×Nat):=(s.rows.map (·.1)).zip D.bs
noncomputable def bJ7 (l:List (Int×Wo×Wo)):List V:=l.map fun x=>.tup [.int x.1,x.2.1.v,x.2.2.v]
noncomputable def bC4 (l:List (Int×Wo×Wo)):List (Ky×V):=tD (·.1) (fun y_=>V.bool true) l
noncomputable def cZ6 (D:Hd) (s:Hs):List (Nat×V):=[(8,.int s.cnt),(9,.int s.own),(10,.int s.onw),(11,.ref D.a),(12,.ref D.b),(13,.ref D.c),(14,.ref D.d),(15,.ref D.e),(16,.ref D.f)]
structure Ho (m:MH) (C:Nat) (D:Hd) (s:Hs):Prop where
 inst:m[D.p]?=some (.inst C (cZ6 D s))
 kn:∃ e,m[D.a]?=some (.dict (kD s.known) e)
 mr:∃ e,m[D.b]?=some (.dict (iD s.marked) e)
 ro:∃ e,m[D.c]?=some (.dict (aK1 s.rows) e)
 ba:∃ e,m[D.d]?=some (.dict (bM0 (bak s D)) e)
 na:m[D.e]?=some (.list (bJ7 s.named))
 bl:∃ e,m[D.f]?=some (.dict (bC4 s.named) e)
 bk:∀ (i:Nat) (x:Int×Str×List Wo),s.rows[i]?=some x->∃ q,D.bs[i]?=some q /\ m[q]?=some (.list (x.2.2.map Wo.v))
 len:D.bs.length=s.rows.length
 nd:D.all.Nodup
theorem Ho.mod {T:List Nat} {m m':MH} {C:Nat} {D:Hd} {s:Hs} (h:Ho m C D s) (l:Mod T m m') (ht:∀ x∈D.all,x∉T):Ho m' C D s:=by
 have F:∀ x∈D.foot,x∉T:=fun x hx=>ht x (List.mem_append_left _ hx)
 refine ⟨l.has h.inst (F _ (by simp [Hd.foot])),?_,?_,?_,?_,l.has h.na (F _ (by simp [Hd.foot])),?_,fun i x e=>?_,h.len,h.nd⟩
 ·rcases h.kn with ⟨e,k⟩;exact ⟨e,l.has k (F _ (by simp [Hd.foot]))⟩
 ·rcases h.mr with ⟨e,k⟩;exact ⟨e,l.has k (F _ (by simp [Hd.foot]))⟩
 ·rcases h.ro with ⟨e,k⟩;exact ⟨e,l.has k (F _ (by simp [Hd.foot]))⟩
 ·rcases h.ba with ⟨e,k⟩;exact ⟨e,l.has k (F _ (by simp [Hd.foot]))⟩
 ·rcases h.bl with ⟨e,k⟩;exact ⟨e,l.has k (F _ (by simp [Hd.foot]))⟩
 ·rcases h.bk i x e with ⟨q,k1,k2⟩
  exact ⟨q,k1,l.has k2 (ht _ (List.mem_append_right _ (List.mem_of_getElem? k1)))⟩
theorem Ho.le {m m':MH} {C:Nat} {D:Hd} {s:Hs} (h:Ho m C D s) (l:Le m m'):Ho m' C D s:=h.mod (T:=[]) l.mod fun y_ y_ q=>nomatch q
theorem Ho.lt {m:MH} {C:Nat} {D:Hd} {s:Hs} (h:Ho m C D s):∀ x∈D.all,x < m.length:=by
 intro x hx
 rcases h.kn with ⟨y_,k1⟩
 rcases h.mr with ⟨y_,k2⟩
 rcases h.ro with ⟨y_,k3⟩
 rcases h.ba with ⟨y_,k4⟩
 rcases h.bl with ⟨y_,k5⟩
 rcases List.mem_append.mp hx with hx | hx
 ·simp only [Hd.foot,List.mem_cons,List.not_mem_nil,or_false] at hx
  rcases hx with rfl | rfl | rfl | rfl | rfl | rfl | rfl
  ·exact bJ h.inst
  ·exact bJ k1
  ·exact bJ k2
  ·exact bJ k3
  ·exact bJ k4
  ·exact bJ h.na
  ·exact bJ k5
 ·rcases List.getElem?_of_mem hx with ⟨i,hi⟩
  have:i < s.rows.length:=by rw [<- h.len];exact (List.getElem?_eq_some_iff.mp hi).1
  rcases h.bk i _ (List.getElem?_eq_getElem this) with ⟨q,e1,e2⟩
  rw [hi] at e1;(refine aF e1 fun z1=>?_;clear e1;subst z1);exact bJ e2
end Mini.Internal
namespace Mini.Internal
open PySem
theorem cF3 {l:List Nat} (nd:l.Nodup) {i j x y:Nat} (hi:l[i]?=some x) (hj:l[j]?=some y) (hij:i≠j):x≠y:=by
 rcases List.getElem?_eq_some_iff.mp hi with ⟨h1,rfl⟩
 rcases List.getElem?_eq_some_iff.mp hj with ⟨h2,rfl⟩
 have P:=List.pairwise_iff_getElem.mp nd
 rcases Nat.lt_or_gt_of_ne hij with z | z
 ·exact P i j h1 h2 z
 ·exact fun e=>P j i h2 h1 z e.symm
theorem n7 {i k:Nat} (h:k < 7):i+7≠k:=fun c=>Nat.not_lt.mpr (Nat.le_add_left 7 i) (c▸h)
theorem Hd.upd {D:Hd} (nd:D.all.Nodup) {m:MH} {o':MObj} {j x:Nat} (hx:D.all[j]?=some x):∀ (i q:Nat) (o:MObj),D.all[i]?=some q->i≠j->m[q]?=some o->(m.set x o')[q]?=some o:=
 fun i q o hq hij k=>aY (cF3 nd hx hq (fun e=>hij e.symm)) k
section
variable {m:MH} {C:Nat} {D:Hd} {s:Hs}
theorem Ho.setP (h:Ho m C D s) (k:Int):Ho (m.set D.p (.inst C (cZ6 D { s with onw:=k }))) C D { s with onw:=k }:=by
 have F:=Hd.upd h.nd (m:=m) (o':=.inst C (cZ6 D { s with onw:=k })) (j:=0) rfl
 refine ⟨bI h.inst,?_,?_,?_,?_,F 5 _ _ rfl (by decide) h.na,?_,fun i x e=>?_,h.len,h.nd⟩
 ·rcases h.kn with ⟨e,k⟩;exact ⟨e,F 1 _ _ rfl (by decide) k⟩
 ·rcases h.mr with ⟨e,k⟩;exact ⟨e,F 2 _ _ rfl (by decide) k⟩
 ·rcases h.ro with ⟨e,k⟩;exact ⟨e,F 3 _ _ rfl (by decide) k⟩
 ·rcases h.ba with ⟨e,k⟩;exact ⟨e,F 4 _ _ rfl (by decide) k⟩
 ·rcases h.bl with ⟨e,k⟩;exact ⟨e,F 6 _ _ rfl (by decide) k⟩
 ·rcases h.bk i x e with ⟨q,k1,k2⟩;exact ⟨q,k1,F (i+7) _ _ k1 (n7 (by decide)) k2⟩
theorem Ho.setK (h:Ho m C D s) (l:List Wo) (e:Nat):Ho (m.set D.a (.dict (kD l) e)) C D { s with known:=l }:=by
 have F:=Hd.upd h.nd (m:=m) (o':=.dict (kD l) e) (j:=1) rfl
 rcases h.kn with ⟨e0,k0⟩
 refine ⟨F 0 _ _ rfl (by decide) h.inst,⟨e,bI k0⟩,?_,?_,?_,F 5 _ _ rfl (by decide) h.na,?_,fun i x e=>?_,h.len,h.nd⟩
 ·rcases h.mr with ⟨e,k⟩;exact ⟨e,F 2 _ _ rfl (by decide) k⟩
 ·rcases h.ro with ⟨e,k⟩;exact ⟨e,F 3 _ _ rfl (by decide) k⟩
 ·rcases h.ba with ⟨e,k⟩;exact ⟨e,F 4 _ _ rfl (by decide) k⟩
 ·rcases h.bl with ⟨e,k⟩;exact ⟨e,F 6 _ _ rfl (by decide) k⟩
 ·rcases h.bk i x e with ⟨q,k1,k2⟩;exact ⟨q,k1,F (i+7) _ _ k1 (n7 (by decide)) k2⟩
theorem Ho.setM (h:Ho m C D s) (l:List Int) (e:Nat):Ho (m.set D.b (.dict (iD l) e)) C D { s with marked:=l }:=by
 have F:=Hd.upd h.nd (m:=m) (o':=.dict (iD l) e) (j:=2) rfl
 rcases h.mr with ⟨e0,k0⟩
 refine ⟨F 0 _ _ rfl (by decide) h.inst,?_,⟨e,bI k0⟩,?_,?_,F 5 _ _ rfl (by decide) h.na,?_,fun i x e=>?_,h.len,h.nd⟩
 ·rcases h.kn with ⟨e,k⟩;exact ⟨e,F 1 _ _ rfl (by decide) k⟩
 ·rcases h.ro with ⟨e,k⟩;exact ⟨e,F 3 _ _ rfl (by decide) k⟩
 ·rcases h.ba with ⟨e,k⟩;exact ⟨e,F 4 _ _ rfl (by decide) k⟩
 ·rcases h.bl with ⟨e,k⟩;exact ⟨e,F 6 _ _ rfl (by decide) k⟩
 ·rcases h.bk i x e with ⟨q,k1,k2⟩;exact ⟨q,k1,F (i+7) _ _ k1 (n7 (by decide)) k2⟩
theorem Ho.setR (h:Ho m C D s) {n:Int} {r:Str} {ws:List Wo} {q e1 e2:Nat} (hq:m[q]?=some (.list (ws.map Wo.v))) (hn:q∉D.all) :
  Ho ((m.set D.c (.dict (aK1 (s.rows++[(n,r,ws)])) e1)).set D.d (.dict (bM0 (bak s D++[(n,q)])) e2)) C { D with bs:=D.bs++[q] } { s with rows:=s.rows++[(n,r,ws)] }:=by
 have F1:=Hd.upd h.nd (m:=m) (o':=.dict (aK1 (s.rows++[(n,r,ws)])) e1) (j:=3) rfl
 have F2:=Hd.upd h.nd (m:=m.set D.c (.dict (aK1 (s.rows++[(n,r,ws)])) e1)) (o':=.dict (bM0 (bak s D++[(n,q)])) e2) (j:=4) rfl
 have F:∀ (i x:Nat) (o:MObj),D.all[i]?=some x->i≠3->i≠4->m[x]?=some o->((m.set D.c (.dict (aK1 (s.rows++[(n,r,ws)])) e1)).set D.d (.dict (bM0 (bak s D++[(n,q)])) e2))[x]?=some o:=fun i x o a b c d=>F2 i x o a c (F1 i x o a b d)
 rcases h.ro with ⟨e3,k3⟩
 rcases h.ba with ⟨e4,k4⟩
 have qc:D.c≠q:=fun e=>hn (e▸List.mem_append_left _ (by simp [Hd.foot]))
 have qd:D.d≠q:=fun e=>hn (e▸List.mem_append_left _ (by simp [Hd.foot]))
 have kc:(m.set D.c (.dict (aK1 (s.rows++[(n,r,ws)])) e1))[D.c]?=some (.dict (aK1 (s.rows++[(n,r,ws)])) e1):=bI k3
 have kd:=F1 4 D.d _ rfl (by decide) k4
 have eb:bak { s with rows:=s.rows++[(n,r,ws)] } { D with bs:=D.bs++[q] }=bak s D++[(n,q)]:=by
  unfold bak
  rw [List.map_append]
  exact List.zip_append (by rw [List.length_map,h.len])
 refine ⟨F 0 _ _ rfl (by decide) (by decide) h.inst,?_,?_,⟨e1,F2 3 _ _ rfl (by decide) kc⟩,⟨e2,?_⟩,F 5 _ _ rfl (by decide) (by decide) h.na,?_,fun i x e=>?_,?_,?_⟩
 ·rcases h.kn with ⟨e,k⟩;exact ⟨e,F 1 _ _ rfl (by decide) (by decide) k⟩
 ·rcases h.mr with ⟨e,k⟩;exact ⟨e,F 2 _ _ rfl (by decide) (by decide) k⟩
 ·rw [eb];exact bI kd
 ·rcases h.bl with ⟨e,k⟩;exact ⟨e,F 6 _ _ rfl (by decide) (by decide) k⟩
 ·rcases Nat.lt_or_ge i s.rows.length with z | z
  ·have e:s.rows[i]?=some x:=by rw [<- e];exact (List.getElem?_append_left z).symm
   rcases h.bk i x e with ⟨y,k1,k2⟩
   exact ⟨y,by rw [<- k1];exact List.getElem?_append_left (by rw [h.len];exact z),F (i+7) _ _ k1 (n7 (by decide)) (n7 (by decide)) k2⟩
  ·have e:(s.rows++[(n,r,ws)])[i]?=some x:=e
   rw [List.getElem?_append_right z] at e
   have hi:i=s.rows.length:=by
    cases w:i - s.rows.length with
    | zero=>exact Nat.le_antisymm (Nat.le_of_sub_eq_zero w) z
    | succ j=>rw [w] at e;injection e
   subst hi
   rw [Nat.sub_self] at e
   (refine aF e fun z1=>?_;clear e;subst z1)
   refine ⟨q,?_,aY qd (aY qc hq)⟩
   show (D.bs++[q])[s.rows.length]?=some q
   rw [<- h.len];simp
 ·show (D.bs++[q]).length=(s.rows++[(n,r,ws)]).length
  rw [List.length_append,List.length_append,h.len];rfl
 ·show (D.foot++(D.bs++[q])).Nodup
  rw [<- List.append_assoc]
  refine List.nodup_append.mpr ⟨h.nd,List.nodup_cons.mpr ⟨List.not_mem_nil,List.nodup_nil⟩,fun a ha b hb=>?_⟩
  rw [List.mem_singleton.mp hb]
  rintro rfl
  exact hn ha
theorem Ho.setN (h:Ho m C D s) {x:Int×Wo×Wo} {e1:Nat}:Ho ((m.set D.f (.dict (bC4 (s.named++[x])) e1)).set D.e (.list (bJ7 (s.named++[x])))) C D { s with named:=s.named++[x] }:=by
 have F1:=Hd.upd h.nd (m:=m) (o':=.dict (bC4 (s.named++[x])) e1) (j:=6) rfl
 have F2:=Hd.upd h.nd (m:=m.set D.f (.dict (bC4 (s.named++[x])) e1)) (o':=.list (bJ7 (s.named++[x]))) (j:=5) rfl
 have F:∀ (i y:Nat) (o:MObj),D.all[i]?=some y->i≠6->i≠5->m[y]?=some o->((m.set D.f (.dict (bC4 (s.named++[x])) e1)).set D.e (.list (bJ7 (s.named++[x]))))[y]?=some o:=fun i x o a b c d=>F2 i x o a c (F1 i x o a b d)
 rcases h.bl with ⟨e3,k3⟩
 have kf:(m.set D.f (.dict (bC4 (s.named++[x])) e1))[D.f]?=some (.dict (bC4 (s.named++[x])) e1):=bI k3
 have ke:=F1 5 D.e _ rfl (by decide) h.na
 refine ⟨F 0 _ _ rfl (by decide) (by decide) h.inst,?_,?_,?_,?_,bI ke,⟨e1,F2 6 _ _ rfl (by decide) kf⟩,fun i x e=>?_,h.len,h.nd⟩
 ·rcases h.kn with ⟨e,k⟩;exact ⟨e,F 1 _ _ rfl (by decide) (by decide) k⟩
 ·rcases h.mr with ⟨e,k⟩;exact ⟨e,F 2 _ _ rfl (by decide) (by decide) k⟩
 ·rcases h.ro with ⟨e,k⟩;exact ⟨e,F 3 _ _ rfl (by decide) (by decide) k⟩
 ·rcases h.ba with ⟨e,k⟩;exact ⟨e,F 4 _ _ rfl (by decide) (by decide) k⟩
 ·rcases h.bk i x e with ⟨q,k1,k2⟩;exact ⟨q,k1,F (i+7) _ _ k1 (n7 (by decide)) (n7 (by decide)) k2⟩
end
end Mini.Internal
namespace Mini.Internal
open PySem
structure HN where
 C:Nat
 kW:Nat
 kN:Nat
 kM:Nat
 kE:Nat
 kR:Nat
 kU:Nat
 ki:Nat
 cC:Nat
 cH:Nat
 cR:Nat
 cN:Nat
 gM:Nat
 gL:Nat
 gS:Nat
noncomputable def cN8 (kN:Nat):List CS:=[.exp (.call kN [.var 0]),.ret (.bin .FloorDiv (.bin .Sub (.var 0) (.cnst (.int 1))) (.cnst (.int 3)))]
noncomputable def bI2 (kN kM:Nat):List CS:=[.exp (.call kN [.var 0]),.ret (.bin .Add (.bin .FloorDiv (.bin .Add (.var 0) (.call kM [.var 0])) (.cnst (.int 2))) (.cnst (.int 1)))]
noncomputable def bH5:List CS:=[
 (.ret (.boolop true [(.cmp (.idx (.var 0) (.cnst (Lt.int 3))) [.Eq] [(.idx (.var 1) (.cnst (Lt.int 3)))]),(.cmp (.idx (.var 0) (.cnst (Lt.int 0))) [.Eq] [(.idx (.var 1) (.cnst (Lt.int 0)))]),(.cmp (.idx (.var 0) (.cnst (Lt.int 1))) [.Eq] [(.idx (.var 1) (.cnst (Lt.int 1)))]),(.cmp (.idx (.var 0) (.cnst (Lt.int 2))) [.NotEq] [(.idx (.var 1) (.cnst (Lt.int 2)))])]))]
noncomputable def bZ5 (kN kW cH:Nat):List CS:=[
 (.exp (.call kN [(.var 1)])),
 (.ite (.all false [(.not (.val (.call kW [(.var 2)]))),(.not (.val (.cmp (.cnst (Lt.int 0)) [.LtE,.Lt] [(.var 2),(.var 1)])))]) [
  (.rse cH (Str.ofString "no house of the town"))] []),
 (.asg (.attr (.var 0) 8) (.var 1)),
 (.asg (.attr (.var 0) 9) (.var 2)),
 (.asg (.attr (.var 0) 10) (.var 2)),
 (.asg (.attr (.var 0) 11) (.dict [] [])),
 (.asg (.attr (.var 0) 12) (.dict [] [])),
 (.asg (.attr (.var 0) 13) (.dict [] [])),
 (.asg (.attr (.var 0) 14) (.dict [] [])),
 (.asg (.attr (.var 0) 15) (.list [])),
 (.asg (.attr (.var 0) 16) (.dict [] []))]
noncomputable def cO0 (kR cR:Nat):List CS:=[
 (.ite (.not (.val (.call kR [(.var 1)]))) [
  (.rse cR (Str.ofString "no row"))] []),
 (.asg (.one (.one 2)) (.tup [(.cnst (Lt.str (Str.ofString "say"))),(.attr (.var 0) 10),(.var 1),(.attr (.var 0) 9)])),
 (.asg (.attr (.var 0) 10) (.bin .Add (.attr (.var 0) 10) (.attr (.var 0) 8))),
 (.ret (.bin .Add (.list [(.var 2)]) (.meth (.var 0) 1 [(.var 2)])))]
noncomputable def cN9 (kU:Nat):List CS:=[
 (.ite (.val (.cmp (.var 1) [.In] [(.attr (.var 0) 11)])) [
  (.ret (.list []))] []),
 (.asg (.one (.one 2)) (.comp (.var 3) (.one 3) 1 .expr [(.attr (.var 0) 11)] [(.val (.call kU [(.var 3),(.var 1)]))])),
 (.asg (.idx (.attr (.var 0) 11) (.var 1)) (.cnst (Lt.bool true))),
 (.ret (.bin .Add (.bin .Add (.meth (.var 0) 2 [(.var 1)]) (.meth (.var 0) 3 [(.idx (.var 1) (.cnst (Lt.int 1))),(.idx (.var 1) (.cnst (Lt.int 2)))])) (.meth (.var 0) 4 [(.var 1),(.var 2)])))]
noncomputable def aX3:List CS:=[
 (.ite (.all false [(.val (.cmp (.idx (.var 1) (.cnst (Lt.int 0))) [.NotEq] [(.cnst (Lt.str (Str.ofString "say")))])),(.val (.cmp (.idx (.var 1) (.cnst (Lt.int 1))) [.In] [(.attr (.var 0) 12)]))]) [
  (.ret (.list []))] []),
 (.asg (.one (.one 2)) (.tup [(.cnst (Lt.str (Str.ofString "mark"))),(.idx (.var 1) (.cnst (Lt.int 1))),(.idx (.var 1) (.cnst (Lt.int 2))),(.attr (.var 0) 9)])),
 (.asg (.idx (.attr (.var 0) 12) (.idx (.var 1) (.cnst (Lt.int 1)))) (.cnst (Lt.bool true))),
 (.asg (.idx (.attr (.var 0) 11) (.var 2)) (.cnst (Lt.bool true))),
 (.ret (.list [(.var 2)]))]
noncomputable def aX0 (kE:Nat):List CS:=[
 (.asg (.one (.one 3)) (.comp (.tup [(.cnst (Lt.str (Str.ofString "mark"))),(.var 1),(.var 2),(.var 4)]) (.one 4) 1 .range [(.attr (.var 0) 8)] [])),
 (.asg (.one (.one 3)) (.comp (.var 4) (.one 4) 1 .expr [(.var 3)] [(.val (.cmp (.var 4) [.In] [(.attr (.var 0) 11)]))])),
 (.ite (.all false [(.val (.cmp (.bi .len [(.var 3)]) [.Lt] [(.call kE [(.attr (.var 0) 8)])])),(.val (.cmp (.var 1) [.In] [(.attr (.var 0) 13)]))]) [
  (.ret (.list []))] []),
 (.asg (.idx (.attr (.var 0) 13) (.var 1)) (.var 2)),
 (.asg (.idx (.attr (.var 0) 14) (.var 1)) (.var 3)),
 (.ret (.bi .list [(.var 3)]))]
noncomputable def bH9:List CS:=[
 (.ite (.all false [(.val (.cmp (.var 2) [.Eq] [(.list [])])),(.val (.cmp (.idx (.var 1) (.cnst (Lt.int 3))) [.In] [(.attr (.var 0) 16)]))]) [
  (.ret (.list []))] []),
 (.asg (.idx (.attr (.var 0) 16) (.idx (.var 1) (.cnst (Lt.int 3)))) (.cnst (Lt.bool true))),
 (.exp (.smeth (.attr (.var 0) 15) .append [(.tup [(.idx (.var 1) (.cnst (Lt.int 3))),(.idx (.var 2) (.cnst (Lt.int 0))),(.var 1)])])),
 (.ret (.list [(.idx (.var 2) (.cnst (Lt.int 0))),(.var 1)]))]
noncomputable def bI0:List CS:=[
 (.asg (.one (.one 1)) (.dict [] [])),
 (.for_ .expr (.one 2) [(.bi .sorted [(.attr (.var 0) 13)])] [
  (.asg (.idx (.var 1) (.var 2)) (.idx (.attr (.var 0) 13) (.var 2)))]),
 (.ret (.var 1))]
noncomputable def aX4 (kW cN:Nat):List CS:=[
 (.ite (.all false [(.not (.val (.call kW [(.var 1)]))),(.val (.cmp (.var 1) [.NotIn] [(.attr (.var 0) 13)]))]) [
  (.rse cN (Str.ofString "nothing is written there"))] []),
 (.ret (.bi .list [(.idx (.attr (.var 0) 14) (.var 1))]))]
noncomputable def bI3:List CS:=[
 (.ret (.bi .list [(.attr (.var 0) 15)]))]
structure HF (S:Sig) (N:HN):Prop where
 W:b9 S N.kW 1 1 eQ
 N_:b9 S N.kN 1 1 (aN9 N.kW N.gM N.cC)
 M:b9 S N.kM 1 1 (cN8 N.kN)
 E:b9 S N.kE 1 1 (bI2 N.kN N.kM)
 R:b9 S N.kR 1 2 (fR N.gL N.gS)
 U:b9 S N.kU 2 2 bH5
 I:b9 S N.ki 3 3 (bZ5 N.kN N.kW N.cH)
 call:b9 S (N.ki+1) 2 3 (cO0 N.kR N.cR)
 hear:b9 S (N.ki+2) 2 3 (cN9 N.kU)
 marking:b9 S (N.ki+3) 2 3 aX3
 writing:b9 S (N.ki+4) 3 4 (aX0 N.kE)
 naming:b9 S (N.ki+5) 3 3 bH9
 ledger:b9 S (N.ki+6) 1 3 bI0
 backing:b9 S (N.ki+7) 2 2 (aX4 N.kW N.cN)
 caught:b9 S (N.ki+8) 1 1 bI3
 gM:∃ nm,S.globs[N.gM]?=some (nm,.int 12)
 gL:∃ nm,S.globs[N.gL]?=some (nm,.str letterS)
 gS:∃ nm,S.globs[N.gS]?=some (nm,.int 8)
 cls:∃ d,S.cls[N.C]?=some d /\ d.exc=false /\ d.init=some N.ki /\ ∀ j,j < 8->d.meths.lookup j=some (N.ki+1+j)
section
variable {S:Sig} {N:HN} {m:MH} {D:Hd} {s:Hs}
theorem cU0 (H:HF S N) (n:Nat) (c:Int) (h1:1 <= c) (h2:c <= 12) (m:MH):run S (n+3) N.kM [.int c] m=.ok (.int ((c - 1) / 3)) m:=by
 rcases H.gM with ⟨y_,gM⟩
 have en:run S (n+2) N.kN [.int c] m=.ok .none m:=by
  exact eG H.N_ H.W gM n h1 h2
 refine dW ?_
 exact bF H.M rfl (dS (aH (bA rfl en) (a9 (aC rfl ⟨rfl,rfl⟩))))
theorem bX5 (H:HF S N) (n:Nat) (c:Int) (h1:1 <= c) (h2:c <= 12) (m:MH):run S (n+4) N.kE [.int c] m=.ok (.int (aD7 c)) m:=by
 rcases H.gM with ⟨y_,gM⟩
 have en:run S (n+3) N.kN [.int c] m=.ok .none m:=by
  exact eG H.N_ H.W gM (n+1) h1 h2
 refine dW ?_
 refine bF H.E rfl (dS (aH (bA rfl en) (a9 (aH (cO (cO (cO rfl (bA rfl (cU0 H n c h1 h2 m)) rfl) rfl rfl) rfl rfl) ⟨rfl,rfl⟩))))
theorem bO6 (H:HF S N) (n:Nat) (a b:Wo) (m:MH):run S (n+1) N.kU [a.v,b.v] m=.ok (.bool (aE0 a b)) m:=by
 refine dW ?_
 refine bF H.U rfl (a9 (aH (cE3 (x:=a.h == b.h) ?_ (cE3 (x:=a.k == b.k) ?_ (cE3 (x:=a.n == b.n) ?_ (dD2 (v:=.bool (a.r != b.r)) ?_)))) ⟨?_,rfl⟩))
 ·exact aU rfl rfl rfl
 ·exact aU rfl rfl rfl
 ·exact aU rfl rfl rfl
 ·exact aU rfl rfl rfl
 ·unfold aE0;simp [Bool.and_assoc]
noncomputable def Hd.ext (D:Hd) (l:List Nat):Hd:={ D with bs:=D.bs++l }
theorem Hd.ext_nil (D:Hd):D.ext []=D:=by unfold Hd.ext;rw [List.append_nil]
theorem Hd.ext_ext (D:Hd) (a b:List Nat):(D.ext a).ext b=D.ext (a++b):=by unfold Hd.ext;rw [List.append_assoc]
inductive Tells (m:MH) (C:Nat) (D:Hd) (x:Hs×List Wo) (u:V) (m':MH):Prop
 | mk (q:Nat) (l:List Nat) (e:u=.ref q) (k1:m'[q]?=some (.list (x.2.map Wo.v))) (k2:m.length <= q) (k3:q∉(D.ext l).all) (k4:Ho m' C (D.ext l) x.1) (k5:Mod D.foot m m') (k6:∀ y∈l,m.length <= y)
theorem dC {C:Nat} {x:Hs×List Wo} {q:Nat} {m':MH} (k:m'[q]?=some (.list (x.2.map Wo.v))) (g:m.length <= q) (o:q∉D.all) (h:Ho m' C D x.1) (M:Mod D.foot m m'):Tells m C D x (.ref q) m':=
 ⟨q,[],rfl,k,g,by rw [Hd.ext_nil];exact o,by rw [Hd.ext_nil];exact h,M,fun y_ q=>nomatch q⟩
theorem d7 {C:Nat} {p:Hs×List Wo} {x:Mn V} {Q:V->MH->Prop} {E:Nat->MH->Prop} (h:Wp x m (Tells m C D p) nox) (k:∀ m' q l,m'[q]?=some (.list (p.2.map Wo.v))->m.length <= q->q∉(D.ext l).all->Ho m' C (D.ext l) p.1->Mod D.foot m m'->(∀ y∈l,m.length <= y)->Q (.ref q) m'):Wp x m Q E:=
 aX h fun u m' z=>by
  rcases z with ⟨q,l,e,k1,k2,k3,k4,k5,k6⟩
  rw [e];exact k m' q l k1 k2 k3 k4 k5 k6
theorem bJ9 (H:HF S N) (n:Nat) (w:Wo) (h:Ho m N.C D s) (hl:s.known.length+s.marked.length < lid):Wp (run S (n+1) (N.ki+3) [.ref D.p,w.v]) m (Tells m N.C D (s.marking w)) nox:=by
 rcases h.mr with ⟨eb,kb⟩
 have hc:evT S (run S n) (.all false [(.val (.cmp (.idx (.var 1) (.cnst (Lt.int 0))) [.NotEq] [(.cnst (Lt.str (Str.ofString "say")))])),(.val (.cmp (.idx (.var 1) (.cnst (Lt.int 1))) [.In] [(.attr (.var 0) 12)]))]) [some (.ref D.p),some w.v,none] m=.ok (decide (w.k≠cY \/ w.n∈s.marked)) m:=by
  have e1:evT S (run S n) (.val (.cmp (.idx (.var 1) (.cnst (Lt.int 0))) [.NotEq] [(.cnst (Lt.str (Str.ofString "say")))])) [some (.ref D.p),some w.v,none] m=.ok (!(w.k == cY)) m:=aO (aU rfl rfl rfl)
  have e2:evT S (run S n) (.val (.cmp (.idx (.var 1) (.cnst (Lt.int 1))) [.In] [(.attr (.var 0) 12)])) [some (.ref D.p),some w.v,none] m=.ok (decide (w.n∈s.marked)) m:=by
   refine aO (aU rfl (aN rfl h.inst rfl) ?_)
   show inV (.int w.n) (.ref D.b) m=_
   rw [aT kb rfl (cU _ _),cH5,dH]
   congr 1
   rw [Bool.eq_iff_iff];simp
  have:=cJ (aW e1 (aW e2 b8))
  rw [this]
  congr 1
  rw [Bool.eq_iff_iff];simp
 refine bF H.marking rfl (aV hc ?_)
 unfold Hs.marking
 by_cases z:w.k≠cY \/ w.n∈s.marked
 ·rw [if_pos z,decide_eq_true z]
  refine a9 (aS (aK (aL fun q m' l k g=>?_)))
  exact dC k g (fun c=>Nat.not_lt.mpr g (h.lt q c)) (h.le l) l.mod
 ·rw [if_neg z,decide_eq_false z]
  have z2:w.n∉s.marked:=fun c=>z (.inr c)
  refine bK (aH (aC0 (aG rfl (aG rfl (aG rfl (aG (aN rfl h.inst rfl) rfl))))) ?_)
  refine d8 (aC rfl (aH (aN rfl h.inst rfl) (aC rfl (dX kb rfl (cU _ _) (by unfold iD;rw [List.length_map];lia) ?_))))
  have ep:put (.int w.n) (.bool true) (iD s.marked)=iD (s.marked++[w.n]):=by
   rw [cH5,aC2 _ _ _ _ _ (by rw [List.any_eq_false];intro x hx;simp;rintro rfl;exact z2 hx)]
   unfold iD tD
   rw [List.map_append];rfl
  show Wp _ (m.set D.b (.dict (put (.int w.n) (.bool true) (iD s.marked)) (eb+1))) _ _
  rw [ep]
  have h1:=h.setM (s.marked++[w.n]) (eb+1)
  rcases h1.kn with ⟨ea,ka⟩
  refine d8 (aC rfl (aH (aN rfl h1.inst rfl) (aC rfl (dX ka (k:=(mrk w.n w.r s.own).ky) rfl (cT _ _) (by unfold kD;rw [List.length_map];show s.known.length < lid;lia) ?_))))
  show Wp _ (List.set _ D.a (.dict (put (mrk w.n w.r s.own).ky (.bool true) (kD s.known)) (ea+1))) _ _
  rw [aT0]
  have h2:=h1.setK (fA (mrk w.n w.r s.own) s.known) (ea+1)
  refine a9 (aS (aD (aC rfl (aK (aL fun q m' l k g=>?_)))))
  have g':m.length <= q:=by simpa using g
  refine dC k g' (fun c=>Nat.not_lt.mpr g' (h.lt q c)) (h2.le l) ?_
  exact ((Mod.set (by simp [Hd.foot])).trans (Mod.set (by simp [Hd.foot]))).trans l.mod
end
end Mini.Internal
namespace Mini.Internal
open PySem
section
variable {S:Sig} {N:HN} {m:MH} {D:Hd} {s:Hs}
theorem aO0 {α:Type} {x y:Mn α} {Q:α->MH->Prop} {E:Nat->MH->Prop} (h:x m=y m) (k:Wp y m Q E):Wp x m Q E:=by unfold Wp at k ⊢;rw [h];exact k
theorem Ho.out {C:Nat} (h:Ho m C D s) {q:Nat} (hq:m.length <= q):q∉D.all:=fun c=>Nat.not_lt.mpr hq (h.lt q c)
theorem aC4 {D:Hd} {q:Nat} (h:q∉D.all):q∉D.foot:=fun c=>h (List.mem_append_left _ c)
theorem aT8 (s:Hs) (x:Int) (r:Str):(s.marks x r).length <= s.cnt.toNat:=by
 unfold Hs.marks
 exact Nat.le_trans (List.length_filter_le _ _) (by rw [List.length_map,List.length_range];exact Nat.le_refl _)
theorem bI6 (H:HF S N) (n:Nat) (x:Int) (r:Str) (h:Ho m N.C D s) (h1:1 <= s.cnt) (h2:s.cnt <= 12) (hl:s.rows.length < lid):Wp (run S (n+5) (N.ki+4) [.ref D.p,.int x,.str r]) m (Tells m N.C D (s.writing x r)) nox:=by
 have hcn:s.cnt.toNat <= 12:=cZ h2
 refine bF H.writing rfl (bK (bS6 (List.range s.cnt.toNat) (fun (j:Nat)=>V.int (0+(j:Int))) (fun (j:Nat)=>(mrk x r j).v) (fun m'=>m'=m) (aD (aH (aN rfl h.inst rfl) (aK (aH (bQ3 (Nat.lt_of_lt_of_le (aJ7 (c:=13) (Int.le_trans (by decide) h1) (Int.lt_of_le_of_lt h2 (by decide:(12:Int) < 13)) (by decide)) (by decide))) ⟨rfl,rfl,fun y_ y_=>rfl,?_,?_,?_⟩))))))
 ·intro j hj m' em
  rw [em]
  refine aC rfl (aC rfl ⟨?_,rfl⟩)
  show V.tup [_,_,_,.int (0+(j:Int))]=_
  rw [Int.zero_add];rfl
 ·rw [List.length_range];exact Nat.le_trans hcn (by decide)
 ·intro q1 m1' m1 em l1 k1 g1
  rw [em] at l1 g1
  clear em m1'
  have ha:=h.le l1
  rcases ha.kn with ⟨ea,ka⟩
  have k1:m1[q1]?=some (.list (((List.range s.cnt.toNat).map fun (j:Nat)=>mrk x r j).map Wo.v)):=by rw [List.map_map];exact k1
  refine bK (aP5 ((List.range s.cnt.toNat).map fun (j:Nat)=>mrk x r j) Wo.v Wo.v (fun w=>decide (w∈s.known)) (fun m'=>m'=m1) (aD (aC rfl (aK (fV (m:=m1) (p:=q1) (xs:=((List.range s.cnt.toNat).map fun (j:Nat)=>mrk x r j).map Wo.v) k1 ⟨rfl,rfl,?_,?_,?_,?_⟩)))))
  ·intro m' em;rw [em];exact dR k1
  ·intro w hw m' em
   rw [em]
   refine aC rfl (bA9 (aH (aO (aU (t:=decide (w∈s.known)) rfl (aN rfl ha.inst rfl) ?_)) ⟨rfl,?_⟩))
   ·show inV w.v (.ref D.a) m1=_
    rw [aT ka (k:=w.ky) rfl (cT _ _),aI4]
   ·cases decide (w∈s.known) with
    | true=>exact bC5 (aC (m':=m1) (a:=w.v) rfl ⟨rfl,rfl⟩)
    | false=>rfl
  ·rw [List.length_map,List.length_range];exact Nat.le_trans hcn (by decide)
  ·intro q2 m2' m2 em l2 k2 g2
   rw [em] at l2 g2
   clear em m2'
   have k2:m2[q2]?=some (.list ((s.marks x r).map Wo.v)):=k2
   have hb:=ha.le l2
   have qo:q2∉D.all:=ha.out g2
   rcases hb.ro with ⟨ec,kc⟩
   rcases hb.ba with ⟨ed,kd⟩
   have ml:=aT8 s x r
   have hc:evT S (run S (n+4)) (.all false [(.val (.cmp (.bi .len [(.var 3)]) [.Lt] [(.call N.kE [(.attr (.var 0) 8)])])),(.val (.cmp (.var 1) [.In] [(.attr (.var 0) 13)]))]) [some (.ref D.p),some (.int x),some (.str r),some (.ref q2)] m2=.ok (decide (((s.marks x r).length:Int) < aD7 s.cnt \/ s.wrote x=true)) m2:=by
    have e1:evT S (run S (n+4)) (.val (.cmp (.bi .len [(.var 3)]) [.Lt] [(.call N.kE [(.attr (.var 0) 8)])])) [some (.ref D.p),some (.int x),some (.str r),some (.ref q2)] m2=.ok (decide (((s.marks x r).length:Int) < aD7 s.cnt)) m2:=by
     refine aO (aU (x:=.int (s.marks x r).length) ?_ (bA (aN rfl hb.inst rfl) (bX5 H n s.cnt h1 h2 m2)) rfl)
     show biV .len [.ref q2] m2=_
     unfold biV;dsimp only;rw [k2];dsimp only;rw [List.length_map]
    have e2:evT S (run S (n+4)) (.val (.cmp (.var 1) [.In] [(.attr (.var 0) 13)])) [some (.ref D.p),some (.int x),some (.str r),some (.ref q2)] m2=.ok (s.wrote x) m2:=by
     refine aO (aU rfl (aN rfl hb.inst rfl) ?_)
     show inV (.int x) (.ref D.c) m2=_
     rw [aT kc rfl (bC _ _ _ _),aK1,dH];rfl
    rw [cJ (aW e1 (aW e2 b8))]
    congr 1
    rw [Bool.eq_iff_iff];simp
   refine aV hc ?_
   unfold Hs.writing
   by_cases z:((s.marks x r).length:Int) < aD7 s.cnt \/ s.wrote x=true
   ·rw [if_pos z,decide_eq_true z]
    refine a9 (aS (aK (aL fun q m' l k g=>?_)))
    have g3:m.length <= q:=Nat.le_trans l1.1 (Nat.le_trans l2.1 g)
    exact dC k g3 (h.out g3) (hb.le l) ((l1.trans (l2.trans l)).mod)
   ·rw [if_neg z,decide_eq_false z]
    have zw:s.wrote x=false:=by cases w:s.wrote x with | true=>exact absurd (.inr w) z | false=>rfl
    refine d8 (aC rfl (aH (aN rfl hb.inst rfl) (aC rfl (dX kc rfl (bC _ _ _ _) (by unfold aK1 tD;rw [List.length_map];exact hl) ?_))))
    have ep:put (.int x) (.str r) (aK1 s.rows)=aK1 (s.rows++[(x,r,s.marks x r)]):=by
     unfold aK1
     rw [aC2 _ _ _ _ _ zw]
     unfold tD
     rw [List.map_append];rfl
    show Wp _ (m2.set D.c (.dict (put (.int x) (.str r) (aK1 s.rows)) (ec+1))) _ _
    rw [ep]
    have F:=Hd.upd hb.nd (m:=m2) (o':=.dict (aK1 (s.rows++[(x,r,s.marks x r)])) (ec+1)) (j:=3) rfl
    have kd':=F 4 _ _ rfl (by decide) kd
    have ki':=F 0 _ _ rfl (by decide) hb.inst
    have zb:((bak s D).any fun y=>y.1 == x)=false:=by
     rw [List.any_eq_false]
     intro y hy
     have:y.1∈s.rows.map (·.1):=(List.of_mem_zip (a:=y.1) (b:=y.2) hy).1
     rcases List.mem_map.mp this with ⟨t,ht,e⟩
     have:=List.any_eq_false.mp zw t ht
     rw [<- e];exact this
    refine d8 (aC rfl (aH (aN rfl ki' rfl) (aC rfl (dX kd' rfl (bC _ _ _ _) (by unfold bM0 tD;rw [List.length_map];unfold bak;rw [List.length_zip,List.length_map,h.len,Nat.min_self];exact hl) ?_))))
    have ep2:put (.int x) (.ref q2) (bM0 (bak s D))=bM0 (bak s D++[(x,q2)]):=by
     unfold bM0
     rw [aC2 _ _ _ _ _ zb]
     unfold tD
     rw [List.map_append];rfl
    show Wp _ (List.set _ D.d (.dict (put (.int x) (.ref q2) (bM0 (bak s D))) (ed+1))) _ _
    rw [ep2]
    have h3:=hb.setR (n:=x) (r:=r) (e1:=ec+1) (e2:=ed+1) k2 qo
    have k3:((m2.set D.c (.dict (aK1 (s.rows++[(x,r,s.marks x r)])) (ec+1))).set D.d (.dict (bM0 (bak s D++[(x,q2)])) (ed+1)))[q2]?=some (.list ((s.marks x r).map Wo.v)):=
     aY (fun e=>qo (e▸List.mem_append_left _ (by simp [Hd.foot]))) (aY (fun e=>qo (e▸List.mem_append_left _ (by simp [Hd.foot]))) k2)
    have el:biV .list [.ref q2] ((m2.set D.c (.dict (aK1 (s.rows++[(x,r,s.marks x r)])) (ec+1))).set D.d (.dict (bM0 (bak s D++[(x,q2)])) (ed+1)))=alloc (.list ((s.marks x r).map Wo.v)) ((m2.set D.c (.dict (aK1 (s.rows++[(x,r,s.marks x r)])) (ec+1))).set D.d (.dict (bM0 (bak s D++[(x,q2)])) (ed+1))):=by
     unfold biV;dsimp only;rw [k3]
    refine a9 (aI0 (aD (aC rfl (aK ?_))))
    refine aO0 el (aL fun q m' l k g=>?_)
    have gl:m2.length <= q:=by simpa using g
    have g3:m.length <= q:=Nat.le_trans l1.1 (Nat.le_trans l2.1 gl)
    have q3:q2 < m2.length:=bJ k2
    have g4:m.length <= q2:=Nat.le_trans l1.1 g2
    refine ⟨q,[q2],rfl,k,g3,fun c=>?_,h3.le l,?_,fun y hy=>by rw [List.mem_singleton.mp hy];exact g4⟩
    ·have:=h3.lt q c
     rw [List.length_set,List.length_set] at this;exact Nat.not_lt.mpr gl this
    ·exact ((l1.trans l2).mod.trans ((Mod.set (by simp [Hd.foot])).trans (Mod.set (by simp [Hd.foot])))).trans l.mod
noncomputable def Wo.d (w:Wo):PyData:=.tuple [.str w.k,.int w.n,.str w.r,.int w.h]
theorem aP1 (m:MH) (f:Nat):∀ l:List Wo,eS (rd (f+2) m) (l.map Wo.v)=some (l.map Wo.d)
 | []=>rfl
 | w::l=>bZ8 rfl (aP1 m f l)
theorem bG9 (x y:PyData) (a b:List PyData):PyData.eqvAll (x::a) (y::b)=(PyData.eqv x y&&PyData.eqvAll a b):=rfl
theorem cI8 (a b:Wo):PyData.eqv a.d b.d=decide (a=b):=by
 rcases a with ⟨a1,a2,a3,a4⟩
 rcases b with ⟨b1,b2,b3,b4⟩
 have e:PyData.eqv (Wo.d ⟨a1,a2,a3,a4⟩) (Wo.d ⟨b1,b2,b3,b4⟩)=(a1 == b1&&(a2 == b2&&(a3 == b3&&(a4 == b4&&true)))):=rfl
 rw [e,Bool.eq_iff_iff,decide_eq_true_iff,Bool.and_eq_true_iff,Bool.and_eq_true_iff,Bool.and_eq_true_iff,Bool.and_true,beq_iff_eq,beq_iff_eq,beq_iff_eq,beq_iff_eq]
 exact ⟨fun ⟨p,q,r,s⟩=>by subst p q r s;rfl,fun e=>by cases (e);exact ⟨rfl,rfl,rfl,rfl⟩⟩
theorem aW2:∀ a b:List Wo,PyData.eqvAll (a.map Wo.d) (b.map Wo.d)=decide (a=b)
 | [],[]=>rfl
 | [],_::_=>(decide_eq_false fun e=>by injection e).symm
 | _::_,[]=>(decide_eq_false fun e=>by injection e).symm
 | x::a,y::b=>by
  rw [List.map_cons,List.map_cons,bG9,cI8,aW2 a b,Bool.eq_iff_iff,Bool.and_eq_true_iff,decide_eq_true_iff,decide_eq_true_iff,decide_eq_true_iff]
  exact ⟨fun h=>by rw [h.1,h.2],fun h=>⟨(List.cons.inj h).1,(List.cons.inj h).2⟩⟩
theorem cI9 {p q:Nat} {a b:List Wo} (hp:m[p]?=some (.list (a.map Wo.v))) (hq:m[q]?=some (.list (b.map Wo.v))):eqV (.ref p) (.ref q) m=.ok (decide (a=b)) m:=by
 have r1:rd cP m (.ref p)=some (.list (a.map Wo.d)):=by
  show (match m[p]? with | some (.list xs)=>(eS (rd 11 m) xs).map PyData.list | _=>none)=_
  rw [hp];show (eS (rd 11 m) (a.map Wo.v)).map PyData.list=_;rw [aP1 m 9 a];rfl
 have r2:rd cP m (.ref q)=some (.list (b.map Wo.d)):=by
  show (match m[q]? with | some (.list xs)=>(eS (rd 11 m) xs).map PyData.list | _=>none)=_
  rw [hq];show (eS (rd 11 m) (b.map Wo.v)).map PyData.list=_;rw [aP1 m 9 b];rfl
 unfold eqV
 rw [r1,r2]
 show Res.ok (PyData.eqvAll _ _) m=_
 rw [aW2]
theorem bT7 (H:HF S N) (n:Nat) (w:Wo) {ahead:List Wo} {qa:Nat} (ha:m[qa]?=some (.list (ahead.map Wo.v))) (hq:qa∉D.all) (h:Ho m N.C D s) (hl:s.named.length < lid):Wp (run S (n+1) (N.ki+5) [.ref D.p,w.v,.ref qa]) m (Tells m N.C D (s.naming w ahead)) nox:=by
 refine bF H.naming rfl (aE6 (aM3 (cK (dO (dP (aC rfl (aS (aK (aL fun q0 m0 l0 k0 g0=>?_)))))))))
 have ha0:=l0.has ha
 have e0:aF9 .Eq (.ref qa) (.ref q0) m0=.ok (decide (ahead=[])) m0:=cI9 ha0 (b:=[]) k0
 refine aH e0 (aC rfl ?_)
 have h0:=h.le l0
 rcases h0.bl with ⟨ef,kf⟩
 cases ahead with
 | nil=>
  rw [show decide (([]:List Wo)=[])=true from by simp]
  refine cY5 ?_
  refine a9 (aS (aK (aL fun q m' l k g=>?_)))
  have g3:m.length <= q:=Nat.le_trans l0.1 g
  exact dC k g3 (h.out g3) (h0.le l) ((l0.trans l).mod)
 | cons a as=>
  have e2:evT S (run S n) (.val (.cmp (.idx (.var 1) (.cnst (Lt.int 3))) [.In] [(.attr (.var 0) 16)])) [some (.ref D.p),some w.v,some (.ref qa)] m0=.ok (s.named.any fun x=>x.1 == w.h) m0:=by
   refine aO (aU rfl (aN rfl h0.inst rfl) ?_)
   show inV (.int w.h) (.ref D.f) m0=_
   rw [aT kf rfl (bC _ _ _ _),bC4,dH]
  rw [show decide (a::as=[])=false from by simp]
  refine bC5 ?_
  refine aH (aW e2 b8) ?_
  rw [Bool.or_false]
  unfold Hs.naming
  dsimp only
  cases z:s.named.any fun x=>x.1 == w.h with
  | true=>
   show Wp _ m0 _ _
   refine a9 (aS (aK (aL fun q m' l k g=>?_)))
   have g3:m.length <= q:=Nat.le_trans l0.1 g
   exact dC k g3 (h.out g3) (h0.le l) ((l0.trans l).mod)
  | false=>
   show Wp _ m0 _ _
   rw [if_neg Bool.false_ne_true]
   refine d8 (aC rfl (aH (aN rfl h0.inst rfl) (aC rfl (dX kf rfl (bC _ _ _ _) (by unfold bC4 tD;rw [List.length_map];exact hl) ?_))))
   have ep:put (.int w.h) (.bool true) (bC4 s.named)=bC4 (s.named++[(w.h,a,w)]):=by
    unfold bC4
    rw [aC2 _ _ _ _ _ z]
    unfold tD
    rw [List.map_append];rfl
   show Wp _ (m0.set D.f (.dict (put (.int w.h) (.bool true) (bC4 s.named)) (ef+1))) _ _
   rw [ep]
   have F:=Hd.upd h0.nd (m:=m0) (o':=.dict (bC4 (s.named++[(w.h,a,w)])) (ef+1)) (j:=6) rfl
   have ki:=F 0 _ _ rfl (by decide) h0.inst
   have ke:=F 5 _ _ rfl (by decide) h0.na
   have qf:D.f≠qa:=fun e=>hq (e▸List.mem_append_left _ (by simp [Hd.foot]))
   have qe:D.e≠qa:=fun e=>hq (e▸List.mem_append_left _ (by simp [Hd.foot]))
   have ha1:=aY (o':=.dict (bC4 (s.named++[(w.h,a,w)])) (ef+1)) qf ha0
   have hi:∀ (m':MH),m'[qa]?=some (.list ((a::as).map Wo.v))->aX8 (.ref qa) (.int 0) m'=.ok a.v m':=fun m' k=>by
    unfold aX8;dsimp only;rw [k];rfl
   refine dS (aC3 (aH (aN rfl ki rfl) ⟨0,cR3 ke,rfl,aH (aG (aC0 (aG rfl (aG (aP3 rfl rfl (hi _ ha1)) (aG rfl rfl)))) rfl) (cA6 ke (by unfold bJ7;rw [List.length_map];exact hl) ?_)⟩))
   have en:bJ7 s.named++[V.tup [.int w.h,a.v,w.v]]=bJ7 (s.named++[(w.h,a,w)]):=by unfold bJ7;rw [List.map_append];rfl
   show Wp _ (List.set _ D.e (.list (bJ7 s.named++[V.tup [.int w.h,a.v,w.v]]))) _ _
   rw [en]
   have h1:=h0.setN (x:=(w.h,a,w)) (e1:=ef+1)
   have ha2:=aY (o':=.list (bJ7 (s.named++[(w.h,a,w)]))) qe ha1
   refine a9 (aS (aH (aG (aP3 rfl rfl (hi _ ha2)) (aG rfl rfl)) (aL fun q m' l k g=>?_)))
   have gl:m0.length <= q:=by simpa using g
   have g3:m.length <= q:=Nat.le_trans l0.1 gl
   refine dC k g3 (h.out g3) (h1.le l) ?_
   exact (l0.mod.trans ((Mod.set (by simp [Hd.foot])).trans (Mod.set (by simp [Hd.foot])))).trans l.mod
end
end Mini.Internal
namespace Mini.Internal
open PySem
noncomputable def Hs.sz (s:Hs):Nat:=s.known.length+s.marked.length+s.rows.length+s.named.length
theorem Hs.km (s:Hs):s.known.length+s.marked.length <= s.sz:=Nat.le_trans (Nat.le_add_right _ _) (Nat.le_add_right _ _)
theorem Hs.kl (s:Hs):s.known.length <= s.sz:=Nat.le_trans (Nat.le_add_right _ _) s.km
theorem Hs.rl (s:Hs):s.rows.length <= s.sz:=Nat.le_trans (Nat.le_add_left _ _) (Nat.le_add_right _ _)
theorem Hs.nl (s:Hs):s.named.length <= s.sz:=Nat.le_add_left _ _
theorem dC1 {a b a' b' c d k:Nat} (h:a' <= a+k) (h2:b' <= b+1):a'+b'+c+d <= a+b+c+d+(k+1):=by
 have:=Nat.add_le_add_right (Nat.add_le_add_right (Nat.add_le_add h h2) c) d
 rw [Nat.add_add_add_comm a k b 1,Nat.add_right_comm _ (k+1) c,Nat.add_right_comm _ (k+1) d] at this;exact this
theorem sum_3 {a b c d:Nat}:a+b+(c+1)+d <= a+b+c+d+1:=Nat.le_of_eq (by rw [<- Nat.add_assoc,Nat.add_right_comm _ 1 d])
theorem dC2 {a b c d:Nat}:a+1+b+c+d=a+b+c+d+1:=by rw [Nat.add_right_comm a 1 b,Nat.add_right_comm _ 1 c,Nat.add_right_comm _ 1 d]
theorem aR4 (w:Wo) (l:List Wo):(fA w l).length <= l.length+1:=by
 unfold fA
 by_cases h:w∈l
 ·rw [if_pos h];exact Nat.le_succ _
 ·rw [if_neg h,List.length_append];exact Nat.le_refl _
theorem eH (s:Hs) (w:Wo):(s.marking w).1.cnt=s.cnt /\ (s.marking w).1.rows=s.rows /\ (s.marking w).1.named=s.named /\ (s.marking w).1.own=s.own /\ (s.marking w).1.onw=s.onw /\ (s.marking w).1.sz <= s.sz+2 /\ (s.marking w).2.length <= 1:=by
 unfold Hs.marking
 split
 ·exact ⟨rfl,rfl,rfl,rfl,rfl,Nat.le_add_right _ _,Nat.zero_le _⟩
 ·refine ⟨rfl,rfl,rfl,rfl,rfl,?_,Nat.le_refl _⟩
  exact dC1 (aR4 (mrk w.n w.r s.own) s.known) (Nat.le_of_eq List.length_append)
theorem fZ (s:Hs) (x:Int) (r:Str):(s.writing x r).1.cnt=s.cnt /\ (s.writing x r).1.named=s.named /\ (s.writing x r).1.own=s.own /\ (s.writing x r).1.onw=s.onw /\ (s.writing x r).1.sz <= s.sz+1 /\ (s.writing x r).2.length <= s.cnt.toNat:=by
 unfold Hs.writing
 split
 ·exact ⟨rfl,rfl,rfl,rfl,Nat.le_add_right _ _,Nat.zero_le _⟩
 ·refine ⟨rfl,rfl,rfl,rfl,?_,aT8 s x r⟩
  unfold Hs.sz;rw [List.length_append];exact sum_3
theorem aM6 (s:Hs) (w:Wo) (l:List Wo):(s.naming w l).1.cnt=s.cnt /\ (s.naming w l).1.own=s.own /\ (s.naming w l).1.onw=s.onw /\ (s.naming w l).1.sz <= s.sz+1 /\ (s.naming w l).2.length <= 2:=by
 cases l with
 | nil=>exact ⟨rfl,rfl,rfl,Nat.le_add_right _ _,Nat.zero_le _⟩
 | cons a l=>
  unfold Hs.naming
  dsimp only
  split
  ·exact ⟨rfl,rfl,rfl,Nat.le_add_right _ _,Nat.zero_le _⟩
  ·refine ⟨rfl,rfl,rfl,?_,Nat.le_refl _⟩
   unfold Hs.sz;rw [List.length_append];exact Nat.le_refl _
theorem eJ (s:Hs) (w:Wo):(s.hear w).1.cnt=s.cnt /\ (s.hear w).1.own=s.own /\ (s.hear w).1.onw=s.onw /\ (s.hear w).1.sz <= s.sz+5 /\ (s.hear w).2.length <= s.cnt.toNat+3:=by
 unfold Hs.hear
 split
 ·exact ⟨rfl,rfl,rfl,Nat.le_add_right _ _,Nat.zero_le _⟩
 ·dsimp only
  rcases eH { s with known:=s.known++[w] } w with ⟨a1,a2,a3,a4,a5,a6,a7⟩
  rcases fZ (({ s with known:=s.known++[w] }:Hs).marking w).1 w.n w.r with ⟨b1,b2,b3,b4,b5,b6⟩
  rcases aM6 ((({ s with known:=s.known++[w] }:Hs).marking w).1.writing w.n w.r).1 w (s.known.filter fun a=>aE0 a w) with ⟨c1,c2,c3,c4,c5⟩
  have z:({ s with known:=s.known++[w] }:Hs).sz=s.sz+1:=by unfold Hs.sz;rw [List.length_append];exact dC2
  rw [a1] at b6
  refine ⟨c1.trans (b1.trans a1),c2.trans (b3.trans a4),c3.trans (b4.trans a5),Nat.le_trans c4 (Nat.succ_le_succ (Nat.le_trans b5 (Nat.succ_le_succ (Nat.le_trans a6 (Nat.le_of_eq (congrArg (·+2) z)))))),?_⟩
  rw [List.length_append,List.length_append]
  exact Nat.le_trans (Nat.add_le_add (Nat.add_le_add a7 b6) c5) (Nat.le_of_eq (by rw [Nat.add_comm 1]))
section
variable {S:Sig} {N:HN} {m:MH} {D:Hd} {s:Hs}
theorem cD6 {p e:Nat} {kvs:List (Ky×V)} (h:m[p]?=some (.dict kvs e)):aB1 .expr [.ref p] m=.ok (kvs.map fun x=>x.1.val,.dict p e) m:=by
 show eX (.ref p) m=_
 unfold eX;dsimp only;rw [h]
theorem cR1 {p e:Nat} {kvs:List (Ky×V)} (h:m[p]?=some (.dict kvs e)):(Gd.dict p e).stays m=true:=by
 unfold Gd.stays;dsimp only;rw [h];exact beq_self_eq_true e
theorem bV5 (l:List Wo):((kD l).map fun x=>x.1.val)=l.map Wo.v:=by unfold kD;rw [List.map_map];rfl
theorem bW1 (H:HF S N) (n:Nat) (w:Wo) (h:Ho m N.C D s) (h1:1 <= s.cnt) (h2:s.cnt <= 12) (hl:s.sz+8 < lid):Wp (run S (n+6) (N.ki+2) [.ref D.p,w.v]) m (Tells m N.C D (s.hear w)) nox:=by
 rcases h.kn with ⟨ea,ka⟩
 rcases H.cls with ⟨d,hd,hx,hi,hm⟩
 have e0:evT S (run S (n+5)) (.val (.cmp (.var 1) [.In] [(.attr (.var 0) 11)])) [some (.ref D.p),some w.v,none] m=.ok (decide (w∈s.known)) m:=by
  refine aO (aU rfl (aN rfl h.inst rfl) ?_)
  show inV w.v (.ref D.a) m=_
  rw [aT ka (k:=w.ky) rfl (cT _ _),aI4]
 refine bF H.hear rfl (aV e0 ?_)
 unfold Hs.hear
 by_cases z:w∈s.known
 ·rw [if_pos z,decide_eq_true z]
  refine a9 (aS (aK (aL fun q m' l k g=>?_)))
  exact dC k g (h.out g) (h.le l) l.mod
 ·rw [if_neg z,decide_eq_false z]
  dsimp only
  have hsl:s.sz < lid:=Nat.lt_of_le_of_lt (Nat.le_add_right _ _) hl
  have hkl:s.known.length <= lid:=Nat.le_of_lt (Nat.lt_of_le_of_lt s.kl hsl)
  refine bK (aP5 s.known Wo.v Wo.v (fun a=>aE0 a w) (fun m'=>m'=m) (aD (aH (aN rfl h.inst rfl) (aK (aH (cD6 ka) ⟨bV5 _,rfl,?_,?_,hkl,?_⟩)))))
  ·intro m' em;rw [em];exact cR1 ka
  ·intro a ha m' em
   rw [em]
   refine aC rfl (bA9 (aH (aO (eD (vs:=[a.v,w.v]) rfl (bO6 H _ a w m))) ⟨rfl,?_⟩))
   cases aE0 a w with
   | true=>exact bC5 (aC (m':=m) (a:=a.v) rfl ⟨rfl,rfl⟩)
   | false=>rfl
  ·intro qa m1' m1 em l1 k1 g1
   rw [em] at l1 g1
   clear em m1'
   have ha:=h.le l1
   rcases ha.kn with ⟨ea,ka⟩
   refine d8 (aC rfl (aH (aN rfl ha.inst rfl) (aC rfl (dX ka (k:=w.ky) rfl (cT _ _) (by unfold kD;rw [List.length_map];exact Nat.lt_of_le_of_lt s.kl hsl) ?_))))
   show Wp _ (m1.set D.a (.dict (put w.ky (.bool true) (kD s.known)) (ea+1))) _ _
   rw [aT0,show fA w s.known=s.known++[w] from if_neg z]
   have hb:=ha.setK (s.known++[w]) (ea+1)
   have qo:qa∉D.all:=h.out g1
   have kq:=aY (o':=.dict (kD (s.known++[w])) (ea+1)) (fun e=>qo (e▸List.mem_append_left _ (by simp [Hd.foot])):D.a≠qa) k1
   have M1:Mod D.foot m (m1.set D.a (.dict (kD (s.known++[w])) (ea+1))):=l1.mod.trans (Mod.set (by simp [Hd.foot]))
   generalize hs1:({ s with known:=s.known++[w] }:Hs)=s1 at hb ⊢
   have sz1:s1.sz=s.sz+1:=by rw [<- hs1];unfold Hs.sz;rw [List.length_append];exact dC2
   have cn1:s1.cnt=s.cnt:=by rw [<- hs1]
   generalize hm2:m1.set D.a (.dict (kD (s.known++[w])) (ea+1))=m2 at hb kq M1 ⊢
   have c1:=(eH s1 w).1
   have c6:=(eH s1 w).2.2.2.2.2.1
   have c7:=(eH s1 w).2.2.2.2.2.2
   refine a9 (d9 (d9 (bQ (aC rfl ⟨D.p,N.C,_,d,N.ki+3,rfl,hb.inst,hd,rfl,hm 2 (by decide),aC rfl (d7 (bJ9 H (n+4) w hb (Nat.lt_of_le_of_lt s1.km (by rw [sz1];exact Nat.lt_of_le_of_lt (Nat.add_le_add_left (show 1 <= 8 by decide) s.sz) hl))) fun m3 q1 l3 k3 g3 o3 h3 M3 y3=>?_)⟩))))
   refine bQ (aC rfl ⟨D.p,N.C,_,d,N.ki+4,rfl,h3.inst,hd,rfl,hm 3 (by decide),aC rfl (d7 (bI6 (D:=D.ext l3) H n w.n w.r h3 (by rw [c1,cn1];exact h1) (by rw [c1,cn1];exact h2) (Nat.lt_of_le_of_lt (Hs.rl _) (Nat.lt_of_le_of_lt c6 (by rw [sz1];exact Nat.lt_of_le_of_lt (Nat.add_le_add_left (show 3 <= 8 by decide) s.sz) hl)))) fun m4 q2 l4 k4 g4 o4 h4 M4 y4=>?_)⟩)
   have b5:=(fZ (s1.marking w).1 w.n w.r).2.2.2.2.1
   have b6:=(fZ (s1.marking w).1 w.n w.r).2.2.2.2.2
   have k34:=M4.has k3 (aC4 (D:=D.ext l3) o3)
   have len2:(s1.marking w).2.length+((s1.marking w).1.writing w.n w.r).2.length <= 13:=by rw [c1,cn1] at b6;exact Nat.add_le_add c7 (Nat.le_trans b6 (cZ h2))
   refine fD k34 k4 (by rw [List.length_map,List.length_map];exact cV len2 (by decide)) fun q5 m5 l5 k5 g5=>?_
   have h5:=h4.le l5
   have le23:=M3.1
   have le34:=M4.1
   have qa5:m5[qa]?=some (.list ((s.known.filter fun a=>aE0 a w).map Wo.v)):=l5.has (M4.has (M3.has kq (aC4 qo)) (show qa∉D.foot from aC4 qo))
   have lt2:qa < m2.length:=bJ kq
   have oa:qa∉((D.ext l3).ext l4).all:=fun c=>by
    rcases List.mem_append.mp c with c | c
    ·exact qo (List.mem_append_left _ c)
    ·have c:qa∈(D.bs++l3)++l4:=c
     rcases List.mem_append.mp c with c | c
     ·rcases List.mem_append.mp c with c | c
      ·exact qo (List.mem_append_right _ c)
      ·exact absurd (y3 _ c) (Nat.not_le.mpr lt2)
     ·exact absurd (Nat.le_trans le23 (y4 _ c)) (Nat.not_le.mpr lt2)
   refine bQ (aC rfl ⟨D.p,N.C,_,d,N.ki+5,rfl,h5.inst,hd,rfl,hm 4 (by decide),aC rfl (d7 (bT7 (D:=(D.ext l3).ext l4) H (n+4) w qa5 oa h5 (Nat.lt_of_le_of_lt (Hs.nl _) (Nat.lt_of_le_of_lt (Nat.le_trans b5 (Nat.succ_le_succ c6)) (by rw [sz1];exact Nat.lt_of_le_of_lt (Nat.add_le_add_left (show 4 <= 8 by decide) s.sz) hl)))) fun m6 q6 l6 k6 g6 o6 h6 M6 y6=>?_)⟩)
   have n5:=(aM6 ((s1.marking w).1.writing w.n w.r).1 w (s.known.filter fun a=>aE0 a w)).2.2.2.2
   have o5:q5∉((D.ext l3).ext l4).all:=h4.out g5
   have k56:=M6.has k5 (aC4 (D:=(D.ext l3).ext l4) o5)
   refine fD k56 k6 (by rw [List.length_append,List.length_map,List.length_map,List.length_map];exact cV (Nat.add_le_add len2 n5) (by decide)) fun q7 m7 l7 k7 g7=>?_
   have h7:=h6.le l7
   have lm:m.length <= m2.length:=M1.1
   have le56:=M6.1
   have le45:=l5.1
   rw [Hd.ext_ext,Hd.ext_ext] at h7
   rw [Hd.ext_ext,Hd.ext_ext] at h6
   rw [<- List.append_assoc] at h6 h7
   have le2:=Nat.le_trans lm le23
   have le3:=Nat.le_trans le2 le34
   refine ⟨q7,l3++l4++l6,rfl,?_,Nat.le_trans (Nat.le_trans le3 le45) (Nat.le_trans le56 g7),h6.out g7,h7,?_,fun y hy=>?_⟩
   ·rw [k7,List.map_append,List.map_append]
   ·exact (M1.trans M3).trans ((M4.trans l5.mod).trans (Mod.trans M6 l7.mod))
   ·rcases List.mem_append.mp hy with hy | hy
    ·rcases List.mem_append.mp hy with hy | hy
     ·exact Nat.le_trans lm (y3 y hy)
     ·exact Nat.le_trans le2 (y4 y hy)
    ·exact Nat.le_trans (Nat.le_trans le3 le45) (y6 y hy)
theorem cY2 (H:HF S N) (n:Nat) (r:Str) (h:Ho m N.C D s) (hr:aF5 (.str r)=true) (hrl:r.length <= 64) (h1:1 <= s.cnt) (h2:s.cnt <= 12) (hl:s.sz+8 < lid):Wp (run S (n+7) (N.ki+1) [.ref D.p,.str r]) m (Tells m N.C D (s.call r)) nox:=by
 rcases H.gL with ⟨y_,gL⟩
 rcases H.gS with ⟨y_,gS⟩
 rcases H.cls with ⟨d,hd,hx,hi,hm⟩
 have er:=bE1 H.R gL gS (n+5) (m:=m) hr
 refine bF H.call rfl (aV (bM (aO (bA rfl er))) ?_)
 show Wp _ m _ _
 refine bK (aH (aC0 (aG rfl (aG (aN rfl h.inst rfl) (aG rfl (aG (aN rfl h.inst rfl) rfl))))) ?_)
 refine aB7 (aH (cO (aN rfl h.inst rfl) (aN rfl h.inst rfl) rfl) (aC rfl ⟨D.p,N.C,_,rfl,h.inst,?_⟩))
 have hb:=h.setP (s.onw+s.cnt)
 show Wp _ (m.set D.p (.inst N.C (cZ6 D { s with onw:=s.onw+s.cnt }))) _ _
 have M1:Mod D.foot m (m.set D.p (.inst N.C (cZ6 D { s with onw:=s.onw+s.cnt }))):=Mod.set (by simp [Hd.foot])
 generalize hm2:m.set D.p (.inst N.C (cZ6 D { s with onw:=s.onw+s.cnt }))=m2 at hb M1 ⊢
 refine a9 (d9 (aS (aD (aC rfl (aK (aL fun q0 m0 l0 k0 g0=>?_))))))
 have h0:=hb.le l0
 refine bQ (aC rfl ⟨D.p,N.C,_,d,N.ki+2,rfl,h0.inst,hd,rfl,hm 1 (by decide),aC rfl (d7 (bW1 H n ⟨cY,s.onw,r,s.own⟩ h0 h1 h2 hl) fun m3 q1 l3 k3 g3 o3 h3 M3 y3=>?_)⟩)
 have o0:q0∉D.all:=hb.out g0
 have k03:=M3.has k0 (aC4 o0)
 have n5:(Hs.hear { s with onw:=s.onw+s.cnt } ⟨cY,s.onw,r,s.own⟩).2.length <= s.cnt.toNat+3:=(eJ { s with onw:=s.onw+s.cnt } ⟨cY,s.onw,r,s.own⟩).2.2.2.2
 refine fD k03 k3 (by rw [List.length_map];exact cV (Nat.add_le_add (Nat.le_refl 1) (Nat.le_trans n5 (Nat.add_le_add_right (cZ h2) 3))) (by decide)) fun q7 m7 l7 k7 g7=>?_
 have lm:=M1.1
 have lm2:=l0.1
 have lm3:=M3.1
 refine ⟨q7,l3,rfl,k7,Nat.le_trans (Nat.le_trans lm lm2) (Nat.le_trans lm3 g7),h3.out g7,h3.le l7,?_,fun y hy=>Nat.le_trans (Nat.le_trans lm lm2) (y3 y hy)⟩
 exact (M1.trans l0.mod).trans (M3.trans l7.mod)
theorem cY3 (H:HF S N) (n:Nat) {v:V} (hv:Pl m v) (hr:aF5 v=false) {p:V}:Wp (run S (n+7) (N.ki+1) [p,v]) m (fun y_ y_=>False) (fun c m'=>c=N.cR /\ m'=m):=by
 rcases H.gL with ⟨y_,gL⟩
 rcases H.gS with ⟨y_,gS⟩
 have er:=aU4 H.R gL gS (n+5) (m:=m) hv
 rw [hr] at er
 exact bF H.call rfl (aV (bM (aO (bA rfl er))) (aK0 ⟨rfl,rfl⟩))
end
end Mini.Internal
namespace Mini.Internal
open PySem
section
variable {S:Sig} {N:HN} {m:MH} {D:Hd} {s:Hs}
theorem bW3 {p C:Nat} {fs:List (Nat×V)} (h:m[p]?=some (.inst C fs)) (fs':List (Nat×V)) (o:MObj) :
  ∃ m',(m++[o]).set p (.inst C fs')=m' /\ m'[p]?=some (.inst C fs') /\ m'[m.length]?=some o /\ (∀ q x,q≠p->m[q]?=some x->m'[q]?=some x) /\ m'.length=m.length+1 /\ Mod [p] m m':=by
 have hlt:=bJ h
 refine ⟨_,rfl,bI ((Le.app _ _).has h),?_,fun q x hq k=>?_,by simp,(Le.app _ _).mod.trans (Mod.set (.head _))⟩
 ·rw [List.getElem?_set_ne (by lia)];exact bW
 ·exact aY (fun e=>hq e.symm) ((Le.app _ _).has k)
noncomputable def Hs.new (c o:Int):Hs:=⟨c,o,o,[],[],[],[]⟩
theorem nd7 {p n:Nat} (h:p < n):[p,n,n+1,n+2,n+3,n+4,n+5].Nodup:=by
 show (p::List.range' n 6).Nodup
 exact List.nodup_cons.mpr ⟨fun q=>absurd (List.mem_range'_1.mp q).1 (Nat.not_le.mpr h),List.nodup_range'⟩
theorem mem7 {p n y:Nat} (hy:y∈[p,n,n+1,n+2,n+3,n+4,n+5]):y=p \/ n <= y:=by
 have hy:y∈p::List.range' n 6:=hy
 rcases List.mem_cons.mp hy with e | e
 ·exact .inl e
 ·exact .inr (List.mem_range'_1.mp e).1
theorem c9 {F:Fns} {r:Lo} {E:Nat->MH->Prop} {Q:Fl×Lo->MH->Prop} {ss:List CS} {p C k n:Nat} {fs:List (Nat×V)} {o:MObj} {e:CE} (he:ev S F e r m=.ok (.ref m.length) (m++[o])) (hv:ev S F (.var 0) r (m++[o])=.ok (.ref p) (m++[o])) (h:m[p]?=some (.inst C fs)) (hn:m.length=n)
  (q:∀ m',m'[p]?=some (.inst C (fB k (.ref n) fs))->m'[n]?=some o->(∀ q x,q≠p->m[q]?=some x->m'[q]?=some x)->m'.length=n+1->Mod [p] m m'->Wp (exs S F ss r) m' Q E):Wp (exs S F (.asg (.attr (.var 0) k) e::ss) r) m Q E:=by
 subst hn
 rcases bW3 h (fB k (.ref m.length) fs) o with ⟨a1,e1,i1,n1,f1,L1,M1⟩
 refine aB7 (aH he (aH hv ⟨p,C,fs,rfl,(Le.app _ _).has h,?_⟩))
 rw [e1]
 exact q a1 i1 n1 f1 L1 M1
theorem cW0 (H:HF S N) (n:Nat) {c o:Int} {p:Nat} (h1:1 <= c) (h2:c <= 12) (h3:0 <= o) (h4:o < c) (hp:m[p]?=some (.inst N.C [])):Wp (run S (n+3) N.ki [.ref p,.int c,.int o]) m (fun u m'=>u=.none /\ ∃ D,D.p=p /\ Ho m' N.C D (Hs.new c o) /\ Mod [p] m m' /\ ∀ y∈D.all,y=p \/ m.length <= y) nox:=by
 rcases H.gM with ⟨y_,gM⟩
 have en:run S (n+2) N.kN [.int c] m=.ok .none m:=by
  exact eG H.N_ H.W gM n h1 h2
 have hlt:=bJ hp
 refine bF H.I rfl (dS (aH (bA rfl en) (aV (t:=false) (cJ (aW (x:=false) (bM (aO (bA rfl (bT H.W (n+1) o)))) (aW (x:=false) (aS9 rfl rfl h3 h4) b8))) ?_)))
 clear en h1 h2 h3 h4
 refine aB7 (aC rfl (aC rfl ⟨p,N.C,[],rfl,hp,?_⟩))
 have k1:=bI (o':=.inst N.C (fB 8 (.int c) [])) hp
 refine aB7 (aC rfl (aC rfl ⟨p,N.C,_,rfl,k1,?_⟩))
 have k2:=bI (o':=.inst N.C (fB 9 (.int o) (fB 8 (.int c) []))) k1
 refine aB7 (aC rfl (aC rfl ⟨p,N.C,_,rfl,k2,?_⟩))
 have k3:=bI (o':=.inst N.C (fB 10 (.int o) (fB 9 (.int o) (fB 8 (.int c) [])))) k2
 have M0:Mod [p] m (((m.set p (.inst N.C (fB 8 (.int c) []))).set p (.inst N.C (fB 9 (.int o) (fB 8 (.int c) [])))).set p (.inst N.C (fB 10 (.int o) (fB 9 (.int o) (fB 8 (.int c) []))))):=
  ((Mod.set (.head _)).trans (Mod.set (.head _))).trans (Mod.set (.head _))
 have L0:(((m.set p (.inst N.C (fB 8 (.int c) []))).set p (.inst N.C (fB 9 (.int o) (fB 8 (.int c) [])))).set p (.inst N.C (fB 10 (.int o) (fB 9 (.int o) (fB 8 (.int c) []))))).length=m.length:=by simp
 clear k1 k2
 generalize ((m.set p (.inst N.C (fB 8 (.int c) []))).set p (.inst N.C (fB 9 (.int o) (fB 8 (.int c) [])))).set p (.inst N.C (fB 10 (.int o) (fB 9 (.int o) (fB 8 (.int c) []))))=a0 at k3 M0 L0 ⊢
 refine c9 rfl rfl k3 L0 fun a1 i1 n1 f1 L1 M1=>?_
 refine c9 rfl rfl i1 L1 fun a2 i2 n2 f2 L2 M2=>?_
 refine c9 rfl rfl i2 L2 fun a3 i3 n3 f3 L3 M3=>?_
 refine c9 rfl rfl i3 L3 fun a4 i4 n4 f4 L4 M4=>?_
 refine c9 rfl rfl i4 L4 fun a5 i5 n5 f5 L5 M5=>?_
 refine c9 rfl rfl i5 L5 fun a6 i6 n6 f6 L6 M6=>?_
 have g:∀ k,m.length+k≠p:=fun k e=>absurd hlt (by rw [<- e];exact Nat.not_lt.mpr (Nat.le_add_right _ _))
 refine dE ⟨rfl,⟨p,m.length,m.length+1,m.length+2,m.length+3,m.length+4,m.length+5,[]⟩,rfl,⟨i6,⟨0,?_⟩,⟨0,?_⟩,⟨0,?_⟩,⟨0,?_⟩,?_,⟨0,n6⟩,fun i x e=>?_,rfl,nd7 hlt⟩,?_,fun y hy=>mem7 hy⟩
 ·exact f6 _ _ (g 0) (f5 _ _ (g 0) (f4 _ _ (g 0) (f3 _ _ (g 0) (f2 _ _ (g 0) n1))))
 ·exact f6 _ _ (g 1) (f5 _ _ (g 1) (f4 _ _ (g 1) (f3 _ _ (g 1) n2)))
 ·exact f6 _ _ (g 2) (f5 _ _ (g 2) (f4 _ _ (g 2) n3))
 ·exact f6 _ _ (g 3) (f5 _ _ (g 3) n4)
 ·exact f6 _ _ (g 4) n5
 ·injection e
 ·exact ((M0.trans M1).trans (M2.trans M3)).trans ((M4.trans M5).trans M6)
theorem bY4 (H:HF S N) (n:Nat) (h:Ho m N.C D s):run S (n+1) (N.ki+8) [.ref D.p] m=.ok (.ref m.length) (m++[.list (bJ7 s.named)]):=by
 rw [bR7 H.caught rfl]
 show Res.bind (Res.bind (Res.bind (Res.bind (Res.bind (ev S (run S n) (.attr (.var 0) 15) [some (.ref D.p)] m) _) _) _) _) _=_
 rw [aN (k:=15) (v:=.ref D.e) rfl h.inst rfl]
 show Res.bind (Res.bind (Res.bind (biV .list [.ref D.e] m) _) _) _=_
 have:biV .list [.ref D.e] m=.ok (.ref m.length) (m++[.list (bJ7 s.named)]):=by
  unfold biV;dsimp only;rw [h.na];rfl
 rw [this];rfl
noncomputable def aA2 (l:List (Int×Str×List Wo)) (k:Int):Str:=match l.find? (fun x=>x.1 == k) with
 | some x=>x.2.1
 | none=>Str.empty
noncomputable def ledD (l:List (Int×Str×List Wo)):List (Ky×V):=(sortI (l.map (·.1))).foldl (fun d i=>put (.int i) (.str (aA2 l i)) d) []
theorem bA1 {α:Type} (g:α->Int) (f:α->V):∀ l:List α,fY (tD g f l)=some (l.map g)
 | []=>rfl
 | a::l=>by
  show (fY (tD g f l)).map _=_
  rw [bA1 g f l];rfl
theorem aP7 {i j:Int}:∀ {l:List Int},j∈insI i l↔j=i \/ j∈l
 | []=>by simp [insI]
 | a::l=>by
  unfold insI
  split
  ·simp
  ·rw [List.mem_cons,aP7,List.mem_cons];exact ⟨fun h=>by rcases h with h | h | h <;> simp [h],fun h=>by rcases h with h | h | h <;> simp [h]⟩
theorem mem_sortI {j:Int}:∀ {l:List Int},j∈sortI l↔j∈l
 | []=>Iff.rfl
 | a::l=>by
  show j∈insI a (sortI l)↔_
  rw [aP7,mem_sortI,List.mem_cons]
theorem bG5 (i:Int):∀ l:List Int,(insI i l).length=l.length+1
 | []=>rfl
 | a::l=>by
  unfold insI
  split
  ·rfl
  ·rw [List.length_cons,bG5,List.length_cons]
theorem aS5:∀ l:List Int,(sortI l).length=l.length
 | []=>rfl
 | a::l=>by
  show (insI a (sortI l)).length=_
  rw [bG5,aS5,List.length_cons]
theorem bJ4 {k j:Int} {v:V} {d:List (Ky×V)} (h:aP (.int k) d=true):aP (.int k) (put (.int j) v d)=true:=by
 induction d with
 | nil=>rfl
 | cons a d ih=>
  rcases a with ⟨b,x⟩
  unfold aP at h ih ⊢
  rw [List.all_cons,Bool.and_eq_true] at h
  show (if b=Ky.int j then (b,v)::d else (b,x)::put (.int j) v d).all _=true
  split
  ·rw [List.all_cons,h.1,h.2];rfl
  ·rw [List.all_cons,ih h.2,h.1];rfl
theorem bS4 {k:Ky} {v:V}:∀ d:List (Ky×V),(put k v d).length <= d.length+1
 | []=>Nat.le_refl _
 | (b,x)::d=>by
  show (if b=k then (b,v)::d else (b,x)::put k v d).length <= _
  split
  ·exact Nat.le_succ _
  ·exact Nat.succ_le_succ (bS4 (k:=k) (v:=v) d)
theorem cU7 {x:Mn V} {kvs:List (Ky×V)} {Q:V->MH->Prop} {E:Nat->MH->Prop} (h:Wp x m (fun u m'=>∃ q e,u=.ref q /\ m'[q]?=some (.dict kvs e) /\ m.length <= q /\ Le m m') nox) (k:∀ m' q e,m'[q]?=some (.dict kvs e)->m.length <= q->Le m m'->Q (.ref q) m'):Wp x m Q E:=
 aX h fun u m' z=>by
  rcases z with ⟨q,e,e0,k1,k2,k3⟩
  rw [e0];exact k m' q e k1 k2 k3
inductive LInv (C:Nat) (D:Hd) (s:Hs) (m m0:MH) (zs:List Int) (r:Lo) (m':MH):Prop
 | mk (a:List Int) (e:Nat) (x:Option V) (er:r=[some (.ref D.p),some (.ref m.length),x]) (e1:sortI (s.rows.map (·.1))=a++zs) (ka:m'[m.length]?=some (.dict (a.foldl (fun d i=>put (.int i) (.str (aA2 s.rows i)) d) []) e)) (kb:m'[m0.length]?=some (.list ((sortI (s.rows.map (·.1))).map V.int))) (hh:Ho m' C D s) (ll:Le m m') (hq:aP (.int 0) (a.foldl (fun d i=>put (.int i) (.str (aA2 s.rows i)) d) [])=true) (hz:(a.foldl (fun d i=>put (.int i) (.str (aA2 s.rows i)) d) []).length <= a.length)
theorem bV0 (H:HF S N) (n:Nat) (h:Ho m N.C D s) (hl:s.rows.length < 64):Wp (run S (n+1) (N.ki+6) [.ref D.p]) m (fun u m'=>∃ q e,u=.ref q /\ m'[q]?=some (.dict (ledD s.rows) e) /\ m.length <= q /\ Le m m') nox:=by
 refine bF H.ledger rfl (bK (aH (a:=.ref m.length) (m':=m++[.dict [] 0]) rfl ?_))
 have l0:Le m (m++[.dict [] 0]):=.app _ _
 have k0:(m++[.dict [] 0])[m.length]?=some (.dict [] 0):=bW
 generalize m++[MObj.dict [] 0]=m0 at l0 k0 ⊢
 have h0:=h.le l0
 rcases h0.ro with ⟨ec,kc⟩
 have hs:biV .sorted [.ref D.c] m0=.ok (.ref m0.length) (m0++[.list ((sortI (s.rows.map (·.1))).map V.int)]):=by
  unfold biV;dsimp only;rw [kc];dsimp only
  unfold aK1
  rw [bA1];dsimp only
  rw [if_pos (.inl (by rw [List.length_map];exact hl))];rfl
 have k1:(m0++[MObj.list ((sortI (s.rows.map (·.1))).map V.int)])[m0.length]?=some (.list ((sortI (s.rows.map (·.1))).map V.int)):=bW
 have l1:Le m0 (m0++[.list ((sortI (s.rows.map (·.1))).map V.int)]):=.app _ _
 have g1:m0.length < (m0++[MObj.list ((sortI (s.rows.map (·.1))).map V.int)]).length:=by simp
 generalize (m0++[MObj.list ((sortI (s.rows.map (·.1))).map V.int)])=m1 at k1 l1 g1 hs
 have lt0:=bJ k0
 have ht:∀ i∈sortI (s.rows.map (·.1)),bX (.int i) (aK1 s.rows)=some (.str (aA2 s.rows i)):=fun i hi=>by
  have hi:=mem_sortI.mp hi
  rcases List.mem_map.mp hi with ⟨x,hx,e⟩
  unfold aK1
  rw [aD5]
  unfold aA2
  cases q:s.rows.find? fun x=>x.1 == i with
  | none=>exact absurd (List.find?_eq_none.mp q x hx) (by simp [e])
  | some y=>rfl
 refine aH6 (sortI (s.rows.map (·.1))) V.int (LInv N.C D s m m0) (aD (aI0 (aD (aH (aN rfl h0.inst rfl) (aK (aH hs (aK (fV k1 ⟨rfl,⟨[],0,none,rfl,rfl,l1.has k0,k1,h0.le l1,l0.trans l1,rfl,Nat.le_refl _⟩,?_,?_,?_⟩))))))))
 ·rintro zs r m' ⟨a,e,x,rfl,e1,ka,kb,hh,ll,hq,hz⟩
  exact dR kb
 ·rintro z zs r m' ⟨a,e,x,rfl,e1,ka,kb,hh,ll,hq,hz⟩
  rcases hh.ro with ⟨e2,k2⟩
  have hm:z∈sortI (s.rows.map (·.1)):=by rw [e1];simp
  have al:a.length < 64:=by
   have:=congrArg List.length e1
   rw [aS5,List.length_map,List.length_append] at this
   exact Nat.lt_of_le_of_lt (Nat.le_trans (Nat.le_add_right _ _) (Nat.le_of_eq this.symm)) hl
  have np:m.length∉D.all:=h.out (Nat.le_refl _)
  refine aC rfl (d8 (aH (aP3 (aN rfl hh.inst rfl) rfl (eI k2 rfl (bC _ _ _ _) (ht z hm))) (aC rfl (aC rfl (dX ka rfl hq (Nat.lt_of_le_of_lt hz (Nat.lt_of_lt_of_le al (by decide))) (dE ?_))))))
  refine ⟨a++[z],e+1,some (.int z),rfl,by rw [e1,List.append_assoc];rfl,?_,aY (Nat.ne_of_lt lt0) kb,hh.mod (T:=[m.length]) (Mod.set (.head _)) fun y hy hy'=>?_,?_,?_,?_⟩
  ·rw [List.foldl_append];exact bI ka
  ·rw [List.mem_singleton.mp hy'] at hy;exact np hy
  ·exact ll.set (Nat.le_refl _) _
  ·rw [List.foldl_append];exact bJ4 hq
  ·rw [List.foldl_append,List.length_append]
   have:=bS4 (k:=.int z) (v:=.str (aA2 s.rows z)) (a.foldl (fun d i=>put (.int i) (.str (aA2 s.rows i)) d) [])
   exact Nat.le_trans this (Nat.succ_le_succ hz)
 ·rintro r m' ⟨a,e,x,rfl,e1,ka,kb,hh,ll,hq,hz⟩
  rw [List.append_nil] at e1
  refine a9 (aC rfl ⟨m.length,e,rfl,?_,Nat.le_refl _,ll⟩)
  unfold ledD;rw [e1];exact ka
end
end Mini.Internal
namespace Mini.Internal
open PySem
noncomputable def Rf (v:V):Prop:=∃ d,(∀ m,rd 11 m v=some d) /\ PyData.eqv d d=true
theorem cR8 (w:Wo):Rf w.v:=⟨w.d,fun y_=>rfl,by rw [cI8];exact decide_eq_true rfl⟩
theorem bS1:∀ {xs:List V},(∀ x∈xs,Rf x)->∃ ds,(∀ m,eS (rd 11 m) xs=some ds) /\ PyData.eqvAll ds ds=true
 | [],_=>⟨[],fun y_=>rfl,rfl⟩
 | x::xs,h=>by
  rcases h x (.head _) with ⟨d,h1,h2⟩
  rcases bS1 fun y hy=>h y (.tail _ hy) with ⟨ds,h3,h4⟩
  exact ⟨d::ds,fun m=>bZ8 (h1 m) (h3 m),by rw [bG9,h2,h4];rfl⟩
section
variable {m:MH} {p q:Nat}
theorem aP2 {xs:List V} (hp:m[p]?=some (.list xs)):rd cP m (.ref p)=(eS (rd 11 m) xs).map PyData.list:=by
 show (match m[p]? with | some (.list xs)=>(eS (rd 11 m) xs).map PyData.list | _=>none)=_
 rw [hp]
theorem eq_rf {xs:List V} (hx:∀ x∈xs,Rf x) (hp:m[p]?=some (.list xs)) (hq:m[q]?=some (.list xs)):eqV (.ref p) (.ref q) m=.ok true m:=by
 rcases bS1 hx with ⟨ds,h1,h2⟩
 have r1:∀ {p:Nat},m[p]?=some (.list xs)->rd cP m (.ref p)=some (.list ds):=fun hp=>by rw [aP2 hp,h1];rfl
 unfold eqV
 rw [r1 hp,r1 hq]
 show Res.ok (PyData.eqvAll ds ds) m=_
 rw [h2]
theorem bF1 {a b:V} (h:eqV a b m=.ok true m):aF9 .NotEq a b m=.ok false m:=by
 show (eqV a b m).bind _=_
 rw [h];rfl
end
theorem ins_mem {i j:Int} {l:List Int}:j∈insI i l↔j=i \/ j∈l:=aP7
theorem cM2 {i:Int}:∀ {l:List Int},l.Pairwise (· < ·)->i∉l->(insI i l).Pairwise (· < ·)
 | [],_,_=>List.pairwise_singleton _ _
 | k::l,h,hi=>by
  show (if i <= k then i::k::l else k::insI i l).Pairwise (· < ·)
  have hk:i≠k:=fun e=>hi (e▸.head _)
  have h':=List.pairwise_cons.mp h
  by_cases z:i <= k
  ·rw [if_pos z]
   have z:i < k:=Int.lt_iff_le_and_ne.mpr ⟨z,hk⟩
   exact List.pairwise_cons.mpr ⟨List.forall_mem_cons.mpr ⟨z,fun x hx=>Int.lt_trans z (h'.1 x hx)⟩,h⟩
  ·rw [if_neg z]
   refine List.pairwise_cons.mpr ⟨fun x hx=>?_,cM2 h'.2 fun q=>hi (.tail _ q)⟩
   rcases ins_mem.mp hx with e | e
   ·rw [e];exact Int.not_le.mp z
   ·exact h'.1 x e
theorem bQ9:∀ {l:List Int},l.Nodup->(sortI l).Pairwise (· < ·)
 | [],_=>List.Pairwise.nil
 | i::l,h=>by
  rw [List.nodup_cons] at h
  exact cM2 (bQ9 h.2) fun q=>h.1 (mem_sortI.mp q)
theorem aS4:∀ {l:List Int},l.Pairwise (· < ·)->sortI l=l
 | [],_=>rfl
 | i::l,h=>by
  have h':=List.pairwise_cons.mp h
  show insI i (sortI l)=_
  rw [aS4 h'.2]
  cases l with
  | nil=>rfl
  | cons j l=>exact if_pos (Int.le_of_lt (h'.1 j (.head _)))
theorem cS5 {k:Int} {v:V}:∀ {is:List Int} {f:Int->V},k∉is->put (.int k) v (tD id f is)=tD id f is++[(.int k,v)]:=fun {is f} h=>by
 rw [aC2]
 rw [List.any_eq_false]
 intro x hx e
 exact h (eq_of_beq e▸hx)
noncomputable def ledI (l:List (Int×Str×List Wo)):List (Ky×V):=tD id (fun i=>.str (aA2 l i)) (sortI (l.map (·.1)))
theorem dF0 {l:List (Int×Str×List Wo)} (nd:(l.map (·.1)).Nodup):ledD l=ledI l:=by
 have key:∀ (is js:List Int),(js++is).Nodup->is.foldl (fun d i=>put (.int i) (.str (aA2 l i)) d) (tD id (fun i=>.str (aA2 l i)) js)=tD id (fun i=>.str (aA2 l i)) (js++is):=by
  intro is
  induction is with
  | nil=>intro js _;rw [List.append_nil];rfl
  | cons i is ih=>
   intro js h
   have hi:i∉js:=fun c=>(List.nodup_append.mp h).2.2 i c i (.head _) rfl
   rw [List.foldl_cons,cS5 hi]
   have:=ih (js++[i]) (by rw [List.append_assoc];exact h)
   rw [List.append_assoc] at this
   rw [show tD id (fun i=>V.str (aA2 l i)) js++[(Ky.int i,V.str (aA2 l i))]=tD id (fun i=>.str (aA2 l i)) (js++[i]) by unfold tD;rw [List.map_append];rfl]
   exact this
 exact key _ [] ((bQ9 nd).imp fun h=>Int.ne_of_lt h)
section
variable {S:Sig} {N:HN} {m:MH} {D:Hd} {s:Hs}
theorem bL6 (H:HF S N) (n:Nat) {v:V} (h:Ho m N.C D s) (hv:Pl m v) (hb:(match v with | .int k=>!s.wrote k | _=>true)=true):Wp (run S (n+2) (N.ki+7) [.ref D.p,v]) m (fun y_ y_=>False) (fun c m'=>c=N.cN /\ m'=m):=by
 rcases h.ro with ⟨ec,kc⟩
 have ew:evT S (run S (n+1)) (.not (.val (.call N.kW [(.var 1)]))) [some (.ref D.p),some v] m=.ok (!vW v) m:=bM (aO (bA rfl (aA7 H.W n hv)))
 have e1:evT S (run S (n+1)) (.all false [(.not (.val (.call N.kW [(.var 1)]))),(.val (.cmp (.var 1) [.NotIn] [(.attr (.var 0) 13)]))]) [some (.ref D.p),some v] m=.ok true m:=by
  cases hq:vW v with
  | false=>rw [hq] at ew;exact cJ (aP0 ew)
  | true=>
   rcases cA9 hq with ⟨k,rfl⟩
   have hb:(!s.wrote k)=true:=hb
   refine cJ (aW (x:=false) (by rw [ew];rfl) (aW (x:=true) (aO (aU rfl (aN rfl h.inst rfl) ?_)) b8))
   show Res.bind (inV (.int k) (.ref D.c) m) _=_
   rw [aT kc rfl (bC _ _ _ _),aK1,dH]
   show Res.ok (!s.wrote k) m=_
   rw [hb]
 exact bF H.backing rfl (aV e1 (aK0 ⟨rfl,rfl⟩))
end
end Mini.Internal
namespace Mini.Internal
open PySem
structure Lr where
 s:Int
 r:Int
 w:Wo
noncomputable def Lr.v (l:Lr):V:=.tup [.int l.s,.int l.r,l.w.v]
noncomputable def aP9 (l:List (Int×Lr)):List (Ky×V):=tD (·.1) (fun x=>x.2.v) l
structure Tn where
 cnt:Int
 hs:List Hs
 given:Int
 lets:List (Int×Lr)
 said:List Wo
noncomputable def Tn.send (t:Tn) (l:Lr):Tn:={ t with given:=t.given+1,lets:=t.lets++[(t.given,l)] }
noncomputable def Tn.say (t:Tn) (w:Wo):Tn:={ t with said:=fA w t.said }
noncomputable def Tn.to (h:Int) (w:Wo) (t:Tn) (j:Nat):Tn:=if (j:Int)=h then t else t.send ⟨h,j,w⟩
noncomputable def Tn.tell1 (h:Int) (t:Tn) (w:Wo):Tn:=(List.range t.cnt.toNat).foldl (Tn.to h w) (t.say w)
noncomputable def Tn.tell (t:Tn) (h:Int) (ws:List Wo):Tn:=ws.foldl (Tn.tell1 h) t
structure Tn.Lk (t:Tn) (b:Nat):Prop where
 lt:∀ x∈t.lets,x.1 < t.given
 ll:t.lets.length <= b
 sl:t.said.length <= b
theorem Tn.Lk.mono {t:Tn} {b c:Nat} (h:t.Lk b) (k:b <= c):t.Lk c:=⟨h.lt,Nat.le_trans h.ll k,Nat.le_trans h.sl k⟩
theorem Tn.Lk.send {t:Tn} {b:Nat} (h:t.Lk b) (l:Lr):(t.send l).Lk (b+1):=by
 refine ⟨fun x hx=>?_,?_,Nat.le_succ_of_le h.sl⟩
 ·rcases List.mem_append.mp hx with hx | hx
  ·exact Int.lt_trans (h.lt x hx) (Int.lt_succ _)
  ·rw [List.mem_singleton.mp hx];exact Int.lt_succ _
 ·show (t.lets++[_]).length <= _
  rw [List.length_append];exact Nat.succ_le_succ h.ll
theorem Tn.Lk.say {t:Tn} {b:Nat} (h:t.Lk b) (w:Wo):(t.say w).Lk (b+1):=⟨h.lt,Nat.le_succ_of_le h.ll,Nat.le_trans (aR4 w t.said) (Nat.succ_le_succ h.sl)⟩
theorem Tn.Lk.to {t:Tn} {b:Nat} (h:t.Lk b) (i:Int) (w:Wo) (j:Nat):(t.to i w j).Lk (b+1):=by
 unfold Tn.to
 split
 ·exact h.mono (Nat.le_succ _)
 ·exact h.send _
theorem Tn.Lk.tos {b:Nat} (i:Int) (w:Wo):∀ (l:List Nat) {t:Tn} {b:Nat},t.Lk b->(l.foldl (Tn.to i w) t).Lk (b+l.length)
 | [],_,_,h=>h
 | j::l,t,b,h=>by
  have:=Tn.Lk.tos (b:=0) i w l (h.to i w j)
  rw [List.length_cons,Nat.add_comm l.length,<- Nat.add_assoc];exact this
theorem dB8 (i:Int) (w:Wo) (t:Tn) (j:Nat):(t.to i w j).cnt=t.cnt /\ (t.to i w j).hs=t.hs /\ (t.to i w j).said=t.said:=by
 unfold Tn.to
 split <;> exact ⟨rfl,rfl,rfl⟩
theorem bP2 (i:Int) (w:Wo):∀ (l:List Nat) (t:Tn),(l.foldl (Tn.to i w) t).cnt=t.cnt /\ (l.foldl (Tn.to i w) t).hs=t.hs /\ (l.foldl (Tn.to i w) t).said=t.said
 | [],_=>⟨rfl,rfl,rfl⟩
 | j::l,t=>by
  have h:=bP2 i w l (t.to i w j)
  have k:=dB8 i w t j
  exact ⟨h.1.trans k.1,h.2.1.trans k.2.1,h.2.2.trans k.2.2⟩
theorem aS0 (i:Int) (w:Wo) (t:Tn):(t.tell1 i w).cnt=t.cnt /\ (t.tell1 i w).hs=t.hs /\ (t.tell1 i w).said=fA w t.said:=bP2 i w _ (t.say w)
theorem Tn.Lk.tell1 {t:Tn} {b:Nat} (h:t.Lk b) (i:Int) (w:Wo) (h2:t.cnt <= 12):(t.tell1 i w).Lk (b+13):=by
 have:=Tn.Lk.tos (b:=0) i w (List.range t.cnt.toNat) (h.say w)
 refine this.mono ?_
 rw [List.length_range,Nat.add_assoc]
 exact Nat.add_le_add_left (by rw [Nat.add_comm];exact Nat.succ_le_succ (cZ h2)) b
theorem cE (i:Int):∀ (ws:List Wo) (t:Tn),(t.tell i ws).cnt=t.cnt /\ (t.tell i ws).hs=t.hs /\ (t.tell i ws).said=ws.foldl (fun l w=>fA w l) t.said
 | [],_=>⟨rfl,rfl,rfl⟩
 | w::l,t=>by
  have h:=cE i l (t.tell1 i w)
  have k:=aS0 i w t
  refine ⟨h.1.trans k.1,h.2.1.trans k.2.1,h.2.2.trans ?_⟩
  rw [k.2.2];rfl
theorem Tn.Lk.tell (i:Int):∀ (ws:List Wo) {t:Tn} {b:Nat},t.Lk b->t.cnt <= 12->(t.tell i ws).Lk (b+13 * ws.length)
 | [],_,_,h,_=>h
 | w::l,t,b,h,h2=>by
  have:=Tn.Lk.tell i l (h.tell1 i w h2) (by rw [(aS0 i w t).1];exact h2)
  rw [List.length_cons,Nat.mul_succ,Nat.add_comm (13 * l.length),<- Nat.add_assoc];exact this
structure Td where
 p:Nat
 h:Nat
 o:Nat
 l:Nat
 s:Nat
 ds:List Hd
noncomputable def Td.foot (T:Td):List Nat:=[T.p,T.h,T.o,T.l,T.s]
noncomputable def Td.all (T:Td):List Nat:=T.foot++T.ds.flatMap Hd.all
theorem Td.m0 {T:Td}:T.p∈T.foot:=.head _
theorem Td.m1 {T:Td}:T.h∈T.foot:=.tail _ (.head _)
theorem Td.m2 {T:Td}:T.o∈T.foot:=.tail _ (.tail _ (.head _))
theorem Td.m3 {T:Td}:T.l∈T.foot:=.tail _ (.tail _ (.tail _ (.head _)))
theorem Td.m4 {T:Td}:T.s∈T.foot:=.tail _ (.tail _ (.tail _ (.tail _ (.head _))))
theorem Td.ne {T:Td} (h:T.foot.Nodup):T.o≠T.l /\ T.o≠T.s /\ T.l≠T.s:=⟨cF3 h (i:=2) (j:=3) rfl rfl (by decide),cF3 h (i:=2) (j:=4) rfl rfl (by decide),cF3 h (i:=3) (j:=4) rfl rfl (by decide)⟩
theorem Td.out {T:Td} (h:T.foot.Nodup):T.p∉[T.o,T.l,T.s] /\ T.h∉[T.o,T.l,T.s]:=by
 have a:=List.nodup_cons.mp h
 have b:=List.nodup_cons.mp a.2
 exact ⟨fun c=>a.1 (.tail _ c),b.1⟩
theorem Td.mem {T:Td} {x:Nat}:x∈T.all↔x∈T.foot \/ ∃ D∈T.ds,x∈D.all:=by
 unfold Td.all;rw [List.mem_append,List.mem_flatMap]
noncomputable def cA2 (t:Tn) (T:Td):List (Ky×V):=tD (·.1) (fun x:Int×Nat=>V.ref x.2) ((t.hs.map (·.own)).zip (T.ds.map (·.p)))
structure To (m:MH) (N:HN) (T:Td) (t:Tn):Prop where
 inst:m[T.p]?=some (.inst (N.C+2) [(8,.int t.cnt),(26,.ref T.h),(27,.ref T.o),(28,.ref T.s)])
 hd:∃ e,m[T.h]?=some (.dict (cA2 t T) e)
 po:m[T.o]?=some (.inst (N.C+1) [(20,.int t.given),(21,.ref T.l)])
 le:∃ e,m[T.l]?=some (.dict (aP9 t.lets) e)
 sa:∃ e,m[T.s]?=some (.dict (kD t.said) e)
 hs:∀ (i:Nat) (D:Hd),T.ds[i]?=some D->∃ s,t.hs[i]?=some s /\ Ho m N.C D s
 len:T.ds.length=t.hs.length
 nd:T.foot.Nodup
 df:∀ D∈T.ds,∀ x∈D.all,x∉T.foot
 dd:∀ (i j:Nat) (D D':Hd),T.ds[i]?=some D->T.ds[j]?=some D'->i≠j->∀ x∈D.all,x∉D'.all
section
variable {S:Sig} {N:HN} {m m':MH} {T:Td} {t:Tn}
theorem To.mod {X:List Nat} (h:To m N T t) (l:Mod X m m') (hx:∀ x∈T.all,x∉X):To m' N T t:=by
 have F:∀ x∈T.foot,x∉X:=fun x q=>hx x (Td.mem.mpr (.inl q))
 refine ⟨l.has h.inst (F _ Td.m0),h.hd.imp fun e k=>l.has k (F _ Td.m1),l.has h.po (F _ Td.m2),h.le.imp fun e k=>l.has k (F _ Td.m3),h.sa.imp fun e k=>l.has k (F _ Td.m4),fun i D e=>?_,h.len,h.nd,h.df,h.dd⟩
 rcases h.hs i D e with ⟨s,k1,k2⟩
 exact ⟨s,k1,k2.mod l fun x q=>hx x (Td.mem.mpr (.inr ⟨D,List.mem_of_getElem? e,q⟩))⟩
theorem To.up (h:To m N T t) (l:Le m m'):To m' N T t:=h.mod (X:=[]) l.mod fun y_ y_ q=>nomatch q
theorem To.lt (h:To m N T t):∀ x∈T.all,x < m.length:=by
 intro x hx
 rcases Td.mem.mp hx with hx | ⟨D,hD,hx⟩
 ·rcases h.hd with ⟨y_,k1⟩
  rcases h.le with ⟨y_,k2⟩
  rcases h.sa with ⟨y_,k3⟩
  simp only [Td.foot,List.mem_cons,List.not_mem_nil,or_false] at hx
  rcases hx with rfl | rfl | rfl | rfl | rfl
  ·exact bJ h.inst
  ·exact bJ k1
  ·exact bJ h.po
  ·exact bJ k2
  ·exact bJ k3
 ·rcases List.getElem?_of_mem hD with ⟨i,e⟩
  rcases h.hs i D e with ⟨s,y_,k⟩
  exact k.lt x hx
theorem To.out (h:To m N T t) {q:Nat} (hq:m.length <= q):q∉T.all:=fun c=>Nat.not_lt.mpr hq (h.lt q c)
theorem To.chg (h:To m N T t) (M:Mod [T.o,T.l,T.s] m m') {g:Int} {ls:List (Int×Lr)} {sd:List Wo} (po:m'[T.o]?=some (.inst (N.C+1) [(20,.int g),(21,.ref T.l)])) (le:∃ e,m'[T.l]?=some (.dict (aP9 ls) e)) (sa:∃ e,m'[T.s]?=some (.dict (kD sd) e)):To m' N T { t with given:=g,lets:=ls,said:=sd }:=by
 have hp:=Td.out h.nd
 refine ⟨M.has h.inst hp.1,h.hd.imp fun e k=>M.has k hp.2,po,le,sa,fun i D e=>?_,h.len,h.nd,h.df,h.dd⟩
 rcases h.hs i D e with ⟨s,k1,k2⟩
 exact ⟨s,k1,k2.mod M fun x q c=>h.df D (List.mem_of_getElem? e) x q (.tail _ (.tail _ c))⟩
theorem aF2 {α:Type} {l:List α} {i:Nat} {x:α} (h:l[i]?=some x):l.set i x=l:=by
 refine List.ext_getElem? fun j=>?_
 by_cases q:i=j
 ·subst q;rw [List.getElem?_set_self (List.getElem?_eq_some_iff.mp h).1,h]
 ·rw [List.getElem?_set_ne q]
set_option tactic.hygienic true in
theorem To.hou (h:To m N T t) {i:Nat} {D:Hd} {s s':Hs} {l:List Nat} (hi:T.ds[i]?=some D) (hs:t.hs[i]?=some s) (ho:s'.own=s.own) (M:Mod D.foot m m') (H:Ho m' N.C (D.ext l) s') (hl:∀ y∈l,m.length <= y):To m' N { T with ds:=T.ds.set i (D.ext l) } { t with hs:=t.hs.set i s' }:=by
 have hD:=List.mem_of_getElem? hi
 have lt:=(List.getElem?_eq_some_iff.mp hi).1
 have F:∀ x∈T.foot,x∉D.foot:=fun x q c=>h.df D hD x (List.mem_append_left _ c) q
 have ext:∀ x,x∈(D.ext l).all->x∈D.all \/ m.length <= x:=fun x q=>by
  rcases List.mem_append.mp q with q | q
  ·exact .inl (List.mem_append_left _ q)
  ·rcases List.mem_append.mp q with q | q
   ·exact .inl (List.mem_append_right _ q)
   ·exact .inr (hl x q)
 have get:∀ (j:Nat) (D':Hd),(T.ds.set i (D.ext l))[j]?=some D'->(j=i /\ D'=D.ext l) \/ (j≠i /\ T.ds[j]?=some D'):=fun j D' e=>by
  by_cases q:i=j
  ·subst q
   rw [List.getElem?_set_self lt] at e
   exact .inl ⟨rfl,(Option.some.inj e).symm⟩
  ·rw [List.getElem?_set_ne q] at e
   exact .inr ⟨fun c=>q c.symm,e⟩
 have oldlt:∀ (j:Nat) (D':Hd),T.ds[j]?=some D'->∀ x∈D'.all,x < m.length:=fun j D' e x q=>h.lt x (Td.mem.mpr (.inr ⟨D',List.mem_of_getElem? e,q⟩))
 refine ⟨M.has h.inst (F _ Td.m0),?_,M.has h.po (F _ Td.m2),h.le.imp fun e k=>M.has k (F _ Td.m3),h.sa.imp fun e k=>M.has k (F _ Td.m4),fun j D' e=>?_,?_,h.nd,fun D' q=>?_,fun j k D1 D2 e1 e2 hne x q=>?_⟩
 ·rcases h.hd with ⟨e,k⟩
  refine ⟨e,?_⟩
  have e1:(t.hs.set i s').map (·.own)=t.hs.map (·.own):=by
   rw [List.map_set,ho]
   exact aF2 (by rw [List.getElem?_map,hs];rfl)
  have e2:(T.ds.set i (D.ext l)).map (·.p)=T.ds.map (·.p):=by
   rw [List.map_set]
   exact aF2 (by rw [List.getElem?_map,hi];rfl)
  show m'[T.h]?=some (.dict (tD _ _ (((t.hs.set i s').map (·.own)).zip ((T.ds.set i (D.ext l)).map (·.p)))) e)
  rw [e1,e2]
  exact M.has k (F _ Td.m1)
 ·rcases get j D' e with ⟨rfl,rfl⟩ | ⟨hj,e⟩
  ·exact ⟨s',List.getElem?_set_self (by rw [<- h.len];exact lt),H⟩
  ·rcases h.hs j D' e with ⟨s1,k1,k2⟩
   refine ⟨s1,by rw [List.getElem?_set_ne fun c=>hj c.symm];exact k1,k2.mod M fun x q c=>h.dd j i D' D e hi hj x q (List.mem_append_left _ c)⟩
 ·rw [List.length_set,List.length_set];exact h.len
 ·rcases List.getElem?_of_mem q with ⟨j,e⟩
  intro x hx c
  rcases get j D' e with ⟨rfl,rfl⟩ | ⟨hj,e⟩
  ·rcases ext x hx with z | z
   ·exact h.df D hD x z c
   ·exact Nat.not_lt.mpr z (h.lt x (Td.mem.mpr (.inl c)))
  ·exact h.df D' (List.mem_of_getElem? e) x hx c
 ·rcases get j D1 e1 with ⟨rfl,rfl⟩ | ⟨hj,e1⟩
  ·rcases get k D2 e2 with ⟨rfl,rfl⟩ | ⟨hk,e2⟩
   ·exact absurd rfl hne
   ·intro c
    rcases ext x q with z | z
    ·exact h.dd j k D D2 hi e2 hne x z c
    ·exact Nat.not_lt.mpr z (oldlt k D2 e2 x c)
  ·rcases get k D2 e2 with ⟨rfl,rfl⟩ | ⟨hk,e2⟩
   ·intro c
    rename_i e0
    rcases ext x c with z | z
    ·exact h.dd j k D1 D e0 hi hne x q z
    ·exact Nat.not_lt.mpr z (oldlt j D1 e0 x q)
   ·exact h.dd j k D1 D2 e1 e2 hne x q
end
noncomputable def Tw (m:MH) (N:HN) (p:Nat) (t:Tn) (B:List (Nat×MObj)):Prop:=∃ T,T.p=p /\ To m N T t /\ ∀ x∈B,x.1∉T.all /\ m[x.1]?=some x.2
section
variable {S:Sig} {N:HN} {m m':MH} {p:Nat} {t:Tn} {B:List (Nat×MObj)}
theorem Tw.up (h:Tw m N p t B) (l:Le m m'):Tw m' N p t B:=by
 rcases h with ⟨T,e,h1,h2⟩
 exact ⟨T,e,h1.up l,fun x q=>⟨(h2 x q).1,l.has (h2 x q).2⟩⟩
theorem Tw.new (h:Tw m N p t B) (l:Le m m') {q:Nat} {o:MObj} (k:m'[q]?=some o) (g:m.length <= q):Tw m' N p t ((q,o)::B):=by
 rcases h with ⟨T,e,h1,h2⟩
 exact ⟨T,e,h1.up l,aI ⟨h1.out g,k⟩ fun x q=>⟨(h2 x q).1,l.has (h2 x q).2⟩⟩
theorem Tw.has (h:Tw m N p t B) {q:Nat} {o:MObj} (k:(q,o)∈B):m[q]?=some o:=by
 rcases h with ⟨T,e,h1,h2⟩
 exact (h2 _ k).2
theorem Tw.sub {B':List (Nat×MObj)} (h:Tw m N p t B) (k:∀ x∈B',x∈B):Tw m N p t B':=by
 rcases h with ⟨T,e,h1,h2⟩
 exact ⟨T,e,h1,fun x q=>h2 x (k x q)⟩
theorem Tw.tail {x:Nat×MObj} (h:Tw m N p t (x::B)):Tw m N p t B:=h.sub fun y_ q=>.tail _ q
end
end Mini.Internal
namespace Mini.Internal
open PySem
noncomputable def bZ3:List CS:=[
 (.asg (.attr (.var 0) 20) (.cnst (Lt.int 0))),
 (.asg (.attr (.var 0) 21) (.dict [] []))]
noncomputable def cN7:List CS:=[
 (.asg (.one (.one 2)) (.attr (.var 0) 20)),
 (.asg (.attr (.var 0) 20) (.bin .Add (.var 2) (.cnst (Lt.int 1)))),
 (.asg (.idx (.attr (.var 0) 21) (.var 2)) (.var 1)),
 (.ret (.var 2))]
noncomputable def bH8 (kW cL:Nat):List CS:=[
 (.ite (.all false [(.not (.val (.call kW [(.var 1)]))),(.val (.cmp (.var 1) [.NotIn] [(.attr (.var 0) 21)]))]) [
  (.rse cL (Str.ofString "no such letter waits"))] []),
 (.ret (.smeth (.attr (.var 0) 21) .pop [(.var 1)]))]
noncomputable def bZ2:List CS:=[
 (.ret (.comp (.tup [(.var 1),(.idx (.attr (.var 0) 21) (.var 1))]) (.one 1) 1 .expr [(.bi .sorted [(.attr (.var 0) 21)])] []))]
noncomputable def bZ0 (kN kW cH C:Nat):List CS:=[
 (.exp (.call kN [(.var 1)])),
 (.ite (.not (.val (.isi (.var 2) .list))) [
  (.rse cH (Str.ofString "a list of liars is wanted"))] []),
 (.asg (.one (.one 3)) (.dict [] [])),
 (.for_ .expr (.one 4) [(.var 2)] [
  (.ite (.all false [(.not (.val (.call kW [(.var 4)]))),(.not (.val (.cmp (.cnst (Lt.int 0)) [.LtE,.Lt] [(.var 4),(.var 1)]))),(.val (.cmp (.var 4) [.In] [(.var 3)]))]) [
   (.rse cH (Str.ofString "no other house of the town"))] []),
  (.asg (.idx (.var 3) (.var 4)) (.cnst (Lt.bool true)))]),
 (.asg (.attr (.var 0) 8) (.var 1)),
 (.asg (.attr (.var 0) 26) (.dict [] [])),
 (.for_ .range (.one 4) [(.var 1)] [
  (.ite (.val (.cmp (.var 4) [.NotIn] [(.var 3)])) [
   (.asg (.idx (.attr (.var 0) 26) (.var 4)) (.new C [(.var 1),(.var 4)]))] [])]),
 (.asg (.attr (.var 0) 27) (.new (C+1) [])),
 (.asg (.attr (.var 0) 28) (.dict [] []))]
noncomputable def bI1 (kW cH:Nat):List CS:=[
 (.ite (.all false [(.not (.val (.call kW [(.var 1)]))),(.val (.cmp (.var 1) [.NotIn] [(.attr (.var 0) 26)]))]) [
  (.rse cH (Str.ofString "no honest house of the town"))] []),
 (.ret (.idx (.attr (.var 0) 26) (.var 1)))]
noncomputable def cN6:List CS:=[
 (.for_ .expr (.one 3) [(.var 2)] [
  (.asg (.idx (.attr (.var 0) 28) (.var 3)) (.cnst (Lt.bool true))),
  (.for_ .range (.one 4) [(.attr (.var 0) 8)] [
   (.ite (.val (.cmp (.var 4) [.NotEq] [(.var 1)])) [
    (.exp (.meth (.attr (.var 0) 27) 17 [(.tup [(.var 1),(.var 4),(.var 3)])]))] [])])]),
 (.ret (.bi .list [(.var 2)]))]
noncomputable def bZ1:List CS:=[
 (.asg (.one (.one 3)) (.meth (.meth (.var 0) 22 [(.var 1)]) 0 [(.var 2)])),
 (.ret (.meth (.var 0) 23 [(.var 1),(.var 3)]))]
noncomputable def bH6:List CS:=[
 (.asg (.one (.one 2)) (.meth (.attr (.var 0) 27) 18 [(.var 1)])),
 (.ite (.val (.cmp (.idx (.var 2) (.cnst (Lt.int 1))) [.NotIn] [(.attr (.var 0) 26)])) [
  (.ret (.list []))] []),
 (.ret (.meth (.var 0) 23 [(.idx (.var 2) (.cnst (Lt.int 1))),(.meth (.idx (.attr (.var 0) 26) (.idx (.var 2) (.cnst (Lt.int 1)))) 1 [(.idx (.var 2) (.cnst (Lt.int 2)))])]))]
noncomputable def cJ9 (kW kD cH cW cF:Nat):List CS:=[
 (.ite (.all false [(.not (.val (.call kW [(.var 1)]))),(.not (.val (.cmp (.cnst (Lt.int 0)) [.LtE,.Lt] [(.var 1),(.attr (.var 0) 8)]))),(.val (.cmp (.var 1) [.In] [(.attr (.var 0) 26)]))]) [
  (.rse cH (Str.ofString "no liar of the town"))] []),
 (.ite (.all false [(.not (.val (.call kW [(.var 2)]))),(.not (.val (.cmp (.cnst (Lt.int 0)) [.LtE,.Lt] [(.var 2),(.attr (.var 0) 8)]))),(.val (.cmp (.var 2) [.Eq] [(.var 1)]))]) [
  (.rse cH (Str.ofString "no other house of the town"))] []),
 (.ite (.not (.val (.call kD [(.attr (.var 0) 8),(.var 3)]))) [
  (.rse cW (Str.ofString "no word of the town"))] []),
 (.ite (.all true [(.val (.cmp (.idx (.var 3) (.cnst (Lt.int 3))) [.NotEq] [(.var 1)])),(.val (.cmp (.var 3) [.NotIn] [(.attr (.var 0) 28)]))]) [
  (.rse cF (Str.ofString "nobody has spoken that word"))] []),
 (.asg (.idx (.attr (.var 0) 28) (.var 3)) (.cnst (Lt.bool true))),
 (.ret (.meth (.attr (.var 0) 27) 17 [(.tup [(.var 1),(.var 2),(.var 3)])]))]
noncomputable def bY9:List CS:=[
 (.ret (.meth (.attr (.var 0) 27) 19 []))]
noncomputable def bH7:List CS:=[
 (.ret (.bi .list [(.attr (.var 0) 28)]))]
noncomputable def aX1:List CS:=[
 (.ret (.meth (.meth (.var 0) 22 [(.var 1)]) 5 []))]
noncomputable def aN8:List CS:=[
 (.ret (.meth (.meth (.var 0) 22 [(.var 1)]) 6 [(.var 2)]))]
noncomputable def aX2:List CS:=[
 (.ret (.meth (.meth (.var 0) 22 [(.var 1)]) 7 []))]
structure TF (S:Sig) (N:HN):Prop where
 H:HF S N
 caller:b9 S (N.kR+1) 2 2 aD1
 word:b9 S (N.kR+2) 2 2 (aD0 N.kN N.kW N.kR (N.kR+1) (N.gS+1))
 gN:∃ nm,S.globs[N.gS+1]?=some (nm,.int 9999)
 pinit:b9 S (N.ki+9) 1 1 bZ3
 send:b9 S (N.ki+10) 2 3 cN7
 pbring:b9 S (N.ki+11) 2 2 (bH8 N.kW (N.cR+3))
 pwait:b9 S (N.ki+12) 1 1 bZ2
 tinit:b9 S (N.ki+13) 3 5 (bZ0 N.kN N.kW N.cH N.C)
 honest:b9 S (N.ki+14) 2 2 (bI1 N.kW N.cH)
 tell:b9 S (N.ki+15) 3 5 cN6
 tcall:b9 S (N.ki+16) 3 4 bZ1
 tbring:b9 S (N.ki+17) 2 3 bH6
 lie:b9 S (N.ki+18) 4 4 (cJ9 N.kW (N.kR+2) N.cH (N.cR+1) (N.cR+2))
 twait:b9 S (N.ki+19) 1 1 bY9
 spoken:b9 S (N.ki+20) 1 1 bH7
 tledger:b9 S (N.ki+21) 2 2 aX1
 tbacking:b9 S (N.ki+22) 3 3 aN8
 tcaught:b9 S (N.ki+23) 2 2 aX2
 post:∃ d,S.cls[N.C+1]?=some d /\ d.exc=false /\ d.init=some (N.ki+9) /\ d.meths.lookup 17=some (N.ki+10) /\ d.meths.lookup 18=some (N.ki+11) /\ d.meths.lookup 19=some (N.ki+12)
 town:∃ d,S.cls[N.C+2]?=some d /\ d.exc=false /\ d.init=some (N.ki+13) /\ d.meths=[(22,N.ki+14),(23,N.ki+15),(0,N.ki+16),(18,N.ki+17),(24,N.ki+18),(19,N.ki+19),(25,N.ki+20),(5,N.ki+21),(6,N.ki+22),(7,N.ki+23)]
theorem cS6 {k:Int} {v:Lr} {l:List (Int×Lr)} (h:∀ x∈l,x.1 < k):put (.int k) v.v (aP9 l)=aP9 (l++[(k,v)]):=by
 unfold aP9
 rw [aC2]
 ·unfold tD;rw [List.map_append];rfl
 ·rw [List.any_eq_false]
  intro x hx e
  exact absurd (eq_of_beq e) (Int.ne_of_lt (h x hx))
section
variable {S:Sig} {N:HN} {m:MH} {T:Td} {t:Tn} {p:Nat} {B:List (Nat×MObj)}
theorem bR5 (Z:TF S N) (n:Nat) (l:Lr) {b:Nat} (h:To m N T t) (k:t.Lk b) (hb:b < lid):Wp (run S (n+1) (N.ki+10) [.ref T.o,l.v]) m (fun u m'=>u=.int t.given /\ To m' N T (t.send l) /\ Mod [T.o,T.l,T.s] m m') nox:=by
 rcases h.le with ⟨e,kd⟩
 have nd:=Td.ne h.nd
 have nol:T.o≠T.l:=nd.1
 have nos:T.o≠T.s:=nd.2.1
 have nls:T.l≠T.s:=nd.2.2
 refine bF Z.send rfl (bK (aH (aN rfl h.po rfl) (aB7 (aC rfl (aC rfl ⟨T.o,N.C+1,_,rfl,h.po,?_⟩)))))
 have po1:=bI (o':=.inst (N.C+1) [(20,.int (t.given+1)),(21,.ref T.l)]) h.po
 have le1:=aY (o':=.inst (N.C+1) [(20,.int (t.given+1)),(21,.ref T.l)]) nol kd
 refine d8 (aC rfl (aH (aN rfl po1 rfl) (aC rfl (dX le1 (k:=.int t.given) rfl (bC _ _ _ _) (by unfold aP9 tD;rw [List.length_map];exact Nat.lt_of_le_of_lt k.ll hb) ?_))))
 show Wp _ (List.set _ T.l (.dict (put (.int t.given) l.v (aP9 t.lets)) (e+1))) _ _
 rw [cS6 k.lt]
 have M:Mod [T.o,T.l,T.s] m ((m.set T.o (.inst (N.C+1) [(20,.int (t.given+1)),(21,.ref T.l)])).set T.l (.dict (aP9 (t.lets++[(t.given,l)])) (e+1))):=(Mod.set (.head _)).trans (Mod.set (.tail _ (.head _)))
 refine a9 (aC rfl ⟨rfl,h.chg M (aY (fun q=>nol q.symm) po1) ⟨_,bI le1⟩ ?_,M⟩)
 exact h.sa.imp fun e' k'=>aY nls (aY nos k')
theorem nq {T:Td} {q:Nat} (h:q∉T.all):q∉[T.o,T.l,T.s]:=fun c=>h (Td.mem.mpr (.inl (.tail _ (.tail _ c))))
inductive TIn (N:HN) (T:Td) (t:Tn) (h:Int) (q:Nat) (w:Wo) (m:MH) (zs:List Nat) (r:Lo) (m':MH):Prop
 | mk (a:List Nat) (x:Option V) (e:List.range t.cnt.toNat=a++zs) (er:r=[some (.ref T.p),some (.int h),some (.ref q),some w.v,x]) (k:To m' N T (a.foldl (Tn.to h w) (t.say w))) (M:Mod [T.o,T.l,T.s] m m')
inductive TOut (N:HN) (T:Td) (t:Tn) (h:Int) (q:Nat) (ws:List Wo) (m:MH) (zs:List Wo) (r:Lo) (m':MH):Prop
 | mk (a:List Wo) (x y:Option V) (e:ws=a++zs) (er:r=[some (.ref T.p),some (.int h),some (.ref q),x,y]) (k:To m' N T (t.tell h a)) (M:Mod [T.o,T.l,T.s] m m')
theorem cQ9 (Z:TF S N) (n:Nat) (h:Int) {ws:List Wo} {q b:Nat} (H:Tw m N p t B) (hq:(q,.list (ws.map Wo.v))∈B) (k:t.Lk b) (hb:b+13 * ws.length < lid) (h0:1 <= t.cnt) (h2:t.cnt <= 12):Wp (run S (n+2) (N.ki+15) [.ref p,.int h,.ref q]) m (fun u m'=>∃ q',u=.ref q' /\ Tw m' N p (t.tell h ws) ((q',.list (ws.map Wo.v))::B)) nox:=by
 rcases H with ⟨T,rfl,h1,hB⟩
 rcases Z.post with ⟨y_,hpd,y_,y_,hm1,y_⟩
 have qo:=nq (hB _ hq).1
 have kq:m[q]?=some (.list (ws.map Wo.v)):=(hB _ hq).2
 refine bF Z.tell rfl (aH6 ws Wo.v (TOut N T t h q ws m) (aD (aC rfl (aK (fV kq ⟨rfl,⟨[],none,none,rfl,rfl,h1,Mod.refl _ _⟩,?_,?_,?_⟩)))))
 ·rintro zs r m' ⟨a,x,y,e,er,k',M⟩
  exact dR (M.has kq qo)
 ·rintro w zs r m' ⟨a,x,y,e,er,k',M⟩
  subst er
  rcases k'.sa with ⟨es,ks⟩
  have lk:=Tn.Lk.tell h a k h2
  have al:a.length+1 <= ws.length:=by rw [e,List.length_append,List.length_cons,<- Nat.add_assoc];exact Nat.succ_le_succ (Nat.le_add_right _ _)
  have cn:(t.tell h a).cnt=t.cnt:=(cE h a t).1
  have bl:b+13 * a.length+13 < lid:=Nat.lt_of_le_of_lt (by rw [Nat.add_assoc];exact Nat.add_le_add_left (Nat.mul_le_mul_left 13 al) b) hb
  refine aC rfl (d8 (aC rfl (aH (aN rfl k'.inst rfl) (aC rfl (dX ks (k:=w.ky) rfl (cT _ _) (by unfold kD;rw [List.length_map];exact Nat.lt_of_le_of_lt lk.sl (Nat.lt_of_le_of_lt (Nat.le_add_right _ 13) bl)) ?_)))))
  show Wp _ (m'.set T.s (.dict (put w.ky (.bool true) (kD (t.tell h a).said)) (es+1))) _ _
  rw [aT0]
  have nd:=Td.ne h1.nd
  have M1:Mod [T.o,T.l,T.s] m' (m'.set T.s (.dict (kD (fA w (t.tell h a).said)) (es+1))):=Mod.set (.tail _ (.tail _ (.head _)))
  have k1:To (m'.set T.s (.dict (kD (fA w (t.tell h a).said)) (es+1))) N T ((t.tell h a).say w):=k'.chg M1 (aY (fun c=>nd.2.1 c.symm) k'.po) (k'.le.imp fun e' k'=>aY (fun c=>nd.2.2 c.symm) k') ⟨_,bI ks⟩
  generalize m'.set T.s (.dict (kD (fA w (t.tell h a).said)) (es+1))=m1 at M1 k1 ⊢
  have M2:=M.trans M1
  refine aH6 (List.range (t.tell h a).cnt.toNat) (fun (j:Nat)=>V.int (0+(j:Int))) (TIn N T (t.tell h a) h q w m) (aD (aH (aN rfl k1.inst rfl) (aK (aH (bQ3 ?_) ⟨rfl,⟨[],y,rfl,rfl,k1,M2⟩,fun y_ y_ y_ y_=>rfl,?_,?_⟩))))
  ·show ((t.tell h a).cnt).natAbs < 2 ^ 30
   rw [cn]
   exact Nat.lt_of_lt_of_le (aJ7 (c:=13) (Int.le_trans (by decide) h0) (Int.lt_of_le_of_lt h2 (by decide:(12:Int) < 13)) (by decide)) (by decide)
  ·rintro j js r m2 ⟨c,z,e2,er,k2,M3⟩
   subst er
   refine aC rfl (aV (t:=!((0+(j:Int)) == h)) (aO (aU rfl rfl rfl)) ?_)
   have ej:(c++[j]).foldl (Tn.to h w) ((t.tell h a).say w)=Tn.to h w (c.foldl (Tn.to h w) ((t.tell h a).say w)) j:=by rw [List.foldl_append];rfl
   have ec:List.range (t.tell h a).cnt.toNat=(c++[j])++js:=by rw [e2,List.append_assoc];rfl
   cases hz:(0+(j:Int)) == h with
   | true=>
    have hz:=eq_of_beq hz
    rw [Int.zero_add] at hz
    exact dE ⟨c++[j],some (.int (0+(j:Int))),ec,rfl,by rw [ej];unfold Tn.to;rw [if_pos hz];exact k2,M3⟩
   | false=>
    have hz:¬ ((j:Int)=h):=fun q=>by rw [q,Int.zero_add,beq_self_eq_true] at hz;injection hz
    have lk2:=Tn.Lk.tos (b:=0) h w c (lk.say w)
    have cl:c.length <= 12:=by
     have:=congrArg List.length e2
     rw [List.length_range,List.length_append,cn] at this
     exact Nat.le_trans (Nat.le_add_right _ _) (this▸cZ h2)
    refine dS (bQ (aH (aN rfl k2.inst rfl) ⟨T.o,N.C+1,_,_,N.ki+10,rfl,k2.po,hpd,rfl,hm1,?_⟩))
    refine aC rfl ?_
    refine aX (bR5 Z n ⟨h,0+(j:Int),w⟩ k2 lk2 (Nat.lt_of_le_of_lt (by rw [Nat.add_assoc];exact Nat.add_le_add_left (by rw [Nat.add_comm];exact Nat.succ_le_succ cl) _) bl)) fun u m3 z3=>?_
    refine dE ⟨c++[j],some (.int (0+(j:Int))),ec,rfl,?_,M3.trans z3.2.2⟩
    rw [ej];unfold Tn.to;rw [if_neg hz]
    have:=z3.2.1
    rw [Int.zero_add] at this
    exact this
  ·rintro r m2 ⟨c,z,e2,er,k2,M3⟩
   subst er
   rw [List.append_nil] at e2
   refine dE ⟨a++[w],some w.v,z,by rw [e,List.append_assoc];rfl,rfl,?_,M3⟩
   unfold Tn.tell
   rw [List.foldl_append]
   show To m2 N T (Tn.tell1 h (t.tell h a) w)
   unfold Tn.tell1
   rw [e2];exact k2
 ·rintro r m' ⟨a,x,y,e,er,k',M⟩
  subst er
  rw [List.append_nil] at e
  subst e
  have kq':=M.has kq qo
  have el:biV .list [.ref q] m'=alloc (.list (ws.map Wo.v)) m':=by unfold biV;dsimp only;rw [kq']
  refine a9 (aI0 (aD (aC rfl (aK (aO0 el (aL fun q' m2 l k2 g=>⟨q',rfl,?_⟩))))))
  have tw:Tw m' N T.p (t.tell h ws) B:=⟨T,rfl,k',fun x hx=>⟨(hB x hx).1,M.has (hB x hx).2 (nq (hB x hx).1)⟩⟩
  exact tw.new l k2 g
end
end Mini.Internal
namespace Mini.Internal
open PySem
structure Tn.Ok (t:Tn) (b:Nat):Prop where
 lk:t.Lk b
 c1:1 <= t.cnt
 c2:t.cnt <= 12
 on:(t.hs.map (·.own)).Nodup
 hc:∀ s∈t.hs,s.cnt=t.cnt /\ s.sz <= b
 as:(t.lets.map (·.1)).Pairwise (· < ·)
noncomputable def Tn.turn (t:Tn) (i:Nat) (x:Hs×List Wo):Tn:=Tn.tell { t with hs:=t.hs.set i x.1 } x.1.own x.2
noncomputable def Tn.take (t:Tn) (k:Int):Tn:={ t with lets:=t.lets.filter fun x=>!(x.1 == k) }
section
variable {S:Sig} {N:HN} {m m':MH} {T:Td} {t:Tn} {p b i:Nat} {B:List (Nat×MObj)} {s:Hs} {D:Hd}
theorem aQ1 (len:T.ds.length=t.hs.length) (nd:(t.hs.map (·.own)).Nodup) (hs:t.hs[i]?=some s):∃ D,T.ds[i]?=some D /\ bX (.int s.own) (cA2 t T)=some (.ref D.p):=by
 have lt:=(List.getElem?_eq_some_iff.mp hs).1
 have lt':i < T.ds.length:=by rw [len];exact lt
 refine ⟨T.ds[i],List.getElem?_eq_getElem lt',?_⟩
 unfold cA2
 rw [aD5]
 have key:∀ (is:List Int) (js:List Nat) (i:Nat) (x:Int) (y:Nat),is.Nodup->is[i]?=some x->js[i]?=some y->(is.zip js).find? (fun z=>z.1 == x)=some (x,y):=by
  intro is
  induction is with
  | nil=>intro js i x y _ h;injection h
  | cons a is ih=>
   intro js i x y nd h1 h2
   cases js with
   | nil=>injection h2
   | cons c js=>
    have nd:=List.nodup_cons.mp nd
    cases i with
    | zero=>
     have e1:a=x:=Option.some.inj h1
     have e2:c=y:=Option.some.inj h2
     subst e1 e2
     exact List.find?_cons_of_pos (by exact beq_self_eq_true a)
    | succ i=>
     have h1:is[i]?=some x:=h1
     rw [List.zip_cons_cons,List.find?_cons_of_neg]
     ·exact ih js i x y nd.2 h1 h2
     ·intro q
      exact nd.1 ((show a=x from eq_of_beq q)▸List.mem_of_getElem? h1)
 rw [key _ _ i s.own T.ds[i].p nd (by rw [List.getElem?_map,hs];rfl) (by rw [List.getElem?_map,List.getElem?_eq_getElem lt'];rfl)]
 rfl
theorem aQ0 {h:Int} (hs:∀ s∈t.hs,s.own≠h):(bX (.int h) (cA2 t T)).isSome=false:=by
 unfold cA2
 rw [dH,List.any_eq_false]
 intro x hx e
 have:x.1∈t.hs.map (·.own):=(List.of_mem_zip (a:=x.1) (b:=x.2) hx).1
 rcases List.mem_map.mp this with ⟨s,h1,h2⟩
 exact hs s h1 (h2.trans (eq_of_beq e))
theorem fK (Z:TF S N) (n:Nat) (h:To m N T t) (nd:(t.hs.map (·.own)).Nodup) (hs:t.hs[i]?=some s):∃ D,T.ds[i]?=some D /\ Ho m N.C D s /\ run S (n+2) (N.ki+14) [.ref T.p,.int s.own] m=.ok (.ref D.p) m:=by
 rcases aQ1 h.len nd hs with ⟨D,e,el⟩
 rcases h.hs i D e with ⟨s',e1,e2⟩
 rw [hs] at e1
 (refine aF e1 fun z1=>?_;clear e1;subst z1)
 rcases h.hd with ⟨ed,kd⟩
 have so:aP (.int s.own) (cA2 t T)=true:=bC _ _ _ _
 refine ⟨D,e,e2,dW (bF Z.honest rfl (aV (t:=false) (cJ (aW (x:=false) (bM (aO (bA rfl (bT Z.H.W n s.own)))) (aW (x:=false) (aO (aU rfl (aN rfl h.inst rfl) ?_)) b8))) (a9 (aH (aP3 (aN rfl h.inst rfl) rfl (eI kd rfl so el)) ⟨rfl,rfl⟩))))⟩
 show Res.bind (inV (.int s.own) (.ref T.h) m) _=_
 rw [aT kd rfl so,el];rfl
theorem To.tells (h1:To m N T t) (hB:∀ x∈B,x.1∉T.all /\ m[x.1]?=some x.2) {l:List Nat} {q:Nat} {x:Hs×List Wo} (hi:T.ds[i]?=some D) (hs:t.hs[i]?=some s) (ho:x.1.own=s.own) (k:m'[q]?=some (.list (x.2.map Wo.v))) (g:m.length <= q) (o:q∉(D.ext l).all) (H:Ho m' N.C (D.ext l) x.1) (M:Mod D.foot m m') (hl:∀ y∈l,m.length <= y):Tw m' N T.p { t with hs:=t.hs.set i x.1 } ((q,.list (x.2.map Wo.v))::B):=by
 have old:∀ z,z∈({ T with ds:=T.ds.set i (D.ext l) }:Td).all->z∈T.all \/ z∈(D.ext l).all:=fun z hz=>by
  rcases Td.mem.mp hz with hz | ⟨D',hD,hz⟩
  ·exact .inl (Td.mem.mpr (.inl hz))
  ·rcases List.mem_or_eq_of_mem_set hD with hD | rfl
   ·exact .inl (Td.mem.mpr (.inr ⟨D',hD,hz⟩))
   ·exact .inr hz
 have new:∀ z,z∈(D.ext l).all->z∈T.all \/ m.length <= z:=fun z hz=>by
  rcases List.mem_append.mp hz with hz | hz
  ·exact .inl (Td.mem.mpr (.inr ⟨D,List.mem_of_getElem? hi,List.mem_append_left _ hz⟩))
  ·rcases List.mem_append.mp hz with hz | hz
   ·exact .inl (Td.mem.mpr (.inr ⟨D,List.mem_of_getElem? hi,List.mem_append_right _ hz⟩))
   ·exact .inr (hl z hz)
 refine ⟨{ T with ds:=T.ds.set i (D.ext l) },rfl,h1.hou hi hs ho M H hl,aI ⟨fun c=>?_,k⟩ fun y hy=>⟨fun c=>?_,M.has (hB y hy).2 fun c=>(hB y hy).1 (Td.mem.mpr (.inr ⟨D,List.mem_of_getElem? hi,List.mem_append_left _ c⟩))⟩⟩
 ·rcases old _ c with c | c
  ·exact h1.out g c
  ·exact o c
 ·rcases old _ c with c | c
  ·exact (hB y hy).1 c
  ·rcases new _ c with c | c
   ·exact (hB y hy).1 c
   ·exact Nat.not_lt.mpr c (bJ (hB y hy).2)
theorem dB7 (Z:TF S N) (h:To m N T t):∃ d,m[T.p]?=some (.inst (N.C+2) [(8,.int t.cnt),(26,.ref T.h),(27,.ref T.o),(28,.ref T.s)]) /\ S.cls[N.C+2]?=some d /\ d.meths=[(22,N.ki+14),(23,N.ki+15),(0,N.ki+16),(18,N.ki+17),(24,N.ki+18),(19,N.ki+19),(25,N.ki+20),(5,N.ki+21),(6,N.ki+22),(7,N.ki+23)]:=by
 rcases Z.town with ⟨d,h1,y_,y_,h2⟩
 exact ⟨d,h.inst,h1,h2⟩
theorem bB (Z:TF S N) (H:Tw m N p t B) {F:Fns} {r:Lo} {E:Nat->MH->Prop} {Q:V->MH->Prop} {o:CE} {k j:Nat} {as:List CE} (ho:ev S F o r m=.ok (.ref p) m) (hf:aK5 k ([(8,.none),(26,.none),(27,.none),(28,.none)])=none) (hk:[(22,N.ki+14),(23,N.ki+15),(0,N.ki+16),(18,N.ki+17),(24,N.ki+18),(19,N.ki+19),(25,N.ki+20),(5,N.ki+21),(6,N.ki+22),(7,N.ki+23)].lookup k=some j) (q:Wp (evs S F as r) m (fun vs m'=>Wp (F j (.ref p::vs)) m' Q E) E):Wp (ev S F (.meth o k as) r) m Q E:=by
 rcases H with ⟨T,rfl,h1,hB⟩
 rcases dB7 Z h1 with ⟨d,e1,e2,e3⟩
 refine bQ (aH ho ⟨T.p,N.C+2,_,d,j,rfl,e1,e2,?_,by rw [e3];exact hk,q⟩)
 have key:∀ (a b c d a' b' c' d':V),aK5 k [(8,a),(26,b),(27,c),(28,d)]=none->aK5 k [(8,a'),(26,b'),(27,c'),(28,d')]=none:=by
  intro a b c d a' b' c' d' h
  have h:(if 8=k then some a else if 26=k then some b else if 27=k then some c else if 28=k then some d else none)=none:=h
  show (if 8=k then some a' else if 26=k then some b' else if 27=k then some c' else if 28=k then some d' else none)=none
  by_cases h1:8=k
  ·rw [if_pos h1] at h;injection h
  ·rw [if_neg h1] at h ⊢
   by_cases h2:26=k
   ·rw [if_pos h2] at h;injection h
   ·rw [if_neg h2] at h ⊢
    by_cases h3:27=k
    ·rw [if_pos h3] at h;injection h
    ·rw [if_neg h3] at h ⊢
     by_cases h4:28=k
     ·rw [if_pos h4] at h;injection h
     ·rw [if_neg h4]
 exact key _ _ _ _ _ _ _ _ hf
theorem aF7 (s:Hs) (w:Wo):(s.hear w).1.own=s.own:=(eJ s w).2.1
theorem aR1 (s:Hs) (r:Str):(s.call r).1.own=s.own:=aF7 { s with onw:=s.onw+s.cnt } ⟨cY,s.onw,r,s.own⟩
theorem bO9 (Z:TF S N) (n:Nat) {x:Hs×List Wo} {q:Nat} {s:Hs} (H:Tw m N p { t with hs:=t.hs.set i x.1 } ((q,.list (x.2.map Wo.v))::B)) (ho:x.1.own=s.own) (k:t.Ok b) (hb:b+13 * x.2.length < lid):Wp (run S (n+2) (N.ki+15) [.ref p,.int s.own,.ref q]) m (fun u m'=>∃ q',u=.ref q' /\ Tw m' N p (t.turn i x) ((q',.list (x.2.map Wo.v))::B)) nox:=by
 refine aX (cQ9 Z n s.own H (.head _) ⟨k.lk.lt,k.lk.ll,k.lk.sl⟩ hb k.c1 k.c2) fun u m' z=>?_
 rcases z with ⟨q',e,z⟩
 refine ⟨q',e,?_⟩
 unfold Tn.turn
 rw [ho]
 exact z.sub fun y hy=>by
  rcases List.mem_cons.mp hy with rfl | hy
  ·exact .head _
  ·exact .tail _ (.tail _ hy)
theorem cD3 (Z:TF S N) (n:Nat) {r:Str} (H:Tw m N p t B) (k:t.Ok b) (hs:t.hs[i]?=some s) (hr:aF5 (.str r)=true) (hrl:r.length <= 64) (hb:b+300 < lid):Wp (run S (n+8) (N.ki+16) [.ref p,.int s.own,.str r]) m (fun u m'=>∃ q,u=.ref q /\ Tw m' N p (t.turn i (s.call r)) ((q,.list ((s.call r).2.map Wo.v))::B)) nox:=by
 have sc:=k.hc s (List.mem_of_getElem? hs)
 rcases id H with ⟨T,rfl,h1,hB⟩
 rcases fK Z (n+5) h1 k.on hs with ⟨D,hD,hH,eh⟩
 rcases Z.H.cls with ⟨dh,hd,hx,hi,hm⟩
 have bl:s.sz+8 < lid:=Nat.lt_of_le_of_lt (Nat.add_le_add sc.2 (by decide:8 <= 300)) hb
 refine bF Z.tcall rfl (bK (bQ (bB Z H rfl rfl rfl (aC rfl (aH eh ⟨D.p,N.C,_,dh,N.ki+1,rfl,hH.inst,hd,rfl,hm 0 (by decide),aC rfl (d7 (cY2 Z.H n r hH hr hrl (by rw [sc.1];exact k.c1) (by rw [sc.1];exact k.c2) bl) fun m1 q1 l1 k1 g1 o1 H1 M1 y1=>?_)⟩)))))
 have H2:=h1.tells hB hD hs (aR1 s r) k1 g1 o1 H1 M1 y1
 have n5:(s.call r).2.length <= 16:=by
  have:=(eJ { s with onw:=s.onw+s.cnt } ⟨cY,s.onw,r,s.own⟩).2.2.2.2
  show (_::(Hs.hear _ _).2).length <= 16
  rw [List.length_cons]
  exact Nat.succ_le_succ (Nat.le_trans this (Nat.add_le_add_right (cZ (show s.cnt <= 12 by rw [sc.1];exact k.c2)) 3))
 exact a9 (bB Z H2 rfl rfl rfl (aC rfl (bO9 Z (n+5) H2 (aR1 s r) k (Nat.lt_of_le_of_lt (Nat.add_le_add_left (Nat.le_trans (Nat.mul_le_mul_left 13 n5) (by decide)) b) hb))))
theorem bG8 {l:Lr} {k:Int} {ls:List (Int×Lr)} (as:(ls.map (·.1)).Pairwise (· < ·)) (h:(k,l)∈ls):ls.find? (fun x=>x.1 == k)=some (k,l):=by
 induction ls with
 | nil=>cases (h)
 | cons a ls ih=>
  have as:=List.pairwise_cons.mp as
  by_cases z:(a.1 == k)=true
  ·rw [List.find?_cons_of_pos (p:=fun x:Int×Lr=>x.1 == k) z]
   rcases List.mem_cons.mp h with h | h
   ·rw [h]
   ·exact absurd (eq_of_beq z) (Int.ne_of_lt (as.1 k (List.mem_map.mpr ⟨_,h,rfl⟩)))
  ·rw [List.find?_cons_of_neg (p:=fun x:Int×Lr=>x.1 == k) z]
   rcases List.mem_cons.mp h with h | h
   ·rw [<- h] at z;exact absurd (beq_self_eq_true k) z
   ·exact ih as.2 h
theorem bH3 {k:Int}:∀ {ls:List (Int×Lr)},(ls.map (·.1)).Pairwise (· < ·)->fM (.int k) (aP9 ls)=aP9 (ls.filter fun x=>!(x.1 == k))
 | [],_=>rfl
 | a::ls,as=>by
  have as:=List.pairwise_cons.mp as
  show (if Ky.int a.1=Ky.int k then aP9 ls else (Ky.int a.1,a.2.v)::fM (.int k) (aP9 ls))=_
  by_cases z:a.1=k
  ·rw [if_pos (by rw [z]),List.filter_cons_of_neg (by simp [z])]
   congr 1
   refine (List.filter_eq_self.mpr fun x hx=>?_).symm
   have:=as.1 x.1 (List.mem_map.mpr ⟨x,hx,rfl⟩)
   rw [Bool.not_eq_true',beq_eq_false_iff_ne]
   rw [<- z];exact (Int.ne_of_lt this).symm
  ·rw [if_neg fun c=>z (bV3 c),List.filter_cons_of_pos (by simp [z]),bH3 as.2];rfl
theorem bS7 (Z:TF S N) (n:Nat) {k:Int} {l:Lr} (h:To m N T t) (as:(t.lets.map (·.1)).Pairwise (· < ·)) (hk:(k,l)∈t.lets):Wp (run S (n+2) (N.ki+11) [.ref T.o,.int k]) m (fun u m'=>u=l.v /\ To m' N T (t.take k) /\ Mod [T.o,T.l,T.s] m m') nox:=by
 rcases h.le with ⟨e,kd⟩
 have so:aP (.int k) (aP9 t.lets)=true:=bC _ _ _ _
 have el:bX (.int k) (aP9 t.lets)=some l.v:=by unfold aP9;rw [aD5,bG8 as hk];rfl
 have nd:=Td.ne h.nd
 refine bF Z.pbring rfl (aV (t:=false) (cJ (aW (x:=false) (bM (aO (bA rfl (bT Z.H.W n k)))) (aW (x:=false) (aO (aU rfl (aN rfl h.po rfl) ?_)) b8))) (a9 (aC3 (aH (aN rfl h.po rfl) ⟨1,smK_d kd,rfl,aC rfl (dA7 kd so el ⟨rfl,?_,Mod.set (.tail _ (.head _))⟩)⟩))))
 ·show Res.bind (inV (.int k) (.ref T.l) m) _=_
  rw [aT kd rfl so,el];rfl
 ·rw [bH3 as]
  exact h.chg (Mod.set (.tail _ (.head _))) (aY (fun q=>nd.1 q.symm) h.po) ⟨_,bI kd⟩ (h.sa.imp fun e' k'=>aY nd.2.2 k')
theorem To.beside (hB:∀ x∈B,x.1∉T.all /\ m[x.1]?=some x.2) (M:Mod [T.o,T.l,T.s] m m'):∀ x∈B,x.1∉T.all /\ m'[x.1]?=some x.2:=fun x hx=>⟨(hB x hx).1,M.has (hB x hx).2 (nq (hB x hx).1)⟩
theorem bD6 (Z:TF S N) (n:Nat) {k:Int} {l:Lr} (H:Tw m N p t B) (O:t.Ok b) (hk:(k,l)∈t.lets) (hs:t.hs[i]?=some s) (hl:s.own=l.r) (hb:b+300 < lid):Wp (run S (n+7) (N.ki+17) [.ref p,.int k]) m (fun u m'=>∃ q,u=.ref q /\ Tw m' N p ((t.take k).turn i (s.hear l.w)) ((q,.list ((s.hear l.w).2.map Wo.v))::B)) nox:=by
 rcases H with ⟨T,rfl,h1,hB⟩
 rcases Z.post with ⟨y_,hpd,y_,y_,y_,hm1,y_⟩
 have sc:=O.hc s (List.mem_of_getElem? hs)
 have bl:s.sz+8 < lid:=Nat.lt_of_le_of_lt (Nat.add_le_add sc.2 (by decide:8 <= 300)) hb
 refine bF Z.tbring rfl (bK (bQ (aH (aN rfl h1.inst rfl) ⟨T.o,N.C+1,_,_,N.ki+11,rfl,h1.po,hpd,rfl,hm1,aC rfl (aX (bS7 Z (n+4) h1 O.as hk) fun u m1 z=>?_)⟩)))
 rcases z with ⟨rfl,h2,M⟩
 have O2:(t.take k).Ok b:=⟨⟨fun x hx=>O.lk.lt x (List.mem_filter.mp hx).1,Nat.le_trans (List.length_filter_le _ _) O.lk.ll,O.lk.sl⟩,O.c1,O.c2,O.on,O.hc,List.Pairwise.sublist (List.Sublist.map _ List.filter_sublist) O.as⟩
 have tw:Tw m1 N T.p (t.take k) B:=⟨T,rfl,h2,To.beside hB M⟩
 rcases h2.hd with ⟨ed,kd⟩
 rcases aQ1 (t:=t.take k) h2.len O.on hs with ⟨D,hD,el⟩
 rcases h2.hs i D hD with ⟨s',e1,hH⟩
 rw [show (t.take k).hs[i]?=some s from hs] at e1
 (refine aF e1 fun z1=>?_;clear e1;subst z1)
 rcases Z.H.cls with ⟨dh,hd,hx,hi,hm⟩
 have so:aP (.int s.own) (cA2 (t.take k) T)=true:=bC _ _ _ _
 rw [hl] at el so
 refine aV (t:=false) (aO (aU rfl (aN rfl h2.inst rfl) ?_)) ?_
 ·show Res.bind (inV (.int l.r) (.ref T.h) m1) _=_
  rw [aT kd rfl so,el];rfl
 refine a9 (bB Z tw rfl rfl rfl (aD (aC rfl (aD (bQ (aH (aP3 (aN rfl h2.inst rfl) rfl (eI kd rfl so el)) ⟨D.p,N.C,_,dh,N.ki+2,rfl,hH.inst,hd,rfl,hm 1 (by decide),aC rfl (d7 (bW1 Z.H n l.w hH (by rw [sc.1];exact O.c1) (by rw [sc.1];exact O.c2) bl) fun m3 q3 l3 k3 g3 o3 H3 M3 y3=>?_)⟩))))))
 have H4:=h2.tells (t:=t.take k) (To.beside hB M) hD hs (aF7 s l.w) k3 g3 o3 H3 M3 y3
 have n5:(s.hear l.w).2.length <= 15:=by
  have:=(eJ s l.w).2.2.2.2
  exact Nat.le_trans this (Nat.add_le_add_right (cZ (show s.cnt <= 12 by rw [sc.1];exact O.c2)) 3)
 refine aK ?_
 have:=bO9 Z (n+4) H4 (aF7 s l.w) O2 (Nat.lt_of_le_of_lt (Nat.add_le_add_left (Nat.le_trans (Nat.mul_le_mul_left 13 n5) (by decide)) b) hb)
 rw [hl] at this
 exact this
end
end Mini.Internal
namespace Mini.Internal
open PySem
structure Wo.Ok (c:Int) (w:Wo):Prop where
 k:w.k=cY \/ w.k=fJ
 n0:0 <= w.n
 n1:w.n <= 9999
 r:aF5 (.str w.r)=true
 h0:0 <= w.h
 h1:w.h < c
 c:w.k=cY->(w.n - w.h) % c=0
section
variable {S:Sig} {N:HN} {m m':MH} {T:Td} {t:Tn} {p b i:Nat} {B:List (Nat×MObj)} {s:Hs} {D:Hd}
theorem bF8 (Z:TF S N) (n:Nat) {h r:Int} {w:Wo} (H:Tw m N p t B) (O:t.Ok b) (h0:0 <= h) (h1:h < t.cnt) (hl:∀ s∈t.hs,s.own≠h) (r0:0 <= r) (r1:r < t.cnt) (hr:r≠h) (hw:w.Ok t.cnt) (hf:w.h=h \/ w∈t.said) (hb:b+300 < lid):Wp (run S (n+4) (N.ki+18) [.ref p,.int h,.int r,w.v]) m (fun u m'=>u=.int t.given /\ Tw m' N p ((t.say w).send ⟨h,r,w⟩) B) nox:=by
 rcases H with ⟨T,rfl,h1',hB⟩
 rcases Z.post with ⟨y_,hpd,y_,y_,hm1,y_⟩
 rcases Z.H.gM with ⟨y_,gM⟩
 rcases Z.gN with ⟨y_,gN⟩
 rcases Z.H.gL with ⟨y_,gL⟩
 rcases Z.H.gS with ⟨y_,gS⟩
 rcases h1'.hd with ⟨ed,kd⟩
 rcases h1'.sa with ⟨es,ks⟩
 have nd:=Td.ne h1'.nd
 have ew:run S (n+3) _ [.int t.cnt,w.v] m=.ok (.bool true) m:=aR6 Z.word Z.H.N_ Z.H.W Z.H.R Z.caller gM gN gL gS n O.c1 O.c2 hw.k hw.n0 hw.n1 hw.r hw.h0 hw.h1 hw.c
 refine bF Z.lie rfl (aV (t:=false) (cJ (aW (x:=false) (bM (aO (bA rfl (bT Z.H.W (n+2) h)))) (aW (x:=false) (aS9 rfl (aN rfl h1'.inst rfl) h0 h1) (aW (x:=false) (aO (aU rfl (aN rfl h1'.inst rfl) ?_)) b8)))) ?_)
 ·show inV (.int h) (.ref T.h) m=_
  rw [aT kd rfl (bC _ _ _ _)]
  show Res.ok ((bX (.int h) (cA2 t T)).isSome) m=_
  rw [aQ0 hl]
 refine aV (t:=false) (cJ (aW (x:=false) (bM (aO (bA rfl (bT Z.H.W (n+2) r)))) (aW (x:=false) (aS9 rfl (aN rfl h1'.inst rfl) r0 r1) (aW (x:=false) (aO (aU rfl rfl ?_)) b8)))) ?_
 ·show Res.ok (r == h) m=_
  rw [beq_eq_false_iff_ne.mpr hr]
 refine aV (t:=false) (bM (aO (eD (vs:=[.int t.cnt,w.v]) ?_ ew))) ?_
 ·show Res.bind (ev S _ (.attr (.var 0) 8) _ m) _=_
  rw [aN (v:=.int t.cnt) rfl h1'.inst rfl];rfl
 have e4:evT S (run S (n+3)) (.all true [(.val (.cmp (.idx (.var 3) (.cnst (Lt.int 3))) [.NotEq] [(.var 1)])),(.val (.cmp (.var 3) [.NotIn] [(.attr (.var 0) 28)]))]) [some (.ref T.p),some (.int h),some (.int r),some w.v] m=.ok false m:=by
  have e1:evT S (run S (n+3)) (.val (.cmp (.idx (.var 3) (.cnst (Lt.int 3))) [.NotEq] [(.var 1)])) [some (.ref T.p),some (.int h),some (.int r),some w.v] m=.ok (!(w.h == h)) m:=aO (aU rfl rfl rfl)
  have e2:evT S (run S (n+3)) (.val (.cmp (.var 3) [.NotIn] [(.attr (.var 0) 28)])) [some (.ref T.p),some (.int h),some (.int r),some w.v] m=.ok (!decide (w∈t.said)) m:=by
   refine aO (aU rfl (aN rfl h1'.inst rfl) ?_)
   show Res.bind (inV w.v (.ref T.s) m) _=_
   rw [aT ks (k:=w.ky) rfl (cT _ _),aI4];rfl
  rw [cJ (bE5 e1 (bE5 e2 b8))]
  rcases hf with hf | hf
  ·rw [hf,beq_self_eq_true];rfl
  ·rw [decide_eq_true hf,Bool.not_true,Bool.false_and,Bool.and_false]
 refine aV e4 ?_
 refine d8 (aC rfl (aH (aN rfl h1'.inst rfl) (aC rfl (dX ks (k:=w.ky) rfl (cT _ _) (by unfold kD;rw [List.length_map];exact Nat.lt_of_le_of_lt O.lk.sl (Nat.lt_of_le_of_lt (Nat.le_add_right _ 300) hb)) ?_))))
 show Wp _ (m.set T.s (.dict (put w.ky (.bool true) (kD t.said)) (es+1))) _ _
 rw [aT0]
 have M1:Mod [T.o,T.l,T.s] m (m.set T.s (.dict (kD (fA w t.said)) (es+1))):=Mod.set (.tail _ (.tail _ (.head _)))
 have k1:To (m.set T.s (.dict (kD (fA w t.said)) (es+1))) N T (t.say w):=h1'.chg M1 (aY (fun c=>nd.2.1 c.symm) h1'.po) (h1'.le.imp fun e' k'=>aY (fun c=>nd.2.2 c.symm) k') ⟨_,bI ks⟩
 generalize m.set T.s (.dict (kD (fA w t.said)) (es+1))=m1 at M1 k1 ⊢
 refine a9 (bQ (aH (aN rfl k1.inst rfl) ⟨T.o,N.C+1,_,_,N.ki+10,rfl,k1.po,hpd,rfl,hm1,?_⟩))
 refine aC rfl ?_
 exact aX (bR5 Z (n+2) ⟨h,r,w⟩ k1 (O.lk.say w) (Nat.lt_of_le_of_lt (Nat.add_le_add_left (by decide) b) hb)) fun u m2 z=>⟨z.1,T,rfl,z.2.1,To.beside hB (M1.trans z.2.2)⟩
noncomputable def aG7 (x:Int×Lr):V:=.tup [.int x.1,x.2.v]
theorem cE4 (Z:TF S N) (n:Nat) (h:To m N T t) (O:t.Ok b) (hb:b < lid):Wp (run S (n+1) (N.ki+12) [.ref T.o]) m (fun u m'=>∃ q,u=.ref q /\ m'[q]?=some (.list (t.lets.map aG7)) /\ m.length <= q /\ Le m m') nox:=by
 rcases h.le with ⟨e,kd⟩
 have hs:biV .sorted [.ref T.l] m=alloc (.list (t.lets.map fun x=>V.int x.1)) m:=by
  unfold biV;dsimp only;rw [kd];dsimp only
  unfold aP9
  rw [bA1];dsimp only
  rw [if_pos (.inr O.as),aS4 O.as,List.map_map];rfl
 refine bF Z.pwait rfl (a9 (bS6 t.lets (fun x=>V.int x.1) aG7 (fun m'=>m'=m++[.list (t.lets.map fun x=>V.int x.1)]) (aD (aI0 (aD (aH (aN rfl h.po rfl) (aK (aH hs (aK (fV bW ⟨rfl,rfl,?_,?_,?_,?_⟩))))))))))
 ·intro m' em;rw [em];exact dR bW
 ·intro x hx m' em
  have l:=Le.app m [.list (t.lets.map fun x=>V.int x.1)]
  have ed:aX8 (.ref T.l) (.int x.1) m'=.ok x.2.v m':=by
   rw [em]
   refine eI (l.has kd) rfl (bC _ _ _ _) ?_
   unfold aP9;rw [aD5,bG8 O.as (show (x.1,x.2)∈t.lets from hx)];rfl
  have po:=l.has h.po
  rw [<- em] at po
  exact aC rfl (aH (aC0 (aG rfl (aG (aP3 (aN rfl po rfl) rfl ed) rfl))) ⟨rfl,em⟩)
 ·exact Nat.le_trans O.lk.ll (Nat.le_of_lt hb)
 ·intro q m1 m2 em l2 k2 hq
  rw [em] at l2 hq
  exact ⟨q,rfl,k2,by rw [List.length_append] at hq;exact Nat.le_trans (Nat.le_add_right _ _) hq,(Le.app _ _).trans l2⟩
theorem aF0 (Z:TF S N) (n:Nat) (H:Tw m N p t B) (O:t.Ok b) (hb:b < lid):Wp (run S (n+2) (N.ki+19) [.ref p]) m (fun u m'=>∃ q,u=.ref q /\ Tw m' N p t ((q,.list (t.lets.map aG7))::B) /\ Le m m' /\ m.length <= q) nox:=by
 rcases id H with ⟨T,rfl,h1,hB⟩
 rcases Z.post with ⟨y_,hpd,y_,y_,y_,y_,hm1⟩
 refine bF Z.twait rfl (a9 (bQ (aH (aN rfl h1.inst rfl) ⟨T.o,N.C+1,_,_,N.ki+12,rfl,h1.po,hpd,rfl,hm1,aC rfl (aX (cE4 Z n h1 O hb) fun u m1 z=>?_)⟩)))
 rcases z with ⟨q,e,k,g,l⟩
 exact ⟨q,e,H.new l k g,l,g⟩
theorem bQ6 (Z:TF S N) (n:Nat) (H:Tw m N p t B):Wp (run S (n+1) (N.ki+20) [.ref p]) m (fun u m'=>∃ q,u=.ref q /\ Tw m' N p t ((q,.list (t.said.map Wo.v))::B) /\ Le m m' /\ m.length <= q) nox:=by
 rcases id H with ⟨T,rfl,h1,hB⟩
 rcases h1.sa with ⟨es,ks⟩
 have el:biV .list [.ref T.s] m=alloc (.list (t.said.map Wo.v)) m:=by unfold biV;dsimp only;rw [ks];dsimp only;rw [bV5]
 refine bF Z.spoken rfl (a9 (aI0 (aD (aH (aN rfl h1.inst rfl) (aK (aO0 el (aL fun q m1 l k g=>⟨q,rfl,H.new l k g,l,g⟩)))))))
theorem bJ0 (Z:TF S N) (n:Nat) (H:Tw m N p t B) (O:t.Ok b) (hs:t.hs[i]?=some s) (hl:s.rows.length < 64) (nd:(s.rows.map (·.1)).Nodup):Wp (run S (n+3) (N.ki+21) [.ref p,.int s.own]) m (fun u m'=>∃ q e,u=.ref q /\ Tw m' N p t ((q,.dict (ledI s.rows) e)::B) /\ Le m m' /\ m.length <= q) nox:=by
 rcases id H with ⟨T,rfl,h1,hB⟩
 rcases fK Z n h1 O.on hs with ⟨D,hD,hH,eh⟩
 rcases Z.H.cls with ⟨dh,hd,hx,hi,hm⟩
 refine bF Z.tledger rfl (a9 (bQ (bB Z H rfl rfl rfl (aC rfl (aH eh ⟨D.p,N.C,_,dh,N.ki+6,rfl,hH.inst,hd,rfl,hm 5 (by decide),aC rfl (cU7 (bV0 Z.H (n+1) hH hl) fun m1 q e k g l=>⟨q,e,rfl,?_,l,g⟩)⟩)))))
 rw [dF0 nd] at k
 exact H.new l k g
theorem bJ1 (Z:TF S N) (n:Nat) (H:Tw m N p t B) (O:t.Ok b) (hs:t.hs[i]?=some s):Wp (run S (n+3) (N.ki+23) [.ref p,.int s.own]) m (fun u m'=>∃ q,u=.ref q /\ Tw m' N p t ((q,.list (bJ7 s.named))::B) /\ Le m m' /\ m.length <= q) nox:=by
 rcases id H with ⟨T,rfl,h1,hB⟩
 rcases fK Z n h1 O.on hs with ⟨D,hD,hH,eh⟩
 rcases Z.H.cls with ⟨dh,hd,hx,hi,hm⟩
 exact bF Z.tcaught rfl (a9 (bQ (bB Z H rfl rfl rfl (aC rfl (aH eh ⟨D.p,N.C,_,dh,N.ki+8,rfl,hH.inst,hd,rfl,hm 7 (by decide),aC rfl (aH (bY4 Z.H (n+1) hH) ⟨_,rfl,H.new (.app _ _) bW (Nat.le_refl _),.app _ _,Nat.le_refl _⟩)⟩)))))
end
end Mini.Internal
namespace Mini.Internal
open PySem
noncomputable def aR5 (L:List Int) (a:List Nat):List Int:=(a.map fun (j:Nat)=>(j:Int)).filter fun j=>!(L.any fun y=>y == j)
noncomputable def dU (c:Int) (L:List Int):List Int:=aR5 L (List.range c.toNat)
noncomputable def Tn.new (c:Int) (L:List Int):Tn:=⟨c,(dU c L).map (Hs.new c),0,[],[]⟩
theorem bG6 (L:List Int) (j:Int):(bX (.int j) (iD L)).isSome=L.any fun y=>y == j:=by rw [cH5,dH];rfl
theorem cM5 {L:List Int} {j:Int} (h:j∉L):put (.int j) (.bool true) (iD L)=iD (L++[j]):=by
 rw [cH5,aC2]
 ·unfold iD tD;rw [List.map_append];rfl
 ·rw [List.any_eq_false]
  intro x hx e
  exact h (eq_of_beq e▸hx)
theorem aC9 (L:List Int) (a:List Nat) (j:Nat):aR5 L (a++[j])=if (L.any fun y=>y == (j:Int))=true then aR5 L a else aR5 L a++[(j:Int)]:=by
 unfold aR5
 rw [List.map_append,List.filter_append]
 show _++List.filter _ [(j:Int)]=_
 rw [List.filter_cons,List.filter_nil]
 cases L.any fun y=>y == (j:Int)
 ·rfl
 ·exact List.append_nil _
theorem bG4 {L:List Int} {c:Int} (nd:L.Nodup) (hL:∀ x∈L,0 <= x /\ x < c):L.length <= c.toNat:=by
 have h1:(L.map Int.toNat).Nodup:=List.pairwise_map.mpr (List.Pairwise.imp_of_mem (fun {x y} hx hy hne e=>hne (by rw [<- Int.toNat_of_nonneg (hL x hx).1,<- Int.toNat_of_nonneg (hL y hy).1,e])) nd)
 have h2:L.map Int.toNat ⊆ List.range c.toNat:=fun y hy=>by
  rcases List.mem_map.mp hy with ⟨x,hx,rfl⟩
  have:=hL x hx
  exact List.mem_range.mpr ((Int.toNat_lt_toNat (Int.lt_of_le_of_lt this.1 this.2)).mpr this.2)
 have:=h1.length_le_of_subset h2
 rw [List.length_map,List.length_range] at this
 exact this
section
variable {S:Sig} {N:HN} {m m':MH} {p q:Nat} {B:List (Nat×MObj)}
theorem cE6 (Z:TF S N) (n:Nat) (h:m[q]?=some (.inst (N.C+1) [])):Wp (run S (n+1) (N.ki+9) [.ref q]) m (fun u m'=>u=.none /\ m'[q]?=some (.inst (N.C+1) [(20,.int 0),(21,.ref m.length)]) /\ m'[m.length]?=some (.dict [] 0) /\ Mod [q] m m') nox:=by
 refine bF Z.pinit rfl (aB7 (aC rfl (aC rfl ⟨q,N.C+1,[],rfl,h,?_⟩)))
 have h1:=bI (o':=.inst (N.C+1) [(20,.int 0)]) h
 have hl:(m.set q (.inst (N.C+1) [(20,.int 0)])).length=m.length:=List.length_set
 show Wp _ (m.set q (.inst (N.C+1) [(20,.int 0)])) _ _
 have M0:Mod [q] m (m.set q (.inst (N.C+1) [(20,.int 0)])):=Mod.set (.head _)
 generalize m.set q (.inst (N.C+1) [(20,.int 0)])=m1 at h1 hl M0 ⊢
 exact c9 rfl rfl h1 hl fun m2 i2 n2 f2 L2 M2=>dE ⟨rfl,i2,n2,M0.trans M2⟩
inductive TL1 (q p d:Nat) (c:Int) (L:List Int) (m:MH) (zs:List Int) (r:Lo) (m':MH):Prop
 | mk (a:List Int) (e:Nat) (x:Option V) (el:L=a++zs) (er:r=[some (.ref p),some (.int c),some (.ref q),some (.ref d),x]) (kd:m'[d]?=some (.dict (iD a) e)) (l:Le m m')
inductive TL2 (N:HN) (q p d h:Nat) (c:Int) (L:List Int) (m:MH) (zs:List Nat) (r:Lo) (m':MH):Prop
 | mk (a:List Nat) (ds:List Hd) (e:Nat) (x:Option V) (el:List.range c.toNat=a++zs) (er:r=[some (.ref p),some (.int c),some (.ref q),some (.ref d),x])
   (kh:m'[h]?=some (.dict (tD (·.1) (fun x:Int×Nat=>V.ref x.2) ((aR5 L a).zip (ds.map (·.p)))) e)) (M:Mod [h] m m')
   (hs:∀ (i:Nat) (D:Hd),ds[i]?=some D->∃ o,(aR5 L a)[i]?=some o /\ Ho m' N.C D (Hs.new c o)) (len:ds.length=(aR5 L a).length) (fr:∀ D∈ds,∀ x∈D.all,m.length <= x)
   (dd:∀ (i j:Nat) (D D':Hd),ds[i]?=some D->ds[j]?=some D'->i≠j->∀ x∈D.all,x∉D'.all)
theorem cH6 {L:List Int} {a:List Nat} {x:Int} (h:x∈aR5 L a):∃ j∈a,x=(j:Int):=by
 have:=(List.mem_filter.mp h).1
 rcases List.mem_map.mp this with ⟨j,h1,h2⟩
 exact ⟨j,h1,h2.symm⟩
theorem nd5 {a b c d e:Nat} (h1:a < b) (h2:b < c) (h3:c < d) (h4:d < e):[a,b,c,d,e].Nodup:=by
 have h12:=Nat.lt_trans h1 h2
 have h13:=Nat.lt_trans h12 h3
 have h23:=Nat.lt_trans h2 h3
 simp only [List.nodup_cons,List.mem_cons,List.not_mem_nil,or_false,not_or,not_false_eq_true,List.nodup_nil,and_true]
 exact ⟨⟨Nat.ne_of_lt h1,Nat.ne_of_lt h12,Nat.ne_of_lt h13,Nat.ne_of_lt (Nat.lt_trans h13 h4)⟩,⟨Nat.ne_of_lt h2,Nat.ne_of_lt h23,Nat.ne_of_lt (Nat.lt_trans h23 h4)⟩,⟨Nat.ne_of_lt h3,Nat.ne_of_lt (Nat.lt_trans h3 h4)⟩,Nat.ne_of_lt h4⟩
set_option tactic.hygienic true in
theorem cC9 (Z:TF S N) (n:Nat) {c:Int} {L:List Int} {q p d h:Nat} {m3:MH} {e:Nat} {Q:Fl×Lo->MH->Prop} (c1:1 <= c) (c2:c <= 12) (i3:m3[p]?=some (.inst (N.C+2) [(8,.int c),(26,.ref h)])) (ph:p < h) (hlt:h < m3.length) (kd3:m3[d]?=some (.dict (iD L) e)) (dh:d≠h) {j:Nat} {js:List Nat} {r:Lo} {m4:MH} (I:TL2 N q p d h c L m3 (j::js) r m4) :
  Wp (aH5 (.one 4) (V.int (0+(j:Int))) r) m4 (fun r' m'=>Wp (exs S (run S (n+3)) [(.ite (.val (.cmp (.var 4) [.NotIn] [(.var 3)])) [(.asg (.idx (.attr (.var 0) 26) (.var 4)) (.new N.C [(.var 1),(.var 4)]))] [])] r') m' (bL8 Q (TL2 N q p d h c L m3) js) nox) nox:=by
 rcases I with ⟨a,ds,e4,x4,el,er,kh,M,hs,len,fr,dd⟩
 subst er
 have dh:d∉[h]:=fun c=>dh (List.mem_singleton.mp c)
 have kd4:=M.has kd3 dh
 have i4:=M.has i3 fun c=>absurd (List.mem_singleton.mp c) (Nat.ne_of_lt ph)
 have ejs:List.range c.toNat=(a++[j])++js:=by rw [el,List.append_assoc];rfl
 refine aC rfl (aV (t:=!(L.any fun y=>y == (0+(j:Int)))) (aO (aU rfl rfl ?_)) ?_)
 ·show Res.bind (inV (.int (0+(j:Int))) (.ref d) m4) _=_
  rw [aT kd4 rfl (cU _ _),bG6];rfl
 rw [Int.zero_add]
 cases hz:L.any fun y=>y == (j:Int) with
 | true=>
  refine dE ⟨a++[j],ds,e4,_,ejs,rfl,?_,M,?_,?_,fr,dd⟩
  all_goals rw [aC9,if_pos hz]
  ·exact kh
  ·exact hs
  ·exact len
 | false=>
  have hj:j < c.toNat:=List.mem_range.mp (by rw [el];exact List.mem_append_right _ (.head _))
  have hj':(j:Int) < c:=Int.lt_toNat.mp hj
  rcases Z.H.cls with ⟨dc,hd,hx,hi,hm⟩
  refine d8 (bE8 (aC rfl ⟨dc,N.ki,hd,hx,hi,?_⟩))
  refine aX (cW0 Z.H n (p:=m4.length) c1 c2 (Int.natCast_nonneg j) hj' bW) fun u m5 z=>?_
  rcases z with ⟨hu,D,hDp,hH,M5,hD⟩
  refine ⟨hu,?_⟩
  have L5:Le m4 m5:=by
   refine ⟨Nat.le_trans (by rw [List.length_append];exact Nat.le_add_right _ _) M5.1,fun y hy=>?_⟩
   rw [M5.2 y (by rw [List.length_append];exact Nat.lt_of_lt_of_le hy (Nat.le_add_right _ _)) fun c=>absurd (List.mem_singleton.mp c) (Nat.ne_of_lt hy),List.getElem?_append_left hy]
  have Df:∀ y∈D.all,m4.length <= y:=fun y hy=>by
   rcases hD y hy with rfl | hy
   ·exact Nat.le_refl _
   ·rw [List.length_append] at hy;exact Nat.le_trans (Nat.le_add_right _ _) hy
  have kh5:=L5.has kh
  have le34:=M.1
  refine aH (aN rfl (L5.has i4) rfl) (aC rfl (dX kh5 (k:=.int (j:Int)) rfl (bC _ _ _ _) ?_ ?_))
  ·unfold tD
   rw [List.length_map,List.length_zip]
   refine Nat.lt_of_le_of_lt (Nat.min_le_left _ _) ?_
   refine Nat.lt_of_le_of_lt (List.length_filter_le _ _) ?_
   rw [List.length_map]
   have:=congrArg List.length el
   rw [List.length_range,List.length_append] at this
   exact Nat.lt_of_le_of_lt (Nat.le_trans (Nat.le_add_right _ _) (this▸cZ c2)) (by decide)
  have na:((aR5 L a).zip (ds.map (·.p))).any (fun x=>x.1 == (j:Int))=false:=by
   rw [List.any_eq_false]
   intro y hy e
   have:y.1∈aR5 L a:=(List.of_mem_zip (a:=y.1) (b:=y.2) hy).1
   rcases cH6 this with ⟨i,h1,h2⟩
   have:j∈a:=by
    have:(i:Int)=(j:Int):=h2.symm.trans (eq_of_beq e)
    rw [<- Int.ofNat_inj.mp this];exact h1
   have nr:(List.range c.toNat).Nodup:=List.nodup_range
   rw [el] at nr
   exact (List.nodup_append.mp nr).2.2 j this j (.head _) rfl
  have ep:put (.int (j:Int)) (.ref m4.length) (tD (·.1) (fun x:Int×Nat=>V.ref x.2) ((aR5 L a).zip (ds.map (·.p))))=tD (·.1) (fun x:Int×Nat=>V.ref x.2) ((aR5 L (a++[j])).zip ((ds++[D]).map (·.p))):=by
   rw [aC2 _ _ _ _ _ na,aC9,if_neg (by rw [hz];exact Bool.false_ne_true),List.map_append,List.zip_append (by rw [List.length_map];exact len.symm)]
   unfold tD
   rw [List.map_append]
   show _=_++[(Ky.int (j:Int),V.ref D.p)]
   rw [hDp]
  rw [ep]
  have hmod:Mod [h] m5 (m5.set h (.dict (tD (·.1) (fun x:Int×Nat=>V.ref x.2) ((aR5 L (a++[j])).zip ((ds++[D]).map (·.p)))) (e4+1))):=Mod.set (.head _)
  have ge:∀ (i:Nat) (D':Hd),(ds++[D])[i]?=some D'->(i < ds.length /\ ds[i]?=some D') \/ (i=ds.length /\ D'=D):=fun i D' e=>by
   rcases Nat.lt_or_ge i ds.length with z | z
   ·rw [List.getElem?_append_left z] at e;exact .inl ⟨z,e⟩
   ·rw [List.getElem?_append_right z] at e
    have:i - ds.length=0:=by
     cases h:i - ds.length with
     | zero=>rfl
     | succ k=>rw [h] at e;injection e
    rw [this] at e
    exact .inr ⟨Nat.le_antisymm (Nat.le_of_sub_eq_zero this) z,(Option.some.inj e).symm⟩
  have frD:∀ y∈D.all,m3.length <= y:=fun y hy=>Nat.le_trans le34 (Df y hy)
  have oldlt:∀ (i:Nat) (D':Hd),ds[i]?=some D'->∀ y∈D'.all,y < m4.length:=fun i D' e y hy=>by
   rcases hs i D' e with ⟨o,y_,h2⟩
   exact h2.lt y hy
  refine dE ⟨a++[j],ds++[D],e4+1,_,ejs,rfl,bI kh5,M.trans (L5.mod.trans hmod),fun i D' e=>?_,?_,fun D' hD'=>?_,fun i k D1 D2 e1 e2 hne y hy=>?_⟩
  ·rcases ge i D' e with ⟨z,e⟩ | ⟨rfl,rfl⟩
   ·rcases hs i D' e with ⟨o,h1,h2⟩
    exact ⟨o,by rw [aC9,if_neg (by rw [hz];exact Bool.false_ne_true),List.getElem?_append_left (by rw [<- len];exact z)];exact h1,(h2.le L5).mod hmod fun y hy c=>by
     have:=fr D' (List.mem_of_getElem? e) y hy
     rw [List.mem_singleton.mp c] at this
     exact Nat.not_lt.mpr this hlt⟩
   ·refine ⟨(j:Int),by rw [aC9,if_neg (by rw [hz];exact Bool.false_ne_true),len,List.getElem?_append_right (Nat.le_refl _),Nat.sub_self];rfl,hH.mod hmod fun y hy c=>?_⟩
    have:=frD y hy
    rw [List.mem_singleton.mp c] at this
    exact Nat.not_lt.mpr this hlt
  ·rw [aC9,if_neg (by rw [hz];exact Bool.false_ne_true),List.length_append,List.length_append,len];rfl
  ·rcases List.mem_append.mp hD' with h | h
   ·exact fr D' h
   ·rw [List.mem_singleton.mp h];exact frD
  ·rcases ge i D1 e1 with ⟨z1,e1⟩ | ⟨z1,rfl⟩
   ·rcases ge k D2 e2 with ⟨z2,e2⟩ | ⟨z2,rfl⟩
    ·exact dd i k D1 D2 e1 e2 hne y hy
    ·rename_i e0
     exact fun c=>Nat.not_lt.mpr (Df y c) (oldlt i D1 e0 y hy)
   ·rcases ge k D2 e2 with ⟨z2,e2⟩ | ⟨z2,rfl⟩
    ·exact fun c=>Nat.not_lt.mpr (Df y hy) (oldlt k D2 e2 y c)
    ·exact absurd (z1.trans z2.symm) hne
theorem cQ8 (Z:TF S N) (n:Nat) {c:Int} {L:List Int} {q p d h:Nat} {m3:MH} (i3:m3[p]?=some (.inst (N.C+2) [(8,.int c),(26,.ref h)])) (ph:p < h) (hlt:h < m3.length) (hB:∀ x∈B,x.1≠p /\ x.1 < h /\ m3[x.1]?=some x.2) {r:Lo} {m4:MH} (I:TL2 N q p d h c L m3 [] r m4) :
  Wp (exs S (run S (n+3)) [(.asg (.attr (.var 0) 27) (.new (N.C+1) [])),(.asg (.attr (.var 0) 28) (.dict [] []))] r) m4 (cA3 fun u m'=>u=.none /\ Tw m' N p (Tn.new c L) B) nox:=by
 rcases I with ⟨a,ds,e4,x4,el,er,kh,M,hs,len,fr,dd⟩
 subst er
 rw [List.append_nil] at el
 have i4:=M.has i3 fun c=>absurd (List.mem_singleton.mp c) (Nat.ne_of_lt ph)
 have B4:∀ x∈B,m4[x.1]?=some x.2:=fun x hx=>M.has ((hB x hx).2.2) fun c=>absurd (List.mem_singleton.mp c) (Nat.ne_of_lt (hB x hx).2.1)
 rcases Z.post with ⟨dp,hpd,hpx,hpi,y_⟩
 refine aB7 (bE8 (aK ⟨dp,N.ki+9,hpd,hpx,hpi,aX (cE6 Z (n+2) (q:=m4.length) bW) fun u m5 z=>?_⟩))
 rcases z with ⟨hu,k5,k5',M5⟩
 refine ⟨hu,?_⟩
 have L5:Le m4 m5:=by
  refine ⟨Nat.le_trans (by rw [List.length_append];exact Nat.le_add_right _ _) M5.1,fun y hy=>?_⟩
  rw [M5.2 y (by rw [List.length_append];exact Nat.lt_of_lt_of_le hy (Nat.le_add_right _ _)) fun c=>absurd (List.mem_singleton.mp c) (Nat.ne_of_lt hy),List.getElem?_append_left hy]
 rw [List.length_append] at k5 k5'
 have k5:m5[m4.length]?=some (.inst (N.C+1) [(20,.int 0),(21,.ref (m4.length+1))]):=k5
 have k5':m5[m4.length+1]?=some (.dict [] 0):=k5'
 refine aC rfl ⟨p,N.C+2,_,rfl,L5.has i4,?_⟩
 show Wp _ (m5.set p (.inst (N.C+2) [(8,.int c),(26,.ref h),(27,.ref m4.length)])) _ _
 have i6:=bI (o':=.inst (N.C+2) [(8,.int c),(26,.ref h),(27,.ref m4.length)]) (L5.has i4)
 have M6:Mod [p] m5 (m5.set p (.inst (N.C+2) [(8,.int c),(26,.ref h),(27,.ref m4.length)])):=Mod.set (.head _)
 generalize m5.set p (.inst (N.C+2) [(8,.int c),(26,.ref h),(27,.ref m4.length)])=m6 at i6 M6 ⊢
 refine c9 rfl rfl i6 rfl fun m7 i7 n7 f7 L7 M7=>?_
 have le34:=M.1
 have h34:h < m4.length:=Nat.lt_of_lt_of_le hlt le34
 have l6:m4.length+1 < m6.length:=Nat.lt_of_lt_of_le (bJ k5') M6.1
 have up:∀ (y:Nat) (o:MObj),y≠p->m5[y]?=some o->m7[y]?=some o:=fun y o hy k=>f7 y o hy (M6.has k fun c=>hy (List.mem_singleton.mp c))
 have m57:Mod [p] m5 m7:=M6.trans M7
 have pD:∀ D∈ds,∀ y∈D.all,y∉[p]:=fun D hD y hy c=>by
  have:=fr D hD y hy
  rw [List.mem_singleton.mp c] at this
  exact Nat.not_lt.mpr this (Nat.lt_trans ph hlt)
 have Dlt:∀ D∈ds,∀ y∈D.all,y < m4.length:=fun D hD y hy=>by
  rcases List.getElem?_of_mem hD with ⟨i,e⟩
  rcases hs i D e with ⟨o,y_,h2⟩
  exact h2.lt y hy
 have ea:aR5 L a=dU c L:=by unfold dU;rw [el]
 have eo:((dU c L).map (Hs.new c)).map (·.own)=dU c L:=by rw [List.map_map];exact List.map_id _
 refine dE ⟨rfl,⟨p,h,m4.length,m4.length+1,m6.length,ds⟩,rfl,⟨i7,⟨e4,?_⟩,up _ _ (Nat.ne_of_lt (Nat.lt_trans ph h34)).symm k5,⟨0,up _ _ (Nat.ne_of_lt (Nat.lt_trans (Nat.lt_trans ph h34) (Nat.lt_succ_self _))).symm k5'⟩,⟨0,n7⟩,fun i D e=>?_,?_,?_,fun D hD y hy c=>?_,dd⟩,fun x hx=>⟨fun c=>?_,up _ _ (hB x hx).1 (L5.has (B4 x hx))⟩⟩
 ·show m7[h]?=some (.dict (tD _ _ ((((dU c L).map (Hs.new c)).map (·.own)).zip (ds.map (·.p)))) e4)
  rw [eo,<- ea]
  exact up _ _ (Nat.ne_of_lt ph).symm (L5.has kh)
 ·rcases hs i D e with ⟨o,h1,h2⟩
  refine ⟨Hs.new c o,?_,(h2.le L5).mod m57 (pD D (List.mem_of_getElem? e))⟩
  show ((dU c L).map (Hs.new c))[i]?=_
  rw [List.getElem?_map,<- ea,h1];rfl
 ·show ds.length=((dU c L).map (Hs.new c)).length
  rw [List.length_map,<- ea];exact len
 ·exact nd5 ph h34 (Nat.lt_succ_self _) l6
 ·have c:y∈[p,h,m4.length,m4.length+1,m6.length]:=c
  have y1:=fr D hD y hy
  have y2:=Dlt D hD y hy
  simp only [List.mem_cons,List.not_mem_nil,or_false] at c
  rcases c with rfl | rfl | rfl | rfl | rfl
  ·exact Nat.not_lt.mpr y1 (Nat.lt_trans ph hlt)
  ·exact Nat.not_lt.mpr y1 hlt
  ·exact Nat.lt_irrefl _ y2
  ·exact Nat.not_lt.mpr (Nat.le_succ _) y2
  ·exact Nat.lt_irrefl _ (Nat.lt_trans y2 (Nat.lt_trans (Nat.lt_succ_self _) l6))
 ·rcases Td.mem.mp c with c | ⟨D,hD,c⟩
  ·have c:x.1∈[p,h,m4.length,m4.length+1,m6.length]:=c
   have xl:=(hB x hx).2.1
   simp only [List.mem_cons,List.not_mem_nil,or_false] at c
   rcases c with c | c | c | c | c
   ·exact (hB x hx).1 c
   all_goals rw [c] at xl
   ·exact Nat.lt_irrefl _ xl
   ·exact Nat.lt_irrefl _ (Nat.lt_trans xl h34)
   ·exact Nat.lt_irrefl _ (Nat.lt_trans xl (Nat.lt_trans h34 (Nat.lt_succ_self _)))
   ·exact Nat.lt_irrefl _ (Nat.lt_trans xl (Nat.lt_trans h34 (Nat.lt_trans (Nat.lt_succ_self _) l6)))
  ·exact Nat.not_lt.mpr (fr D hD _ c) (Nat.lt_trans (hB x hx).2.1 hlt)
theorem cD0 (Z:TF S N) (n:Nat) {c:Int} {L:List Int} (hp:m[p]?=some (.inst (N.C+2) [])) (hB:∀ x∈B,x.1≠p /\ m[x.1]?=some x.2) (hq:m[q]?=some (.list (L.map V.int))) (c1:1 <= c) (c2:c <= 12) (hL:∀ x∈L,0 <= x /\ x < c) (nd:L.Nodup):Wp (run S (n+4) (N.ki+13) [.ref p,.int c,.ref q]) m (fun u m'=>u=.none /\ Tw m' N p (Tn.new c L) B) nox:=by
 rcases Z.H.gM with ⟨y_,gM⟩
 have en:run S (n+3) N.kN [.int c] m=.ok .none m:=by
  exact eG Z.H.N_ Z.H.W gM (n+1) c1 c2
 have ei:eB S (.ref q) .list m=.ok true m:=by unfold eB;dsimp only;rw [hq];rfl
 have plt:=bJ hp
 refine bF Z.tinit rfl (dS (aH (bA rfl en) (aV (t:=false) (bM (aO (aH8 rfl ei))) (bK (aH (a:=.ref m.length) (m':=m++[.dict [] 0]) rfl ?_)))))
 have l0:Le m (m++[.dict [] 0]):=.app _ _
 have k0:(m++[.dict [] 0])[m.length]?=some (.dict [] 0):=bW
 generalize m++[MObj.dict [] 0]=m0 at l0 k0 ⊢
 refine aH6 L V.int (TL1 q p m.length c L m) (aD (aC rfl (aK (fV (l0.has hq) ⟨rfl,⟨[],0,none,rfl,rfl,k0,l0⟩,?_,?_,?_⟩))))
 ·rintro zs r m' ⟨a,e,x,el,er,kd,l⟩
  exact dR (l.has hq)
 ·rintro z zs r m' ⟨a,e,x,el,er,kd,l⟩
  subst er
  have hz:=hL z (by rw [el];exact List.mem_append_right _ (.head _))
  have za:z∉a:=fun c=>by rw [el] at nd;exact (List.nodup_append.mp nd).2.2 z c z (.head _) rfl
  have al:a.length < lid:=by
   have h1:a.length <= L.length:=by rw [el,List.length_append];exact Nat.le_add_right _ _
   have h2:=bG4 nd hL
   exact Nat.lt_of_le_of_lt (Nat.le_trans h1 (Nat.le_trans h2 (cZ c2))) (by decide)
  refine aC rfl (aV (t:=false) (cJ (aW (x:=false) (bM (aO (bA rfl (bT Z.H.W (n+2) z)))) (aW (x:=false) (aS9 rfl rfl hz.1 hz.2) (aW (x:=false) (aO (aU rfl rfl ?_)) b8)))) ?_)
  ·show inV (.int z) (.ref m.length) m'=_
   rw [aT kd rfl (cU _ _),bG6]
   rw [show (a.any fun y=>y == z)=false from List.any_eq_false.mpr fun x hx e=>za (eq_of_beq e▸hx)]
  ·refine d8 (aC rfl (aC rfl (aC rfl (dX kd (k:=.int z) rfl (cU _ _) (by unfold iD;rw [List.length_map];exact al) ?_))))
   show Wp _ (m'.set m.length (.dict (put (.int z) (.bool true) (iD a)) (e+1))) _ _
   rw [cM5 za]
   exact dE ⟨a++[z],e+1,some (.int z),by rw [el,List.append_assoc];rfl,rfl,bI kd,l.set (Nat.le_refl _) _⟩
 ·rintro r m1 ⟨a,e,x,el,er,kd,l⟩
  subst er
  rw [List.append_nil] at el
  subst el
  have hp1:=l.has hp
  refine aB7 (aC rfl (aC rfl ⟨p,N.C+2,[],rfl,hp1,?_⟩))
  show Wp _ (m1.set p (.inst (N.C+2) [(8,.int c)])) _ _
  have hp2:=bI (o':=.inst (N.C+2) [(8,.int c)]) hp1
  have M2:Mod [p] m1 (m1.set p (.inst (N.C+2) [(8,.int c)])):=Mod.set (.head _)
  generalize m1.set p (.inst (N.C+2) [(8,.int c)])=m2 at hp2 M2 ⊢
  refine c9 rfl rfl hp2 rfl fun m3 i3 n3 f3 L3 M3=>?_
  have i3:m3[p]?=some (.inst (N.C+2) [(8,.int c),(26,.ref m2.length)]):=i3
  have ph:p < m2.length:=Nat.lt_of_lt_of_le (bJ hp1) M2.1
  have dlt:m.length < m1.length:=bJ kd
  have dm:m.length≠p:=(Nat.ne_of_lt plt).symm
  have kd3:m3[m.length]?=some (.dict (iD L) e):=f3 _ _ dm (M2.has kd fun c=>dm (List.mem_singleton.mp c))
  have B3:∀ x∈B,m3[x.1]?=some x.2:=fun x hx=>f3 _ _ (hB x hx).1 (M2.has (l.has (hB x hx).2) fun c=>(hB x hx).1 (List.mem_singleton.mp c))
  have Blt:∀ x∈B,x.1 < m2.length:=fun x hx=>Nat.lt_of_lt_of_le (bJ (l.has (hB x hx).2)) M2.1
  refine aH6 (List.range c.toNat) (fun (j:Nat)=>V.int (0+(j:Int))) (TL2 N q p m.length m2.length c L m3) (aD (aC rfl (aK (aH (bQ3 (Nat.lt_of_lt_of_le (aJ7 (c:=13) (Int.le_trans (by decide) c1) (Int.lt_of_le_of_lt c2 (by decide:(12:Int) < 13)) (by decide)) (by decide))) ⟨rfl,⟨[],[],0,x,rfl,rfl,n3,Mod.refl _ _,fun y_ y_ h=>absurd h (by simp),rfl,fun y_ h=>absurd h List.not_mem_nil,fun y_ y_ y_ y_ h=>absurd h (by simp)⟩,fun y_ y_ y_ y_=>rfl,?_,?_⟩))))
  ·exact fun j js r m4 I=>cC9 Z n c1 c2 i3 ph (bJ n3) kd3 (Nat.ne_of_lt (Nat.lt_of_lt_of_le dlt M2.1)) I
  ·exact fun r m4 I=>cQ8 Z n i3 ph (bJ n3) (fun x hx=>⟨(hB x hx).1,Blt x hx,B3 x hx⟩) I
end
end Mini.Internal
namespace Mini.Internal
open PySem
noncomputable abbrev Thr {α:Type} (x:Mn α) (m:MH) (c:Nat):Prop:=Wp x m (fun y_ y_=>False) (fun d m'=>d=c /\ m'=m)
theorem bG {α:Type} {x:Mn α} {m:MH} {c:Nat} {Q:α->MH->Prop} {E:Nat->MH->Prop} (h:Thr x m c) (e:E c m):Wp x m Q E:=wp_mono h (fun y_ y_ q=>q.elim) fun d m' q=>by rw [q.1,q.2];exact e
theorem aG9 {α:Type} {x:Mn α} {m:MH} {c:Nat} {Q:α->MH->Prop} (h:Thr x m c):Wp x m Q (fun d m'=>d=c /\ m'=m):=bG h ⟨rfl,rfl⟩
section
variable {S:Sig} {N:HN} {m:MH} {T:Td} {t:Tn} {p b i:Nat} {B:List (Nat×MObj)} {s:Hs} {v:V}
noncomputable def Nh (t:Tn) (v:V):Prop:=∀ k,v=.int k->∀ s∈t.hs,s.own≠k
noncomputable def Nl (t:Tn) (v:V):Prop:=∀ k,v=.int k->∀ x∈t.lets,x.1≠k
theorem aA6 {F:Fns} {r:Lo} {e:CE} {bs:List CB} {kW n:Nat} (hW:b9 S kW 1 1 eQ) (hF:F=run S (n+1)) (he:ev S F e r m=.ok v m) (hv:Pl m v) (h:∀ k,v=.int k->aW1 S F false bs r m=.ok true m):evT S F (.all false ((.not (.val (.call kW [e])))::bs)) r m=.ok true m:=by
 subst hF
 have ew:evT S (run S (n+1)) (.not (.val (.call kW [e]))) r m=.ok (!vW v) m:=bM (aO (bA he (aA7 hW n hv)))
 cases hq:vW v with
 | false=>rw [hq] at ew;exact cJ (aP0 ew)
 | true=>
  rcases cA9 hq with ⟨k,rfl⟩
  exact cJ (aW (x:=false) (by rw [ew];rfl) (h k rfl))
theorem aC8 (Z:TF S N) (n:Nat) (h:To m N T t) (hv:Pl m v) (hb:Nh t v):Thr (run S (n+2) (N.ki+14) [.ref T.p,v]) m N.cH:=by
 rcases h.hd with ⟨ed,kd⟩
 refine bF Z.honest rfl (aV (aA6 (n:=n) Z.H.W rfl rfl hv fun k e=>?_) (aK0 ⟨rfl,rfl⟩))
 subst e
 refine aW (x:=true) (aO (aU rfl (aN rfl h.inst rfl) ?_)) b8
 show Res.bind (inV (.int k) (.ref T.h) m) _=_
 rw [aT kd rfl (bC _ _ _ _)]
 show Res.ok (!(bX (.int k) (cA2 t T)).isSome) m=_
 rw [aQ0 (hb k rfl)];rfl
theorem aH1 (Z:TF S N) (n:Nat) {w:V} (H:Tw m N p t B) (hv:Pl m v) (hb:Nh t v):Thr (run S (n+3) (N.ki+16) [.ref p,v,w]) m N.cH:=by
 rcases id H with ⟨T,rfl,h1,hB⟩
 exact bF Z.tcall rfl (bK (bQ (bB Z H rfl rfl rfl (aC rfl (aG9 (aC8 Z n h1 hv hb))))))
theorem aL6 (Z:TF S N) (n:Nat) (H:Tw m N p t B) (hv:Pl m v) (hb:Nh t v):Thr (run S (n+3) (N.ki+21) [.ref p,v]) m N.cH:=by
 rcases id H with ⟨T,rfl,h1,hB⟩
 exact bF Z.tledger rfl (a9 (bQ (bB Z H rfl rfl rfl (aC rfl (aG9 (aC8 Z n h1 hv hb))))))
theorem aL7 (Z:TF S N) (n:Nat) (H:Tw m N p t B) (hv:Pl m v) (hb:Nh t v):Thr (run S (n+3) (N.ki+23) [.ref p,v]) m N.cH:=by
 rcases id H with ⟨T,rfl,h1,hB⟩
 exact bF Z.tcaught rfl (a9 (bQ (bB Z H rfl rfl rfl (aC rfl (aG9 (aC8 Z n h1 hv hb))))))
theorem aE1 (Z:TF S N) (n:Nat) {w:V} (H:Tw m N p t B) (hv:Pl m v) (hb:Nh t v):Thr (run S (n+3) (N.ki+22) [.ref p,v,w]) m N.cH:=by
 rcases id H with ⟨T,rfl,h1,hB⟩
 exact bF Z.tbacking rfl (a9 (bQ (bB Z H rfl rfl rfl (aC rfl (aG9 (aC8 Z n h1 hv hb))))))
theorem aS1 (Z:TF S N) (n:Nat) (H:Tw m N p t B) (O:t.Ok b) (hs:t.hs[i]?=some s) (hv:Pl m v) (hb:(match v with | .int k=>!s.wrote k | _=>true)=true):Thr (run S (n+3) (N.ki+22) [.ref p,.int s.own,v]) m N.cN:=by
 rcases id H with ⟨T,rfl,h1,hB⟩
 rcases fK Z n h1 O.on hs with ⟨D,hD,hH,eh⟩
 rcases Z.H.cls with ⟨dh,hd,hx,hi,hm⟩
 exact bF Z.tbacking rfl (a9 (bQ (bB Z H rfl rfl rfl (aC rfl (aH eh ⟨D.p,N.C,_,dh,N.ki+7,rfl,hH.inst,hd,rfl,hm 6 (by decide),aC rfl (aG9 (bL6 Z.H n hH hv hb))⟩)))))
theorem bP9 (Z:TF S N) (n:Nat) (H:Tw m N p t B) (O:t.Ok b) (hs:t.hs[i]?=some s) (hv:Pl m v) (hb:aF5 v=false):Thr (run S (n+8) (N.ki+16) [.ref p,.int s.own,v]) m N.cR:=by
 rcases id H with ⟨T,rfl,h1,hB⟩
 rcases fK Z (n+5) h1 O.on hs with ⟨D,hD,hH,eh⟩
 rcases Z.H.cls with ⟨dh,hd,hx,hi,hm⟩
 exact bF Z.tcall rfl (bK (bQ (bB Z H rfl rfl rfl (aC rfl (aH eh ⟨D.p,N.C,_,dh,N.ki+1,rfl,hH.inst,hd,rfl,hm 0 (by decide),aC rfl (aG9 (cY3 Z.H n hv hb))⟩)))))
theorem bS8 (Z:TF S N) (n:Nat) (h:To m N T t) (hv:Pl m v) (hb:Nl t v):Thr (run S (n+2) (N.ki+11) [.ref T.o,v]) m (N.cR+3):=by
 rcases h.le with ⟨e,kd⟩
 refine bF Z.pbring rfl (aV (aA6 (n:=n) Z.H.W rfl rfl hv fun k e=>?_) (aK0 ⟨rfl,rfl⟩))
 subst e
 refine aW (x:=true) (aO (aU rfl (aN rfl h.po rfl) ?_)) b8
 show Res.bind (inV (.int k) (.ref T.l) m) _=_
 rw [aT kd rfl (bC _ _ _ _)]
 show Res.ok (!(bX (.int k) (aP9 t.lets)).isSome) m=_
 rw [aP9,dH,List.any_eq_false.mpr fun x hx c=>hb k rfl x hx (eq_of_beq c)];rfl
theorem aB0 (Z:TF S N) (n:Nat) (H:Tw m N p t B) (hv:Pl m v) (hb:Nl t v):Thr (run S (n+3) (N.ki+17) [.ref p,v]) m (N.cR+3):=by
 rcases id H with ⟨T,rfl,h1,hB⟩
 rcases Z.post with ⟨y_,hpd,y_,y_,y_,hm1,y_⟩
 exact bF Z.tbring rfl (bK (bQ (aH (aN rfl h1.inst rfl) ⟨T.o,N.C+1,_,_,N.ki+11,rfl,h1.po,hpd,rfl,hm1,aC rfl (aG9 (bS8 Z n h1 hv hb))⟩)))
theorem aZ2 {F:Fns} {r:Lo} {a c:CE} {x y:Int} (ha:ev S F a r m=.ok (.int x) m) (hc:ev S F c r m=.ok (.int y) m):evT S F (.not (.val (.cmp (.cnst (Lt.int 0)) [.LtE,.Lt] [a,c]))) r m=.ok (!(decide (0 <= x)&&decide (x < y))) m:=
 bM (aO (aC1 (S:=S) (F:=F) (r:=r) (m:=m) (a:=.cnst (Lt.int 0)) (o:=.LtE) (o':=.Lt) (t:=decide (0 <= x)) (u:=decide (x < y)) rfl ha hc rfl rfl))
noncomputable def Nli (t:Tn) (v:V):Prop:=∀ k,v=.int k->(0 <= k /\ k < t.cnt)->∃ s∈t.hs,s.own=k
theorem bU8 (Z:TF S N) (n:Nat) {w u:V} (H:Tw m N p t B) (O:t.Ok b) (hv:Pl m v) (hb:Nli t v):Thr (run S (n+4) (N.ki+18) [.ref p,v,w,u]) m N.cH:=by
 rcases id H with ⟨T,rfl,h1,hB⟩
 rcases h1.hd with ⟨ed,kd⟩
 refine bF Z.lie rfl (aV (aA6 (n:=n+2) Z.H.W rfl rfl hv fun k e=>?_) (aK0 ⟨rfl,rfl⟩))
 subst e
 have e1:=aZ2 (S:=S) (F:=run S (n+3)) (r:=[some (.ref T.p),some (.int k),some w,some u]) (a:=.var 1) (c:=.attr (.var 0) 8) (x:=k) (y:=t.cnt) rfl (aN rfl h1.inst rfl)
 by_cases z:0 <= k /\ k < t.cnt
 ·rw [decide_eq_true z.1,decide_eq_true z.2] at e1
  refine aW (x:=false) e1 (aW (x:=true) (aO (aU rfl (aN rfl h1.inst rfl) ?_)) b8)
  show inV (.int k) (.ref T.h) m=_
  rw [aT kd rfl (bC _ _ _ _)]
  rcases hb k rfl z with ⟨s,hs,e⟩
  rcases List.getElem?_of_mem hs with ⟨j,hj⟩
  rcases aQ1 h1.len O.on hj with ⟨D,y_,el⟩
  rw [e] at el
  rw [el];rfl
 ·have:(!(decide (0 <= k)&&decide (k < t.cnt)))=true:=by
   rw [Bool.not_eq_true',Bool.and_eq_false_iff,decide_eq_false_iff_not,decide_eq_false_iff_not]
   exact Classical.not_and_iff_not_or_not.mp z
  rw [this] at e1
  exact aP0 e1
noncomputable def Nr (t:Tn) (h:Int) (v:V):Prop:=∀ k,v=.int k->(0 <= k /\ k < t.cnt)->k=h
theorem bU5 (Z:TF S N) (n:Nat) {h:Int} {w u:V} {Q:V->MH->Prop} {E:Nat->MH->Prop} (h1:To m N T t) (h0:0 <= h) (hc:h < t.cnt) (hl:∀ s∈t.hs,s.own≠h)
  (q:Wp (exs S (run S (n+3)) ((cJ9 N.kW (N.kR+2) N.cH (N.cR+1) (N.cR+2)).drop 1) [some (.ref T.p),some (.int h),some w,some u]) m (cA3 Q) E):Wp (run S (n+4) (N.ki+18) [.ref T.p,.int h,w,u]) m Q E:=by
 rcases h1.hd with ⟨ed,kd⟩
 refine bF Z.lie rfl (aV (t:=false) (cJ (aW (x:=false) (bM (aO (bA rfl (bT Z.H.W (n+2) h)))) (aW (x:=false) (aS9 rfl (aN rfl h1.inst rfl) h0 hc) (aW (x:=false) (aO (aU rfl (aN rfl h1.inst rfl) ?_)) b8)))) q)
 show inV (.int h) (.ref T.h) m=_
 rw [aT kd rfl (bC _ _ _ _)]
 show Res.ok ((bX (.int h) (cA2 t T)).isSome) m=_
 rw [aQ0 hl]
theorem bU7 (Z:TF S N) (n:Nat) {h:Int} {u:V} (H:Tw m N p t B) (h0:0 <= h) (hc:h < t.cnt) (hl:∀ s∈t.hs,s.own≠h) (hv:Pl m v) (hb:Nr t h v):Thr (run S (n+4) (N.ki+18) [.ref p,.int h,v,u]) m N.cH:=by
 rcases id H with ⟨T,rfl,h1,hB⟩
 refine bU5 Z n h1 h0 hc hl (aV (aA6 (n:=n+2) Z.H.W rfl rfl hv fun k e=>?_) (aK0 ⟨rfl,rfl⟩))
 subst e
 have e1:=aZ2 (S:=S) (F:=run S (n+3)) (r:=[some (.ref T.p),some (.int h),some (.int k),some u]) (a:=.var 2) (c:=.attr (.var 0) 8) (x:=k) (y:=t.cnt) rfl (aN rfl h1.inst rfl)
 by_cases z:0 <= k /\ k < t.cnt
 ·rw [decide_eq_true z.1,decide_eq_true z.2] at e1
  refine aW (x:=false) e1 (aW (x:=true) (aO (aU rfl rfl ?_)) b8)
  show Res.ok (k == h) m=_
  rw [hb k rfl z,beq_self_eq_true]
 ·have:(!(decide (0 <= k)&&decide (k < t.cnt)))=true:=by
   rw [Bool.not_eq_true',Bool.and_eq_false_iff,decide_eq_false_iff_not,decide_eq_false_iff_not]
   exact Classical.not_and_iff_not_or_not.mp z
  rw [this] at e1
  exact aP0 e1
theorem bU4 (Z:TF S N) (n:Nat) {h r:Int} {u:V} {Q:V->MH->Prop} {E:Nat->MH->Prop} (h1:To m N T t) (h0:0 <= h) (hc:h < t.cnt) (hl:∀ s∈t.hs,s.own≠h) (r0:0 <= r) (r1:r < t.cnt) (hr:r≠h)
  (q:Wp (exs S (run S (n+3)) ((cJ9 N.kW (N.kR+2) N.cH (N.cR+1) (N.cR+2)).drop 2) [some (.ref T.p),some (.int h),some (.int r),some u]) m (cA3 Q) E):Wp (run S (n+4) (N.ki+18) [.ref T.p,.int h,.int r,u]) m Q E:=by
 refine bU5 Z n h1 h0 hc hl (aV (t:=false) (cJ (aW (x:=false) (bM (aO (bA rfl (bT Z.H.W (n+2) r)))) (aW (x:=false) (aS9 rfl (aN rfl h1.inst rfl) r0 r1) (aW (x:=false) (aO (aU rfl rfl ?_)) b8)))) q)
 show Res.ok (r == h) m=_
 rw [beq_eq_false_iff_ne.mpr hr]
theorem cU4 (Z:TF S N) (n:Nat) {h r:Int} {u:V} (H:Tw m N p t B) (O:t.Ok b) (h0:0 <= h) (hc:h < t.cnt) (hl:∀ s∈t.hs,s.own≠h) (r0:0 <= r) (r1:r < t.cnt) (hr:r≠h) (hu:Th m u) (hw:isW t.cnt u=false):Thr (run S (n+4) (N.ki+18) [.ref p,.int h,.int r,u]) m (N.cR+1):=by
 rcases id H with ⟨T,rfl,h1,hB⟩
 rcases Z.H.gM with ⟨y_,gM⟩
 rcases Z.gN with ⟨y_,gN⟩
 rcases Z.H.gL with ⟨y_,gL⟩
 rcases Z.H.gS with ⟨y_,gS⟩
 have ew:=bK4 (m:=m) Z.word Z.H.N_ Z.H.W Z.H.R Z.caller gM gN gL gS n O.c1 O.c2 hu
 rw [hw] at ew
 refine bU4 Z n h1 h0 hc hl r0 r1 hr (aV (t:=true) (bM (aO (eD (vs:=[.int t.cnt,u]) ?_ ew))) (aK0 ⟨rfl,rfl⟩))
 show Res.bind (ev S _ (.attr (.var 0) 8) _ m) _=_
 rw [aN (v:=.int t.cnt) rfl h1.inst rfl];rfl
theorem bU6 (Z:TF S N) (n:Nat) {h r:Int} {w:Wo} (H:Tw m N p t B) (O:t.Ok b) (h0:0 <= h) (hc:h < t.cnt) (hl:∀ s∈t.hs,s.own≠h) (r0:0 <= r) (r1:r < t.cnt) (hr:r≠h) (hw:w.Ok t.cnt) (h4:w.h≠h) (h5:w∉t.said):Thr (run S (n+4) (N.ki+18) [.ref p,.int h,.int r,w.v]) m (N.cR+2):=by
 rcases id H with ⟨T,rfl,h1,hB⟩
 rcases Z.H.gM with ⟨y_,gM⟩
 rcases Z.gN with ⟨y_,gN⟩
 rcases Z.H.gL with ⟨y_,gL⟩
 rcases Z.H.gS with ⟨y_,gS⟩
 rcases h1.sa with ⟨es,ks⟩
 have ew:run S (n+3) _ [.int t.cnt,w.v] m=.ok (.bool true) m:=aR6 Z.word Z.H.N_ Z.H.W Z.H.R Z.caller gM gN gL gS n O.c1 O.c2 hw.k hw.n0 hw.n1 hw.r hw.h0 hw.h1 hw.c
 refine bU4 Z n h1 h0 hc hl r0 r1 hr (aV (t:=false) (bM (aO (eD (vs:=[.int t.cnt,w.v]) ?_ ew))) ?_)
 ·show Res.bind (ev S _ (.attr (.var 0) 8) _ m) _=_
  rw [aN (v:=.int t.cnt) rfl h1.inst rfl];rfl
 refine aV (t:=true) (cJ (bE5 (x:=true) (aO (aU rfl rfl ?_)) (bE5 (x:=true) (aO (aU rfl (aN rfl h1.inst rfl) ?_)) b8))) (aK0 ⟨rfl,rfl⟩)
 ·show Res.ok (!(w.h == h)) m=_
  rw [beq_eq_false_iff_ne.mpr h4];rfl
 ·show Res.bind (inV w.v (.ref T.s) m) _=_
  rw [aT ks (k:=w.ky) rfl (cT _ _),aI4,decide_eq_false h5];rfl
end
end Mini.Internal
namespace Mini.Internal
open PySem
noncomputable def Tn.As (t:Tn):Prop:=(t.lets.map (·.1)).Pairwise (· < ·) /\ ∀ x∈t.lets,x.1 < t.given
theorem Tn.As.send {t:Tn} (h:t.As) (l:Lr):(t.send l).As:=by
 refine ⟨?_,fun x hx=>?_⟩
 ·show ((t.lets++[(t.given,l)]).map (·.1)).Pairwise _
  rw [List.map_append]
  refine List.pairwise_append.mpr ⟨h.1,List.pairwise_singleton _ _,fun a ha b hb=>?_⟩
  rcases List.mem_map.mp ha with ⟨x,hx,rfl⟩
  rw [List.mem_singleton.mp hb]
  exact h.2 x hx
 ·rcases List.mem_append.mp hx with hx | hx
  ·exact Int.lt_trans (h.2 x hx) (Int.lt_succ _)
  ·rw [List.mem_singleton.mp hx];exact Int.lt_succ _
theorem aY3 {P:Tn->Prop} {h:Int} {w:Wo} (hs:∀ (t:Tn) (j:Nat),P t->P (t.send ⟨h,j,w⟩)):∀ (l:List Nat) {t:Tn},P t->P (l.foldl (Tn.to h w) t)
 | [],_,a=>a
 | j::l,t,a=>aY3 hs l (by
  unfold Tn.to
  split
  ·exact a
  ·exact hs t j a)
theorem aA9 {P:Tn->Prop} {h:Int}:∀ {ws:List Wo} (_:∀ w∈ws,(∀ t:Tn,P t->P (t.say w)) /\ ∀ (t:Tn) (j:Nat),P t->P (t.send ⟨h,j,w⟩)) {t:Tn},P t->P (t.tell h ws)
 | [],_,_,a=>a
 | w::ws,hs,t,a=>aA9 (ws:=ws) (fun w q=>hs w (.tail _ q)) (aY3 (hs w (.head _)).2 _ ((hs w (.head _)).1 t a))
theorem Tn.As.tell {h:Int} {ws:List Wo} {t:Tn} (a:t.As):(t.tell h ws).As:=aA9 (P:=Tn.As) (fun w y_=>⟨fun t a=>a,fun t j a=>a.send _⟩) a
theorem bD5 {h:Int} {x:Int×Lr} {ws:List Wo} {t:Tn} (a:x∈t.lets):x∈(t.tell h ws).lets:=aA9 (P:=fun t=>x∈t.lets) (fun w y_=>⟨fun t a=>a,fun t j a=>List.mem_append_left _ a⟩) a
theorem aH0 {h:Int} {ws:List Wo} {t:Tn}:t.given <= (t.tell h ws).given /\ ∀ x∈(t.tell h ws).lets,x∈t.lets \/ (t.given <= x.1 /\ x.2.w∈ws):=
 aA9 (P:=fun u=>t.given <= u.given /\ ∀ x∈u.lets,x∈t.lets \/ (t.given <= x.1 /\ x.2.w∈ws)) (fun w hw=>⟨fun u a=>a,fun u j a=>⟨Int.le_trans a.1 (Int.le_of_lt (Int.lt_succ _)),fun x hx=>by
  rcases List.mem_append.mp hx with hx | hx
  ·exact a.2 x hx
  ·rw [List.mem_singleton.mp hx];exact .inr ⟨a.1,hw⟩⟩⟩) ⟨Int.le_refl _,fun x hx=>.inl hx⟩
theorem bP8 {h:Int} {ws:List Wo} {t:Tn} (a:t.given=t.lets.length):(t.tell h ws).given=(t.tell h ws).lets.length:=
 aA9 (P:=fun u=>u.given=u.lets.length) (fun w y_=>⟨fun t a=>a,fun t j a=>by
  show t.given+1=((t.lets++[_]).length:Int)
  rw [a,List.length_append];rfl⟩) a
theorem bP1 {h:Int} {w:Wo} {j:Nat} (hj:(j:Int)≠h):∀ {l:List Nat} {t:Tn},j∈l->∃ k,(k,Lr.mk h j w)∈(l.foldl (Tn.to h w) t).lets
 | i::l,t,q=>by
  rcases List.mem_cons.mp q with q | q
  ·subst q
   refine ⟨t.given,aY3 (P:=fun t'=>(t.given,Lr.mk h j w)∈t'.lets) (fun t y_ a=>List.mem_append_left _ a) l ?_⟩
   unfold Tn.to
   rw [if_neg hj]
   exact List.mem_append_right _ (.head _)
  ·exact bP1 (l:=l) hj q
theorem cD2 {h:Int} {w:Wo} {ws:List Wo} {t:Tn} {j:Nat} (hj:(j:Int)≠h) (hc:(j:Int) < t.cnt):∃ k,(k,Lr.mk h j w)∈(t.tell h (w::ws)).lets:=by
 rcases bP1 (w:=w) hj (t:=t.say w) (l:=List.range t.cnt.toNat) (List.mem_range.mpr (Int.ofNat_lt.mp (Int.lt_of_lt_of_le hc (Int.self_le_toNat _)))) with ⟨k,e⟩
 exact ⟨k,bD5 (ws:=ws) e⟩
theorem Tn.Ok.mono {t:Tn} {b c:Nat} (h:t.Ok b) (k:b <= c):t.Ok c:=⟨h.lk.mono k,h.c1,h.c2,h.on,fun s q=>⟨(h.hc s q).1,Nat.le_trans (h.hc s q).2 k⟩,h.as⟩
section
variable {t:Tn} {L:List Int} {b i:Nat} {s:Hs}
theorem Tn.Ok.turn (O:t.Ok b) (hs:t.hs[i]?=some s) {x:Hs×List Wo} (ho:x.1.own=s.own) (hc:x.1.cnt=s.cnt) (hz:x.1.sz <= s.sz+5) (hl:x.2.length <= 16):(t.turn i x).Ok (b+300):=by
 have hsm:=List.mem_of_getElem? hs
 have sc:=O.hc s hsm
 have O1:Tn.Lk { t with hs:=t.hs.set i x.1 } b:=⟨O.lk.lt,O.lk.ll,O.lk.sl⟩
 have cn:(t.turn i x).cnt=t.cnt:=(cE _ _ _).1
 have eh:(t.turn i x).hs=t.hs.set i x.1:=(cE _ _ _).2.1
 refine ⟨(Tn.Lk.tell x.1.own x.2 O1 O.c2).mono (Nat.add_le_add_left (Nat.le_trans (Nat.mul_le_mul_left 13 hl) (by decide)) b),by rw [cn];exact O.c1,by rw [cn];exact O.c2,?_,fun y hy=>?_,(Tn.As.tell (t:={ t with hs:=t.hs.set i x.1 }) ⟨O.as,O.lk.lt⟩).1⟩
 ·rw [eh,List.map_set,ho,aF2 (by rw [List.getElem?_map,hs];rfl)];exact O.on
 ·rw [cn]
  rw [eh] at hy
  rcases List.mem_or_eq_of_mem_set hy with hy | rfl
  ·exact ⟨(O.hc y hy).1,Nat.le_trans (O.hc y hy).2 (Nat.le_add_right _ _)⟩
  ·exact ⟨hc.trans sc.1,Nat.le_trans hz (Nat.add_le_add sc.2 (by decide))⟩
theorem bD4 (hs:t.hs[i]?=some s) {x:Hs×List Wo} (ho:x.1.own=s.own):(t.turn i x).hs.map (·.own)=t.hs.map (·.own):=by
 rw [show (t.turn i x).hs=t.hs.set i x.1 from (cE _ _ _).2.1,List.map_set,ho,aF2 (by rw [List.getElem?_map,hs];rfl)]
theorem Tn.Ok.hear (O:t.Ok b) (hs:t.hs[i]?=some s) (w:Wo):(t.turn i (s.hear w)).Ok (b+300):=by
 have hc:=eJ s w
 have sc:=O.hc s (List.mem_of_getElem? hs)
 exact O.turn hs hc.2.1 hc.1 hc.2.2.2.1 (Nat.le_trans hc.2.2.2.2 (Nat.le_trans (Nat.add_le_add_right (cZ (show s.cnt <= 12 by rw [sc.1];exact O.c2)) 3) (by decide)))
theorem Tn.Ok.call (O:t.Ok b) (hs:t.hs[i]?=some s) (r:Str):(t.turn i (s.call r)).Ok (b+300):=by
 have hc:=eJ { s with onw:=s.onw+s.cnt } ⟨cY,s.onw,r,s.own⟩
 have sc:=O.hc s (List.mem_of_getElem? hs)
 refine O.turn hs hc.2.1 hc.1 hc.2.2.2.1 ?_
 show (_::(Hs.hear _ _).2).length <= 16
 rw [List.length_cons]
 exact Nat.succ_le_succ (Nat.le_trans hc.2.2.2.2 (Nat.add_le_add_right (cZ (show s.cnt <= 12 by rw [sc.1];exact O.c2)) 3))
theorem Tn.Ok.take (O:t.Ok b) (k:Int):(t.take k).Ok b:=⟨⟨fun x hx=>O.lk.lt x (List.mem_filter.mp hx).1,Nat.le_trans (List.length_filter_le _ _) O.lk.ll,O.lk.sl⟩,O.c1,O.c2,O.on,O.hc,List.Pairwise.sublist (List.Sublist.map _ List.filter_sublist) O.as⟩
theorem Tn.Ok.lie (O:t.Ok b) (w:Wo) (l:Lr):((t.say w).send l).Ok (b+2):=⟨(O.lk.say w).send _,O.c1,O.c2,O.on,fun s q=>⟨(O.hc s q).1,Nat.le_trans (O.hc s q).2 (Nat.le_add_right _ _)⟩,(Tn.As.send (t:=t.say w) ⟨O.as,O.lk.lt⟩ _).1⟩
theorem bC7 {x:Int} {L:List Int}:(L.any fun y=>y == x)=decide (x∈L):=by
 rw [Bool.eq_iff_iff,decide_eq_true_iff,List.any_eq_true]
 exact ⟨fun ⟨y,h,e⟩=>eq_of_beq e▸h,fun h=>⟨x,h,beq_self_eq_true x⟩⟩
theorem hon_iff {c:Int} {x:Int}:x∈dU c L↔0 <= x /\ x < c /\ x∉L:=by
 unfold dU aR5
 rw [List.mem_filter,List.mem_map,bC7,Bool.not_eq_true',decide_eq_false_iff_not]
 constructor
 ·rintro ⟨⟨j,hj,rfl⟩,h⟩
  have:=List.mem_range.mp hj
  exact ⟨Int.natCast_nonneg _,Int.lt_toNat.mp this,h⟩
 ·rintro ⟨h0,h1,h2⟩
  exact ⟨⟨x.toNat,List.mem_range.mpr ((Int.toNat_lt_toNat (Int.lt_of_le_of_lt h0 h1)).mpr h1),Int.toNat_of_nonneg h0⟩,h2⟩
theorem cM6 (c:Int) (L:List Int):(dU c L).Nodup:=by
 unfold dU aR5
 refine List.Pairwise.filter _ ?_
 refine List.pairwise_map.mpr ?_
 refine List.Pairwise.imp (R:=fun a b=>a≠b) ?_ List.nodup_range
 intro a b q e
 exact q (Int.ofNat_inj.mp e)
theorem bT4 (c:Int) (L:List Int):(Tn.new c L).hs.map (·.own)=dU c L:=by
 show ((dU c L).map (Hs.new c)).map (·.own)=_
 rw [List.map_map];exact List.map_id _
theorem cL7 {c:Int} {L:List Int} (c1:1 <= c) (c2:c <= 12):(Tn.new c L).Ok 0:=by
 refine ⟨⟨fun x q=>absurd q List.not_mem_nil,Nat.le_refl _,Nat.le_refl _⟩,c1,c2,by rw [bT4];exact cM6 c L,fun s hs=>?_,List.Pairwise.nil⟩
 rcases List.mem_map.mp hs with ⟨o,ho,rfl⟩
 exact ⟨rfl,Nat.le_refl _⟩
theorem bG7 {c o k:Int} {w:Wo} (hc:4 <= c) (hw:w.k=cY):(⟨c,o,k,[],[],[],[]⟩:Hs).hear w=(⟨c,o,k,fA (mrk w.n w.r o) [w],[w.n],[],[]⟩,[mrk w.n w.r o]):=by
 have e1:(⟨c,o,k,[w],[],[],[]⟩:Hs).marking w=(⟨c,o,k,fA (mrk w.n w.r o) [w],[w.n],[],[]⟩,[mrk w.n w.r o]):=if_neg fun h=>h.elim (fun h=>h hw) fun h=>absurd h List.not_mem_nil
 have e2:(⟨c,o,k,fA (mrk w.n w.r o) [w],[w.n],[],[]⟩:Hs).writing w.n w.r=(⟨c,o,k,fA (mrk w.n w.r o) [w],[w.n],[],[]⟩,[]):=by
  refine if_pos (.inl ?_)
  have nd:(Hs.marks ⟨c,o,k,fA (mrk w.n w.r o) [w],[w.n],[],[]⟩ w.n w.r).Nodup:=by
   unfold Hs.marks
   refine List.Pairwise.filter _ (List.pairwise_map.mpr (List.Pairwise.imp (R:=fun a b=>a≠b) ?_ List.nodup_range))
   exact fun {a b} q e=>q (Int.ofNat_inj.mp (congrArg Wo.h e))
  have ln:=nd.length_le_of_subset (l₂:=fA (mrk w.n w.r o) [w]) fun x hx=>of_decide_eq_true (List.mem_filter.mp hx).2
  have l2:=aR4 (mrk w.n w.r o) [w]
  have l3:(Hs.marks ⟨c,o,k,fA (mrk w.n w.r o) [w],[w.n],[],[]⟩ w.n w.r).length <= 2:=Nat.le_trans ln l2
  refine Int.lt_of_le_of_lt (Int.ofNat_le.mpr l3) ?_
  show (2:Int) < aD7 c
  have a:1 <= (c - 1) / 3:=Int.le_ediv_of_mul_le (by decide) (Int.le_sub_right_of_add_le hc)
  have b:2 <= (c+(c - 1) / 3) / 2:=Int.le_ediv_of_mul_le (by decide) (Int.le_trans (by decide:(2 * 2:Int) <= 4+1) (Int.add_le_add hc a))
  exact Int.lt_add_one_of_le b
 unfold Hs.hear
 rw [if_neg (show ¬ w∈([]:List Wo) from List.not_mem_nil)]
 show (let a:=(⟨c,o,k,[w],[],[],[]⟩:Hs).marking w;let b:=a.1.writing w.n w.r;let c:=b.1.naming w [];(c.1,a.2++b.2++c.2))=_
 rw [e1]
 dsimp only
 rw [e2];rfl
theorem cJ7 {c o:Int} {r:Str} (hc:4 <= c):(Hs.new c o).call r=(⟨c,o,o+c,fA (mrk o r o) [⟨cY,o,r,o⟩],[o],[],[]⟩,[⟨cY,o,r,o⟩,mrk o r o]):=by
 have:=bG7 (c:=c) (o:=o) (k:=o+c) (w:=⟨cY,o,r,o⟩) hc rfl
 unfold Hs.call
 show (let a:=(⟨c,o,o+c,[],[],[],[]⟩:Hs).hear ⟨cY,o,r,o⟩;(a.1,(⟨cY,o,r,o⟩:Wo)::a.2))=_
 rw [this]
theorem mem_addW {w x:Wo} {l:List Wo}:x∈fA w l↔x=w \/ x∈l:=by
 unfold fA
 split
 ·exact ⟨.inr,fun h=>h.elim (fun e=>e▸‹_›) id⟩
 ·rw [List.mem_append,List.mem_singleton,Or.comm]
theorem bF3 {x:Wo}:∀ {ws l:List Wo},x∈ws.foldl (fun l w=>fA w l) l↔x∈l \/ x∈ws
 | [],l=>⟨.inl,fun h=>h.elim id fun h=>absurd h List.not_mem_nil⟩
 | w::ws,l=>by
  rw [List.foldl_cons,bF3 (ws:=ws),mem_addW,List.mem_cons,Or.comm (a:=x=w),or_assoc]
theorem turn_said {x:Hs×List Wo} {w:Wo}:w∈(t.turn i x).said↔w∈t.said \/ w∈x.2:=by
 rw [show (t.turn i x).said=x.2.foldl (fun l w=>fA w l) t.said from (cE _ _ _).2.2]
 exact bF3
end
end Mini.Internal
namespace Mini.Internal
open PySem
section
variable {S:Sig} {N:HN} {m:MH} {p q:Nat} {B:List (Nat×MObj)}
theorem bP6 (Z:TF S N) (n:Nat) {v w x:V} (hv:Pl m v) (hb:isC v=false):Thr (run S (n+3) (N.ki+13) [x,v,w]) m N.cC:=by
 rcases Z.H.gM with ⟨y_,gM⟩
 have en:=bT5 Z.H.N_ Z.H.W gM n hv
 rw [hb] at en
 exact bF Z.tinit rfl (dS (bD (aC rfl (cK4 en ⟨rfl,rfl⟩))))
theorem bP5 (Z:TF S N) (n:Nat) {c:Int} {v x:V} (c1:1 <= c) (c2:c <= 12) (hi:eB S v .list m=.ok false m):Thr (run S (n+3) (N.ki+13) [x,.int c,v]) m N.cH:=by
 rcases Z.H.gM with ⟨y_,gM⟩
 exact bF Z.tinit rfl (dS (aH (bA rfl (eG Z.H.N_ Z.H.W gM n c1 c2)) (aV (t:=true) (bM (aO (aH8 rfl hi))) (aK0 ⟨rfl,rfl⟩))))
inductive TLx (q d:Nat) (x:V) (c:Int) (L:List Int) (z:V) (ys:List V) (m:MH) (vs:List V) (r:Lo) (m':MH):Prop
 | mk (a b:List Int) (e:Nat) (y:Option V) (el:L=a++b) (ev:vs=b.map V.int++z::ys) (er:r=[some x,some (.int c),some (.ref q),some (.ref d),y]) (kd:m'[d]?=some (.dict (iD a) e)) (l:Le m m')
theorem bP4 (Z:TF S N) (n:Nat) {c:Int} {L:List Int} {z x:V} {ys:List V} (hq:m[q]?=some (.list (L.map V.int++z::ys))) (c1:1 <= c) (c2:c <= 12) (hL:∀ x∈L,0 <= x /\ x < c) (nd:L.Nodup) (hz:Pl m z) (hb:∀ k,z=.int k->0 <= k->k < c->k∈L):Wp (run S (n+4) (N.ki+13) [x,.int c,.ref q]) m (fun y_ y_=>False) (fun d m'=>d=N.cH /\ Le m m'):=by
 rcases Z.H.gM with ⟨y_,gM⟩
 have ei:eB S (.ref q) .list m=.ok true m:=by unfold eB;dsimp only;rw [hq];rfl
 refine bF Z.tinit rfl (dS (aH (bA rfl (eG Z.H.N_ Z.H.W gM (n+1) c1 c2)) (aV (t:=false) (bM (aO (aH8 rfl ei))) (bK (aH (a:=.ref m.length) (m':=m++[.dict [] 0]) rfl ?_)))))
 have l0:Le m (m++[.dict [] 0]):=.app _ _
 have k0:(m++[.dict [] 0])[m.length]?=some (.dict [] 0):=bW
 generalize m++[MObj.dict [] 0]=m0 at l0 k0 ⊢
 refine cE1 (aD (aC rfl (aK (fV (l0.has hq) ⟨TLx q m.length x c L z ys m,⟨[],L,0,none,rfl,rfl,rfl,k0,l0⟩,?_,?_,?_⟩))))
 ·rintro vs r m' ⟨a,b,e,y,el,ev,er,kd,l⟩
  exact dR (l.has hq)
 ·rintro v vs r m' ⟨a,b,e,y,el,ev,er,kd,l⟩
  subst er
  cases b with
  | nil=>
   injection ev with e1 e2
   subst e1
   refine aC rfl (aV (aA6 (n:=n+2) Z.H.W rfl rfl (hz.le l) fun k e=>?_) (aK0 ⟨rfl,l⟩))
   subst e
   have e1:=aZ2 (S:=S) (F:=run S (n+3)) (m:=m') (r:=[some x,some (.int c),some (.ref q),some (.ref m.length),some (.int k)]) (a:=.var 4) (c:=.var 1) (x:=k) (y:=c) rfl rfl
   by_cases z:0 <= k /\ k < c
   ·rw [decide_eq_true z.1,decide_eq_true z.2] at e1
    refine aW (x:=false) e1 (aW (x:=true) (aO (aU rfl rfl ?_)) b8)
    show inV (.int k) (.ref m.length) m'=_
    rw [aT kd rfl (cU _ _),bG6,bC7]
    have:=hb k rfl z.1 z.2
    rw [el,List.append_nil] at this
    rw [decide_eq_true this]
   ·have:(!(decide (0 <= k)&&decide (k < c)))=true:=by
     rw [Bool.not_eq_true',Bool.and_eq_false_iff,decide_eq_false_iff_not,decide_eq_false_iff_not]
     exact Classical.not_and_iff_not_or_not.mp z
    rw [this] at e1
    exact aP0 e1
  | cons z' b=>
   injection ev with e1 e2
   subst e1
   have hz':=hL z' (by rw [el];exact List.mem_append_right _ (.head _))
   have za:z'∉a:=fun c=>by rw [el] at nd;exact (List.nodup_append.mp nd).2.2 z' c z' (.head _) rfl
   have al:a.length < lid:=by
    have h1:a.length <= L.length:=by rw [el,List.length_append];exact Nat.le_add_right _ _
    have h2:=bG4 nd hL
    exact Nat.lt_of_le_of_lt (Nat.le_trans h1 (Nat.le_trans h2 (cZ c2))) (by decide)
   refine aC rfl (aV (t:=false) (cJ (aW (x:=false) (bM (aO (bA rfl (bT Z.H.W (n+2) z')))) (aW (x:=false) (aS9 rfl rfl hz'.1 hz'.2) (aW (x:=false) (aO (aU rfl rfl ?_)) b8)))) ?_)
   ·show inV (.int z') (.ref m.length) m'=_
    rw [aT kd rfl (cU _ _),bG6,bC7,decide_eq_false za]
   ·refine d8 (aC rfl (aC rfl (aC rfl (dX kd (k:=.int z') rfl (cU _ _) (by unfold iD;rw [List.length_map];exact al) ?_))))
    show Wp _ (m'.set m.length (.dict (put (.int z') (.bool true) (iD a)) (e+1))) _ _
    rw [cM5 za]
    exact dE ⟨a++[z'],b,e+1,some (.int z'),by rw [el,List.append_assoc];rfl,e2,rfl,bI kd,l.set (Nat.le_refl _) _⟩
 ·rintro r m' ⟨a,b,e,y,el,ev,er,kd,l⟩
  cases b with
  | nil=>injection ev
  | cons=>injection ev
theorem cS7 (Z:TF S N) {n:Nat} {r:Lo} {E:Nat->MH->Prop} {Q:V->MH->Prop} {c:Int} {L:List Int} {a l:CE} {ql:Nat} (ha:ev S (run S (n+4)) a r m=.ok (.int c) m) (hl:ev S (run S (n+4)) l r m=.ok (.ref ql) m) (kl:m[ql]?=some (.list (L.map V.int))) (hB:∀ x∈B,m[x.1]?=some x.2) (c1:1 <= c) (c2:c <= 12) (hL:∀ x∈L,0 <= x /\ x < c) (nd:L.Nodup)
  (q:∀ p m',Tw m' N p (Tn.new c L) B->Q (.ref p) m'):Wp (ev S (run S (n+4)) (.new (N.C+2) [a,(.bi .list [l])]) r) m Q E:=by
 have el:ev S (run S (n+4)) (.bi .list [l]) r m=.ok (.ref m.length) (m++[.list (L.map V.int)]):=by
  show Res.bind (Res.bind (ev S (run S (n+4)) l r m) _) _=_
  rw [hl]
  show biV .list [.ref ql] m=_
  unfold biV;dsimp only;rw [kl];rfl
 rcases Z.town with ⟨d,h1,h2,h3,y_⟩
 refine bE8 (aD (aH ha (aD (aH el (aK ⟨d,N.ki+13,h1,h2,h3,?_⟩)))))
 have kq:(m++[MObj.list (L.map V.int)])[m.length]?=some (.list (L.map V.int)):=bW
 have l1:Le m (m++[.list (L.map V.int)]):=.app _ _
 generalize m++[MObj.list (L.map V.int)]=m1 at kq l1 ⊢
 have l2:Le m1 (m1++[.inst (N.C+2) []]):=.app _ _
 refine wp_mono (aX (cD0 Z n (B:=B) (p:=m1.length) (q:=m.length) bW (fun x hx=>⟨?_,l2.has (l1.has (hB x hx))⟩) (l2.has kq) c1 c2 hL nd) fun u m' z=>z) (fun u m' z=>⟨z.1,q _ _ z.2⟩) fun y_ y_ z=>z
 have:=bJ (l1.has (hB x hx))
 exact Nat.ne_of_lt this
end
end Mini.Internal
namespace C10
open PySem Mini.Internal
noncomputable def bL0:List CS:=eQ
noncomputable def aV5:List CS:=aN9 0 0 2
noncomputable def aV6:List CS:=cN8 1
noncomputable def cI3:List CS:=bI2 1 2
noncomputable def cI2:List CS:=fR 1 2
noncomputable def cI4:List CS:=aD1
noncomputable def bW7:List CS:=aD0 1 0 4 5 3
noncomputable def aW0:List CS:=bH5
noncomputable def aV7:List CS:=bZ5 1 0 3
noncomputable def aV9:List CS:=cO0 4 4
noncomputable def aV8:List CS:=cN9 7
noncomputable def aJ2:List CS:=aX3
noncomputable def aJ1:List CS:=aX0 3
noncomputable def aK9:List CS:=bH9
noncomputable def aL0:List CS:=bI0
noncomputable def aJ3:List CS:=aX4 0 8
noncomputable def aL1:List CS:=bI3
noncomputable def bB4:List CS:=bZ3
noncomputable def bB3:List CS:=cN7
noncomputable def aV4:List CS:=bH8 0 7
noncomputable def aK8:List CS:=bZ2
noncomputable def bB1:List CS:=bZ0 1 0 3 10
noncomputable def aQ8:List CS:=bI1 0 3
noncomputable def bB0:List CS:=cN6
noncomputable def bB2:List CS:=bZ1
noncomputable def aV3:List CS:=bH6
noncomputable def bK7:List CS:=cJ9 0 6 3 5 6
noncomputable def aK6:List CS:=bY9
noncomputable def aQ6:List CS:=bH7
noncomputable def aQ7:List CS:=aX1
noncomputable def aK7:List CS:=aN8
noncomputable def aQ9:List CS:=aX2
noncomputable def cI1:List CS:=b_at
noncomputable def bW6:List CS:=b_row
noncomputable def bK9:List CS:=bZ4
noncomputable def bK8:List CS:=[
 (.try_ [
  (.exp (.new 12 [(.var 0),(.var 1)]))] 1 (some 2) (.call 34 [(.var 2)])),
 (.ret (.tup []))]
noncomputable def bB7:List CS:=[
 (.try_ [
  (.ite (.val (.cmp (.var 1) [.Eq] [(.cnst (Lt.int 0))])) [
   (.exp (.meth (.var 0) 0 [(.var 2),(.var 4)]))] [
   (.ite (.val (.cmp (.var 1) [.Eq] [(.cnst (Lt.int 1))])) [
    (.exp (.meth (.var 0) 18 [(.var 2)]))] [
    (.ite (.val (.cmp (.var 1) [.Eq] [(.cnst (Lt.int 2))])) [
     (.exp (.meth (.var 0) 24 [(.var 2),(.var 3),(.var 4)]))] [
     (.ite (.val (.cmp (.var 1) [.Eq] [(.cnst (Lt.int 3))])) [
      (.exp (.meth (.var 0) 5 [(.var 2)]))] [
      (.ite (.val (.cmp (.var 1) [.Eq] [(.cnst (Lt.int 4))])) [
       (.exp (.meth (.var 0) 6 [(.var 2),(.var 3)]))] [
       (.exp (.meth (.var 0) 7 [(.var 2)]))])])])])])] 1 (some 5) (.call 34 [(.var 5)])),
 (.ret (.tup []))]
noncomputable def bB5:List CS:=[
 (.ret (.list [(.meth (.var 0) 19 []),(.meth (.var 0) 25 []),(.comp (.tup [(.meth (.var 0) 5 [(.var 2)]),(.meth (.var 0) 7 [(.var 2)])]) (.one 2) 1 .expr [(.var 1)] [])]))]
noncomputable def bB6:List CS:=[
 (.asg (.one (.one 6)) (.list [(.tup [(.cnst (Lt.int 0)),(.var 2),(.cnst (Lt.int 0)),(.cnst (Lt.str (Str.ofString "tea"))),(.cnst (Lt.str (Str.ofString "house")))]),(.tup [(.cnst (Lt.int 0)),(.var 0),(.cnst (Lt.int 0)),(.cnst Lt.none),(.cnst (Lt.str (Str.ofString "house")))]),(.tup [(.cnst (Lt.int 0)),(.idx (.var 1) (.cnst (Lt.int 0))),(.cnst (Lt.int 0)),(.var 2),(.cnst (Lt.str (Str.ofString "row")))])])),
 (.asg (.one (.one 6)) (.bin .Add (.var 6) (.list [(.tup [(.cnst (Lt.int 0)),(.var 2),(.cnst (Lt.int 0)),(.cnst (Lt.str (Str.ofString ""))),(.cnst (Lt.str (Str.ofString "house")))]),(.tup [(.cnst (Lt.int 1)),(.idx (.var 3) (.cnst (Lt.int 0))),(.cnst (Lt.int 0)),(.cnst (Lt.int 0)),(.cnst (Lt.str (Str.ofString "letter")))]),(.tup [(.cnst (Lt.int 1)),(.idx (.var 3) (.cnst (Lt.int 1))),(.cnst (Lt.int 0)),(.cnst (Lt.int 0)),(.cnst (Lt.str (Str.ofString "letter")))])]))),
 (.asg (.one (.one 6)) (.bin .Add (.var 6) (.list [(.tup [(.cnst (Lt.int 2)),(.var 2),(.var 2),(.var 4),(.cnst (Lt.str (Str.ofString "house")))]),(.tup [(.cnst (Lt.int 2)),(.idx (.var 1) (.cnst (Lt.int 0))),(.var 0),(.var 4),(.cnst (Lt.str (Str.ofString "house")))]),(.tup [(.cnst (Lt.int 2)),(.var 0),(.var 2),(.var 4),(.cnst (Lt.str (Str.ofString "house")))])]))),
 (.asg (.one (.one 6)) (.bin .Add (.var 6) (.list [(.tup [(.cnst (Lt.int 2)),(.var 0),(.var 0),(.var 5),(.cnst (Lt.str (Str.ofString "house")))]),(.tup [(.cnst (Lt.int 2)),(.var 0),(.idx (.var 1) (.cnst (Lt.int 0))),(.var 4),(.cnst (Lt.str (Str.ofString "word")))])]))),
 (.asg (.one (.one 6)) (.bin .Add (.var 6) (.list [(.tup [(.cnst (Lt.int 2)),(.var 0),(.idx (.var 1) (.cnst (Lt.int 0))),(.var 5),(.cnst (Lt.str (Str.ofString "forged")))]),(.tup [(.cnst (Lt.int 3)),(.var 2),(.cnst (Lt.int 0)),(.cnst (Lt.int 0)),(.cnst (Lt.str (Str.ofString "house")))]),(.tup [(.cnst (Lt.int 3)),(.var 0),(.cnst (Lt.int 0)),(.cnst (Lt.int 0)),(.cnst (Lt.str (Str.ofString "house")))])]))),
 (.asg (.one (.one 6)) (.bin .Add (.var 6) (.list [(.tup [(.cnst (Lt.int 4)),(.var 2),(.cnst (Lt.int 0)),(.cnst (Lt.int 0)),(.cnst (Lt.str (Str.ofString "house")))]),(.tup [(.cnst (Lt.int 4)),(.var 0),(.var 2),(.cnst (Lt.int 0)),(.cnst (Lt.str (Str.ofString "house")))]),(.tup [(.cnst (Lt.int 4)),(.idx (.var 1) (.cnst (Lt.int 0))),(.cnst (Lt.int 9)),(.cnst (Lt.int 0)),(.cnst (Lt.str (Str.ofString "written")))])]))),
 (.ret (.bin .Add (.var 6) (.list [(.tup [(.cnst (Lt.int 4)),(.idx (.var 1) (.cnst (Lt.int 1))),(.var 2),(.cnst (Lt.int 0)),(.cnst (Lt.str (Str.ofString "written")))]),(.tup [(.cnst (Lt.int 5)),(.var 2),(.cnst (Lt.int 0)),(.cnst (Lt.int 0)),(.cnst (Lt.str (Str.ofString "house")))]),(.tup [(.cnst (Lt.int 5)),(.var 0),(.cnst (Lt.int 0)),(.cnst (Lt.int 0)),(.cnst (Lt.str (Str.ofString "house")))])])))]
noncomputable def f_law_later:List CS:=[
 (.asg (.one (.one 6)) (.tup [(.cnst (Lt.str (Str.ofString "mark"))),(.idx (.var 2) (.cnst (Lt.int 0))),(.var 3),(.idx (.var 2) (.cnst (Lt.int 1)))])),
 (.ite (.val (.cmp (.call 36 [(.var 0),(.cnst (Lt.int 2)),(.var 1),(.idx (.var 2) (.cnst (Lt.int 0))),(.var 6)]) [.NotEq] [(.tup [(.cnst (Lt.str (Str.ofString "forged")))])])) [
  (.ret (.cnst (Lt.bool false)))] []),
 (.for_ .expr (.many [7,8]) [(.meth (.var 0) 19 [])] [
  (.ite (.all true [(.val (.cmp (.idx (.var 8) (.cnst (Lt.int 1))) [.Eq] [(.idx (.var 2) (.cnst (Lt.int 1)))])),(.val (.cmp (.idx (.idx (.var 8) (.cnst (Lt.int 2))) (.cnst (Lt.int 0))) [.Eq] [(.cnst (Lt.str (Str.ofString "say")))]))]) [
   (.exp (.meth (.var 0) 18 [(.var 7)]))] [])]),
 (.ite (.val (.cmp (.call 36 [(.var 0),(.cnst (Lt.int 2)),(.var 1),(.idx (.var 2) (.cnst (Lt.int 0))),(.var 6)]) [.NotEq] [(.tup [])])) [
  (.ret (.cnst (Lt.bool false)))] []),
 (.asg (.one (.one 9)) (.bi .max1 [(.comp (.var 10) (.many [10,11]) 2 .expr [(.meth (.var 0) 19 [])] [])])),
 (.ite (.all false [(.val (.cmp (.call 36 [(.var 0),(.cnst (Lt.int 1)),(.bin .Add (.var 9) (.cnst (Lt.int 1))),(.cnst (Lt.int 0)),(.cnst (Lt.int 0))]) [.NotEq] [(.tup [(.cnst (Lt.str (Str.ofString "letter")))])])),(.val (.cmp (.meth (.var 0) 24 [(.var 1),(.idx (.var 2) (.cnst (Lt.int 0))),(.var 4)]) [.NotEq] [(.bin .Add (.var 9) (.cnst (Lt.int 1)))]))]) [
  (.ret (.cnst (Lt.bool false)))] []),
 (.ite (.val (.cmp (.list [(.call 36 [(.var 0),(.cnst (Lt.int 1)),(.bin .Add (.var 9) (.cnst (Lt.int 1))),(.cnst (Lt.int 0)),(.cnst (Lt.int 0))]),(.call 36 [(.var 0),(.cnst (Lt.int 1)),(.bin .Add (.var 9) (.cnst (Lt.int 1))),(.cnst (Lt.int 0)),(.cnst (Lt.int 0))])]) [.NotEq] [(.list [(.tup []),(.tup [(.cnst (Lt.str (Str.ofString "letter")))])])])) [
  (.ret (.cnst (Lt.bool false)))] []),
 (.ret (.cmp (.idx (.meth (.var 0) 0 [(.idx (.var 2) (.cnst (Lt.int 0))),(.var 3)]) (.cnst (Lt.int 0))) [.Eq] [(.tup [(.cnst (Lt.str (Str.ofString "say"))),(.bin .Add (.idx (.var 2) (.cnst (Lt.int 0))) (.var 5)),(.var 3),(.idx (.var 2) (.cnst (Lt.int 0)))])]))]
noncomputable def f_law:List CS:=[
 (.asg (.one (.one 1)) (.bi .abs [(.call 32 [(.var 0),(.cnst (Lt.int 0))])])),
 (.asg (.one (.one 2)) (.bi .abs [(.call 32 [(.var 0),(.cnst (Lt.int 1))])])),
 (.asg (.one (.one 3)) (.bin .Add (.cnst (Lt.int 4)) (.bin .Mod (.var 1) (.cnst (Lt.int 4))))),
 (.asg (.one (.one 4)) (.slice (.list [(.bin .Mod (.bin .FloorDiv (.var 1) (.cnst (Lt.int 4))) (.var 3)),(.bin .Mod (.bin .Add (.bin .FloorDiv (.var 1) (.cnst (Lt.int 4))) (.cnst (Lt.int 2))) (.var 3))]) (.cnst Lt.none) (.bin .Add (.cnst (Lt.int 1)) (.bin .Mod (.bin .FloorDiv (.var 1) (.cnst (Lt.int 28))) (.cnst (Lt.int 2)))) (.cnst Lt.none))),
 (.asg (.one (.one 5)) (.comp (.var 20) (.one 20) 1 .range [(.var 3)] [(.val (.cmp (.var 20) [.NotIn] [(.var 4)]))])),
 (.asg (.one (.one 6)) (.idx (.list [(.neg (.cnst (Lt.int 1))),(.var 3),(.bin .Add (.cnst (Lt.int 40)) (.var 2)),(.cnst (Lt.bool true)),(.cnst (Lt.bool false)),(.cnst Lt.none),(.cnst (Lt.str (Str.ofString "0"))),(.list [(.cnst (Lt.int 0))]),(.dict [] [])]) (.bin .Mod (.var 2) (.cnst (Lt.int 9))))),
 (.ite (.val (.cmp (.call 35 [(.idx (.list [(.cnst (Lt.int 0)),(.cnst (Lt.int 13)),(.cnst (Lt.bool true)),(.cnst Lt.none),(.cnst (Lt.str (Str.ofString "4"))),(.list [(.cnst (Lt.int 4))]),(.neg (.cnst (Lt.int 3)))]) (.bin .Mod (.var 2) (.cnst (Lt.int 7)))),(.list [(.var 6)])]) [.NotEq] [(.tup [(.cnst (Lt.str (Str.ofString "count")))])])) [
  (.ret (.cnst (Lt.bool false)))] []),
 (.ite (.val (.cmp (.call 35 [(.var 3),(.idx (.list [(.list [(.cnst (Lt.int 1)),(.var 6)]),(.list [(.cnst (Lt.int 2)),(.cnst (Lt.int 2))]),(.tup [(.cnst (Lt.int 1))]),(.cnst Lt.none),(.cnst (Lt.str (Str.ofString "1"))),(.dict [] []),(.list [(.var 6)]),(.cnst (Lt.int 3))]) (.bin .Mod (.bin .FloorDiv (.var 2) (.cnst (Lt.int 9))) (.cnst (Lt.int 8))))]) [.NotEq] [(.tup [(.cnst (Lt.str (Str.ofString "house")))])])) [
  (.ret (.cnst (Lt.bool false)))] []),
 (.asg (.one (.one 7)) (.new 12 [(.var 3),(.bi .list [(.var 4)])])),
 (.asg (.one (.one 8)) (.bin .Mod (.bi .abs [(.call 32 [(.var 0),(.cnst (Lt.int 2))])]) (.cnst (Lt.int 100003)))),
 (.exp (.meth (.var 7) 0 [(.idx (.var 5) (.cnst (Lt.int 0))),(.call 33 [(.var 8),(.cnst (Lt.int 0))])])),
 (.exp (.meth (.var 7) 24 [(.idx (.var 4) (.cnst (Lt.int 0))),(.idx (.var 5) (.cnst (Lt.int 1))),(.tup [(.cnst (Lt.str (Str.ofString "mark"))),(.cnst (Lt.int 3)),(.call 33 [(.var 8),(.cnst (Lt.int 1))]),(.idx (.var 4) (.cnst (Lt.int 0)))])])),
 (.asg (.one (.one 9)) (.call 37 [(.var 7),(.var 5)])),
 (.asg (.one (.one 10)) (.list [(.ite (.val (.cmp (.var 6) [.Eq] [(.var 3)])) (.neg (.cnst (Lt.int 1))) (.var 6)),(.bin .Add (.bi .len [(.idx (.var 9) (.cnst (Lt.int 0)))]) (.bin .Mod (.var 2) (.cnst (Lt.int 3))))])),
 (.asg (.one (.one 11)) (.tup [(.cnst (Lt.str (Str.ofString "mark"))),(.cnst (Lt.int 1)),(.call 33 [(.var 8),(.cnst (Lt.int 2))]),(.idx (.var 4) (.cnst (Lt.int 0)))])),
 (.asg (.one (.one 12)) (.tup [(.cnst (Lt.str (Str.ofString "mark"))),(.cnst (Lt.int 1)),(.call 33 [(.var 8),(.cnst (Lt.int 2))]),(.idx (.var 5) (.cnst (Lt.int 1)))])),
 (.asg (.one (.one 13)) (.list [(.tup [(.cnst (Lt.str (Str.ofString "mark"))),(.cnst (Lt.int 1)),(.cnst (Lt.str (Str.ofString "A"))),(.cnst (Lt.int 0))]),(.tup [(.cnst (Lt.str (Str.ofString "say"))),(.cnst (Lt.int 1)),(.cnst (Lt.str (Str.ofString "a"))),(.cnst (Lt.int 0))]),(.tup [(.cnst (Lt.str (Str.ofString "mark"))),(.cnst (Lt.int 1)),(.cnst (Lt.str (Str.ofString "a"))),(.var 3)]),(.tup [(.cnst (Lt.str (Str.ofString "mark"))),(.cnst (Lt.int 1)),(.cnst (Lt.str (Str.ofString "a")))]),(.cnst Lt.none),(.list [(.var 11)])])),
 (.asg (.one (.one 14)) (.idx (.var 13) (.bin .Mod (.bin .FloorDiv (.var 2) (.cnst (Lt.int 72))) (.cnst (Lt.int 6))))),
 (.for_ .expr (.many [15,16,17,18,19]) [(.call 38 [(.idx (.var 4) (.cnst (Lt.int 0))),(.var 5),(.var 6),(.var 10),(.var 14),(.var 12)])] [
  (.ite (.all false [(.val (.cmp (.call 36 [(.var 7),(.var 15),(.var 16),(.var 17),(.var 18)]) [.NotEq] [(.tup [(.var 19)])])),(.val (.cmp (.call 37 [(.var 7),(.var 5)]) [.NotEq] [(.var 9)]))]) [
   (.ret (.cnst (Lt.bool false)))] [])]),
 (.ite (.all false [(.val (.cmp (.call 36 [(.var 7),(.cnst (Lt.int 2)),(.idx (.var 4) (.cnst (Lt.int 0))),(.idx (.var 5) (.cnst (Lt.int 0))),(.var 11)]) [.NotEq] [(.tup [])])),(.val (.cmp (.bi .len [(.meth (.var 7) 19 [])]) [.NotEq] [(.bin .Add (.bi .len [(.idx (.var 9) (.cnst (Lt.int 0)))]) (.cnst (Lt.int 1)))]))]) [
  (.ret (.cnst (Lt.bool false)))] []),
 (.ret (.call 39 [(.var 7),(.idx (.var 4) (.cnst (Lt.int 0))),(.var 5),(.call 33 [(.var 8),(.cnst (Lt.int 0))]),(.var 11),(.var 3)]))]
noncomputable def sig:Sig:={
 fns:=[
  { name:=(Str.ofString "is_whole"),np:=1,names:=[(Str.ofString "thing")],body:=bL0 },
  { name:=(Str.ofString "need_count"),np:=1,names:=[(Str.ofString "count")],body:=aV5 },
  { name:=(Str.ofString "most_liars"),np:=1,names:=[(Str.ofString "count")],body:=aV6 },
  { name:=(Str.ofString "enough"),np:=1,names:=[(Str.ofString "count")],body:=cI3 },
  { name:=(Str.ofString "is_row"),np:=1,names:=[(Str.ofString "thing"),(Str.ofString "sign")],body:=cI2 },
  { name:=(Str.ofString "caller"),np:=2,names:=[(Str.ofString "count"),(Str.ofString "number")],body:=cI4 },
  { name:=(Str.ofString "is_word"),np:=2,names:=[(Str.ofString "count"),(Str.ofString "thing")],body:=bW7 },
  { name:=(Str.ofString "are_unlike"),np:=2,names:=[(Str.ofString "one"),(Str.ofString "other")],body:=aW0 },
  { name:=(Str.ofString "__init__"),np:=3,names:=[(Str.ofString "self"),(Str.ofString "count"),(Str.ofString "own")],body:=aV7 },
  { name:=(Str.ofString "call"),np:=2,names:=[(Str.ofString "self"),(Str.ofString "row"),(Str.ofString "word")],body:=aV9 },
  { name:=(Str.ofString "hear"),np:=2,names:=[(Str.ofString "self"),(Str.ofString "word"),(Str.ofString "ahead")],body:=aV8 },
  { name:=(Str.ofString "marking"),np:=2,names:=[(Str.ofString "self"),(Str.ofString "word"),(Str.ofString "mark")],body:=aJ2 },
  { name:=(Str.ofString "writing"),np:=3,names:=[(Str.ofString "self"),(Str.ofString "number"),(Str.ofString "row"),(Str.ofString "marks")],body:=aJ1 },
  { name:=(Str.ofString "naming"),np:=3,names:=[(Str.ofString "self"),(Str.ofString "word"),(Str.ofString "ahead")],body:=aK9 },
  { name:=(Str.ofString "ledger"),np:=1,names:=[(Str.ofString "self"),(Str.ofString "found"),(Str.ofString "number")],body:=aL0 },
  { name:=(Str.ofString "backing"),np:=2,names:=[(Str.ofString "self"),(Str.ofString "number")],body:=aJ3 },
  { name:=(Str.ofString "caught"),np:=1,names:=[(Str.ofString "self")],body:=aL1 },
  { name:=(Str.ofString "__init__"),np:=1,names:=[(Str.ofString "self")],body:=bB4 },
  { name:=(Str.ofString "send"),np:=2,names:=[(Str.ofString "self"),(Str.ofString "letter"),(Str.ofString "number")],body:=bB3 },
  { name:=(Str.ofString "bring"),np:=2,names:=[(Str.ofString "self"),(Str.ofString "number")],body:=aV4 },
  { name:=(Str.ofString "waiting"),np:=1,names:=[(Str.ofString "self")],body:=aK8 },
  { name:=(Str.ofString "__init__"),np:=3,names:=[(Str.ofString "self"),(Str.ofString "count"),(Str.ofString "liars"),(Str.ofString "told"),(Str.ofString "house")],body:=bB1 },
  { name:=(Str.ofString "honest"),np:=2,names:=[(Str.ofString "self"),(Str.ofString "house")],body:=aQ8 },
  { name:=(Str.ofString "tell"),np:=3,names:=[(Str.ofString "self"),(Str.ofString "house"),(Str.ofString "words"),(Str.ofString "word"),(Str.ofString "other")],body:=bB0 },
  { name:=(Str.ofString "call"),np:=3,names:=[(Str.ofString "self"),(Str.ofString "house"),(Str.ofString "row"),(Str.ofString "words")],body:=bB2 },
  { name:=(Str.ofString "bring"),np:=2,names:=[(Str.ofString "self"),(Str.ofString "number"),(Str.ofString "letter")],body:=aV3 },
  { name:=(Str.ofString "lie"),np:=4,names:=[(Str.ofString "self"),(Str.ofString "house"),(Str.ofString "receiver"),(Str.ofString "word")],body:=bK7 },
  { name:=(Str.ofString "waiting"),np:=1,names:=[(Str.ofString "self")],body:=aK6 },
  { name:=(Str.ofString "spoken"),np:=1,names:=[(Str.ofString "self")],body:=aQ6 },
  { name:=(Str.ofString "ledger"),np:=2,names:=[(Str.ofString "self"),(Str.ofString "house")],body:=aQ7 },
  { name:=(Str.ofString "backing"),np:=3,names:=[(Str.ofString "self"),(Str.ofString "house"),(Str.ofString "number")],body:=aK7 },
  { name:=(Str.ofString "caught"),np:=2,names:=[(Str.ofString "self"),(Str.ofString "house")],body:=aQ9 },
  { name:=(Str.ofString "_law_at"),np:=2,names:=[(Str.ofString "_law_script"),(Str.ofString "_law_k")],body:=cI1 },
  { name:=(Str.ofString "_law_row"),np:=2,names:=[(Str.ofString "_law_base"),(Str.ofString "_law_k"),(Str.ofString "_law_letters"),(Str.ofString "_law_turned"),(Str.ofString "_law_size"),(Str.ofString "_law_tail"),(Str.ofString "_law_at_here")],body:=bW6 },
  { name:=(Str.ofString "_law_kind"),np:=1,names:=[(Str.ofString "_law_error"),(Str.ofString "_law_words"),(Str.ofString "_law_found")],body:=bK9 },
  { name:=(Str.ofString "_law_made"),np:=2,names:=[(Str.ofString "_law_count"),(Str.ofString "_law_liars"),(Str.ofString "_law_error")],body:=bK8 },
  { name:=(Str.ofString "_law_asked"),np:=5,names:=[(Str.ofString "_law_town"),(Str.ofString "_law_which"),(Str.ofString "_law_house"),(Str.ofString "_law_other"),(Str.ofString "_law_word"),(Str.ofString "_law_error")],body:=bB7 },
  { name:=(Str.ofString "_law_state"),np:=2,names:=[(Str.ofString "_law_town"),(Str.ofString "_law_honest")],body:=bB5 },
  { name:=(Str.ofString "_law_cases"),np:=6,names:=[(Str.ofString "_law_liar"),(Str.ofString "_law_honest"),(Str.ofString "_law_odd"),(Str.ofString "_law_letter"),(Str.ofString "_law_bad"),(Str.ofString "_law_never"),(Str.ofString "_law_cases_here")],body:=bB6 },
  { name:=(Str.ofString "_law_later"),np:=6,names:=[(Str.ofString "_law_town"),(Str.ofString "_law_liar"),(Str.ofString "_law_honest"),(Str.ofString "_law_row_here"),(Str.ofString "_law_good"),(Str.ofString "_law_count"),(Str.ofString "_law_mark"),(Str.ofString "_law_number"),(Str.ofString "_law_sent"),(Str.ofString "_law_last")],body:=f_law_later },
  { name:=(Str.ofString "law"),np:=1,names:=[(Str.ofString "_law_script"),(Str.ofString "_law_first"),(Str.ofString "_law_cell"),(Str.ofString "_law_count"),(Str.ofString "_law_liars"),(Str.ofString "_law_honest"),(Str.ofString "_law_odd"),(Str.ofString "_law_town"),(Str.ofString "_law_base"),(Str.ofString "_law_kept"),(Str.ofString "_law_letter"),(Str.ofString "_law_good"),(Str.ofString "_law_never"),(Str.ofString "_law_some"),(Str.ofString "_law_bad"),(Str.ofString "_law_which"),(Str.ofString "_law_house"),(Str.ofString "_law_other"),(Str.ofString "_law_word"),(Str.ofString "_law_due")],body:=f_law }],
 cls:=[
  { name:=(Str.ofString "ValueError"),init:=none,meths:=[],exc:=false,supers:=[0] },
  { name:=(Str.ofString "HouseError"),init:=none,meths:=[],exc:=true,supers:=[1,0] },
  { name:=(Str.ofString "BadCount"),init:=none,meths:=[],exc:=true,supers:=[2,1,0] },
  { name:=(Str.ofString "BadHouse"),init:=none,meths:=[],exc:=true,supers:=[3,1,0] },
  { name:=(Str.ofString "BadRow"),init:=none,meths:=[],exc:=true,supers:=[4,1,0] },
  { name:=(Str.ofString "BadWord"),init:=none,meths:=[],exc:=true,supers:=[5,1,0] },
  { name:=(Str.ofString "Forged"),init:=none,meths:=[],exc:=true,supers:=[6,1,0] },
  { name:=(Str.ofString "NoLetter"),init:=none,meths:=[],exc:=true,supers:=[7,1,0] },
  { name:=(Str.ofString "NotWritten"),init:=none,meths:=[],exc:=true,supers:=[8,1,0] },
  { name:=(Str.ofString "NoText"),init:=none,meths:=[],exc:=true,supers:=[9,1,0] },
  { name:=(Str.ofString "House"),init:=some 8,meths:=[(0,9),(1,10),(2,11),(3,12),(4,13),(5,14),(6,15),(7,16)],exc:=false,supers:=[10] },
  { name:=(Str.ofString "Post"),init:=some 17,meths:=[(17,18),(18,19),(19,20)],exc:=false,supers:=[11] },
  { name:=(Str.ofString "Town"),init:=some 21,meths:=[(22,22),(23,23),(0,24),(18,25),(24,26),(19,27),(25,28),(5,29),(6,30),(7,31)],exc:=false,supers:=[12] }],
 attrs:=[(Str.ofString "call"),(Str.ofString "hear"),(Str.ofString "marking"),(Str.ofString "writing"),(Str.ofString "naming"),(Str.ofString "ledger"),(Str.ofString "backing"),(Str.ofString "caught"),(Str.ofString "count"),(Str.ofString "own"),(Str.ofString "onward"),(Str.ofString "known"),(Str.ofString "marked"),(Str.ofString "rows"),(Str.ofString "backings"),(Str.ofString "named"),(Str.ofString "blames"),(Str.ofString "send"),(Str.ofString "bring"),(Str.ofString "waiting"),(Str.ofString "given"),(Str.ofString "letters"),(Str.ofString "honest"),(Str.ofString "tell"),(Str.ofString "lie"),(Str.ofString "spoken"),(Str.ofString "houses"),(Str.ofString "post"),(Str.ofString "said")],
 globs:=[((Str.ofString "MOST_HOUSES"),(Lt.int 12)),((Str.ofString "LETTERS"),(Lt.str (Str.ofString "abcdefghijklmnopqrstuvwxyz"))),((Str.ofString "MOST_SIGNS"),(Lt.int 8)),((Str.ofString "MOST_NUMBER"),(Lt.int 9999))] }
end C10
namespace Mini.Internal
open PySem
namespace P10
open C10
noncomputable abbrev N:HN:={ C:=10,kW:=0,kN:=1,kM:=2,kE:=3,kR:=4,kU:=7,ki:=8,cC:=2,cH:=3,cR:=4,cN:=8,gM:=0,gL:=1,gS:=2 }
theorem hf:HF sig N:=⟨⟨_,rfl,rfl,rfl,rfl⟩,⟨_,rfl,rfl,rfl,rfl⟩,⟨_,rfl,rfl,rfl,rfl⟩,⟨_,rfl,rfl,rfl,rfl⟩,⟨_,rfl,rfl,rfl,rfl⟩,⟨_,rfl,rfl,rfl,rfl⟩,⟨_,rfl,rfl,rfl,rfl⟩,⟨_,rfl,rfl,rfl,rfl⟩,⟨_,rfl,rfl,rfl,rfl⟩,⟨_,rfl,rfl,rfl,rfl⟩,⟨_,rfl,rfl,rfl,rfl⟩,⟨_,rfl,rfl,rfl,rfl⟩,⟨_,rfl,rfl,rfl,rfl⟩,⟨_,rfl,rfl,rfl,rfl⟩,⟨_,rfl,rfl,rfl,rfl⟩,⟨_,rfl⟩,⟨_,rfl⟩,⟨_,rfl⟩,
 ⟨_,rfl,rfl,rfl,by decide⟩⟩
theorem tf:TF sig N:=⟨hf,⟨_,rfl,rfl,rfl,rfl⟩,⟨_,rfl,rfl,rfl,rfl⟩,⟨_,rfl⟩,⟨_,rfl,rfl,rfl,rfl⟩,⟨_,rfl,rfl,rfl,rfl⟩,⟨_,rfl,rfl,rfl,rfl⟩,⟨_,rfl,rfl,rfl,rfl⟩,⟨_,rfl,rfl,rfl,rfl⟩,⟨_,rfl,rfl,rfl,rfl⟩,⟨_,rfl,rfl,rfl,rfl⟩,⟨_,rfl,rfl,rfl,rfl⟩,⟨_,rfl,rfl,rfl,rfl⟩,⟨_,rfl,rfl,rfl,rfl⟩,⟨_,rfl,rfl,rfl,rfl⟩,⟨_,rfl,rfl,rfl,rfl⟩,⟨_,rfl,rfl,rfl,rfl⟩,⟨_,rfl,rfl,rfl,rfl⟩,⟨_,rfl,rfl,rfl,rfl⟩,
 ⟨_,rfl,rfl,rfl,rfl,rfl,rfl⟩,⟨_,rfl,rfl,rfl,rfl⟩⟩
theorem f_at:b9 sig 32 2 2 b_at:=⟨_,rfl,rfl,rfl,rfl⟩
theorem bW5:b9 sig 33 2 7 b_row:=⟨_,rfl,rfl,rfl,rfl⟩
theorem aJ0:b9 sig 34 1 3 bZ4:=⟨_,rfl,rfl,rfl,rfl⟩
structure Kd (c:Nat) (w:Str):Prop where
 he:((sig.cls[c]?).any fun k=>k.supers.contains 1)=true
 kd:∀ n m,Wp (run sig (n+1) 34 [.exc c]) m (fun v m'=>v=.tup [.str w] /\ Le m m') nox
theorem kd2:Kd 2 (Str.ofString "count"):=⟨rfl,fun n m=>aA5 aJ0 n 2 (fun c=>[2,1,0].contains c) _ m (fun y_ y_=>rfl) rfl (by decide) rfl (by decide)⟩
theorem kd3:Kd 3 (Str.ofString "house"):=⟨rfl,fun n m=>aA5 aJ0 n 3 (fun c=>[3,1,0].contains c) _ m (fun y_ y_=>rfl) rfl (by decide) rfl (by decide)⟩
theorem kd4:Kd 4 (Str.ofString "row"):=⟨rfl,fun n m=>aA5 aJ0 n 4 (fun c=>[4,1,0].contains c) _ m (fun y_ y_=>rfl) rfl (by decide) rfl (by decide)⟩
theorem kd5:Kd 5 (Str.ofString "word"):=⟨rfl,fun n m=>aA5 aJ0 n 5 (fun c=>[5,1,0].contains c) _ m (fun y_ y_=>rfl) rfl (by decide) rfl (by decide)⟩
theorem kd6:Kd 6 (Str.ofString "forged"):=⟨rfl,fun n m=>aA5 aJ0 n 6 (fun c=>[6,1,0].contains c) _ m (fun y_ y_=>rfl) rfl (by decide) rfl (by decide)⟩
theorem kd7:Kd 7 (Str.ofString "letter"):=⟨rfl,fun n m=>aA5 aJ0 n 7 (fun c=>[7,1,0].contains c) _ m (fun y_ y_=>rfl) rfl (by decide) rfl (by decide)⟩
theorem kd8:Kd 8 (Str.ofString "written"):=⟨rfl,fun n m=>aA5 aJ0 n 8 (fun c=>[8,1,0].contains c) _ m (fun y_ y_=>rfl) rfl (by decide) rfl (by decide)⟩
noncomputable def Er (Q:V->MH->Prop) (e:Nat) (m':MH):Prop:=∃ w,Kd e w /\ ∀ m'',Le m' m''->Q (.tup [.str w]) m''
section
variable {m:MH} {p b:Nat} {t:Tn} {B:List (Nat×MObj)} {x y z:V} {Q:V->MH->Prop}
theorem bU0 (n:Nat) {a c:V} {d:Nat} {w:Str} (K:Kd d w) (h:Wp (run sig (n+4) 21 [.ref m.length,a,c]) (m++[.inst 12 []]) (fun y_ y_=>False) (fun e m'=>e=d /\ Le (m++[.inst 12 []]) m')):Wp (run sig (n+5) 35 [a,c]) m (fun u m'=>u=.tup [.str w] /\ Le m m') nox:=by
 rcases tf.town with ⟨d',h1,h2,h3,y_⟩
 refine fC rfl rfl (aY8 (dS (bE8 (aC rfl ⟨d',21,h1,h2,h3,wp_mono h (fun y_ y_ q=>q.elim) fun e m' q=>?_⟩))))
 rcases q with ⟨rfl,l⟩
 exact ⟨K.he,bD (aC rfl (aX (K.kd (n+3) m') fun u m'' q=>⟨q.1,((Le.app _ _).trans l).trans q.2⟩))⟩
theorem ask0 (n:Nat) (H:Tw m N p t B) (h:Wp (run sig (n+1) 24 [.ref p,x,z]) m (fun y_ m'=>Q (.tup []) m') (Er Q)):Wp (run sig (n+2) 36 [.ref p,.int 0,x,y,z]) m Q nox:=by
 refine fC rfl rfl (aY8 (aV (t:=true) rfl (dS (bB tf H rfl rfl rfl (aC rfl (wp_mono h (fun y_ m' q=>dE (a9 (aC rfl q))) fun e m' q=>?_))))))
 rcases q with ⟨w,K,q⟩
 exact ⟨K.he,bD (aC rfl (aX (K.kd n m') fun u m'' z=>z.1▸q _ z.2))⟩
theorem dJ2 (n:Nat) (H:Tw m N p t B) (h:Wp (run sig (n+1) 25 [.ref p,x]) m (fun y_ m'=>Q (.tup []) m') (Er Q)):Wp (run sig (n+2) 36 [.ref p,.int 1,x,y,z]) m Q nox:=by
 refine fC rfl rfl (aY8 (aV (t:=false) rfl (aV (t:=true) rfl (dS (bB tf H rfl rfl rfl (aC rfl (wp_mono h (fun y_ m' q=>dE (a9 (aC rfl q))) fun e m' q=>?_)))))))
 rcases q with ⟨w,K,q⟩
 exact ⟨K.he,bD (aC rfl (aX (K.kd n m') fun u m'' z=>z.1▸q _ z.2))⟩
theorem cK1 (n:Nat) (H:Tw m N p t B) (h:Wp (run sig (n+1) 26 [.ref p,x,y,z]) m (fun y_ m'=>Q (.tup []) m') (Er Q)):Wp (run sig (n+2) 36 [.ref p,.int 2,x,y,z]) m Q nox:=by
 refine fC rfl rfl (aY8 (aV (t:=false) rfl (aV (t:=false) rfl (aV (t:=true) rfl (dS (bB tf H rfl rfl rfl (aC rfl (wp_mono h (fun y_ m' q=>dE (a9 (aC rfl q))) fun e m' q=>?_))))))))
 rcases q with ⟨w,K,q⟩
 exact ⟨K.he,bD (aC rfl (aX (K.kd n m') fun u m'' z=>z.1▸q _ z.2))⟩
theorem ask3 (n:Nat) (H:Tw m N p t B) (h:Wp (run sig (n+1) 29 [.ref p,x]) m (fun y_ m'=>Q (.tup []) m') (Er Q)):Wp (run sig (n+2) 36 [.ref p,.int 3,x,y,z]) m Q nox:=by
 refine fC rfl rfl (aY8 (aV (t:=false) rfl (aV (t:=false) rfl (aV (t:=false) rfl (aV (t:=true) rfl (dS (bB tf H rfl rfl rfl (aC rfl (wp_mono h (fun y_ m' q=>dE (a9 (aC rfl q))) fun e m' q=>?_)))))))))
 rcases q with ⟨w,K,q⟩
 exact ⟨K.he,bD (aC rfl (aX (K.kd n m') fun u m'' z=>z.1▸q _ z.2))⟩
theorem ask4 (n:Nat) (H:Tw m N p t B) (h:Wp (run sig (n+1) 30 [.ref p,x,y]) m (fun y_ m'=>Q (.tup []) m') (Er Q)):Wp (run sig (n+2) 36 [.ref p,.int 4,x,y,z]) m Q nox:=by
 refine fC rfl rfl (aY8 (aV (t:=false) rfl (aV (t:=false) rfl (aV (t:=false) rfl (aV (t:=false) rfl (aV (t:=true) rfl (dS (bB tf H rfl rfl rfl (aC rfl (wp_mono h (fun y_ m' q=>dE (a9 (aC rfl q))) fun e m' q=>?_))))))))))
 rcases q with ⟨w,K,q⟩
 exact ⟨K.he,bD (aC rfl (aX (K.kd n m') fun u m'' z=>z.1▸q _ z.2))⟩
theorem ask5 (n:Nat) (H:Tw m N p t B) (h:Wp (run sig (n+1) 31 [.ref p,x]) m (fun y_ m'=>Q (.tup []) m') (Er Q)):Wp (run sig (n+2) 36 [.ref p,.int 5,x,y,z]) m Q nox:=by
 refine fC rfl rfl (aY8 (aV (t:=false) rfl (aV (t:=false) rfl (aV (t:=false) rfl (aV (t:=false) rfl (aV (t:=false) rfl (dS (bB tf H rfl rfl rfl (aC rfl (wp_mono h (fun y_ m' q=>dE (a9 (aC rfl q))) fun e m' q=>?_))))))))))
 rcases q with ⟨w,K,q⟩
 exact ⟨K.he,bD (aC rfl (aX (K.kd n m') fun u m'' z=>z.1▸q _ z.2))⟩
end
end P10
end Mini.Internal
namespace Mini.Internal
open PySem
theorem cO3 {α β:Type} {g:α->Option β} {x:α} {xs:List α} (h:eS g xs=none):eS g (x::xs)=none:=by
 show (match g x,eS g xs with | some d,some ds=>some (d::ds) | _,_=>none)=_
 rw [h];cases g x <;> rfl
theorem cR9 (x:Int×Lr):Rf (aG7 x):=by
 rcases x with ⟨k,s,r,w⟩
 refine ⟨.tuple [.int k,.tuple [.int s,.int r,w.d]],fun y_=>rfl,?_⟩
 show (k == k&&((s == s&&(r == r&&(PyData.eqv w.d w.d&&true)))&&true))=true
 rw [beq_self_eq_true,beq_self_eq_true,beq_self_eq_true,cI8,decide_eq_true rfl];rfl
section
variable {m:MH} {p q f:Nat}
theorem bX3 {xs:List V} (hx:∀ x∈xs,Rf x) (hp:m[p]?=some (.list xs)) (hq:m[q]?=some (.list xs)):eqX (f+1) m (.ref p) (.ref q)=some true:=by
 rcases bS1 hx with ⟨ds,h1,h2⟩
 show (match rd cP m (.ref p),rd cP m (.ref q) with | some x,some y=>some (PyData.eqv x y) | _,_=>eqN m (eqX f m) (.ref p) (.ref q))=_
 rw [aP2 hp,aP2 hq,h1]
 show some (PyData.eqvAll ds ds)=_
 rw [h2]
theorem cX0 {a b:V} (h:rd cP m a=none):eqX (f+1) m a b=eqN m (eqX f m) a b:=by
 show (match rd cP m a,rd cP m b with | some x,some y=>some (PyData.eqv x y) | _,_=>eqN m (eqX f m) a b)=_
 rw [h]
theorem eqV_n {a b:V} (h:rd cP m a=none) (k:eqN m (eqX 8 m) a b=some true):eqV a b m=.ok true m:=by
 show (match rd cP m a,rd cP m b with | some x,some y=>Res.ok (PyData.eqv x y) m | _,_=>(match eqN m (eqX 8 m) a b with | some c=>.ok c m | Option.none=>.bad))=_
 rw [h,k]
theorem dH2 {g:V->V->Option Bool} {xs ys:List V} (hp:m[p]?=some (.list xs)) (hq:m[q]?=some (.list ys)) (hne:p≠q) (hl:xs.length=ys.length):eqN m g (.ref p) (.ref q)=aG2 g xs ys:=by
 show (match m[p]? with
  | some (.list xs)=>(match m[q]? with | some (.list ys)=>if p≠q /\ xs.length=ys.length then aG2 g xs ys else Option.none | _=>Option.none)
  | some (.dict ks _)=>(match m[q]? with | some (.dict ls _)=>if p≠q /\ ks.length=ls.length /\ (aU8 ks&&aU8 ls)=true then aL2 m ls ks else Option.none | _=>Option.none)
  | _=>Option.none)=_
 rw [hp]
 dsimp only
 rw [hq]
 exact if_pos ⟨hne,hl⟩
theorem eqN_d {g:V->V->Option Bool} {e e':Nat} (hp:m[p]?=some (.dict [] e)) (hq:m[q]?=some (.dict [] e')) (hne:p≠q):eqN m g (.ref p) (.ref q)=some true:=by
 show (match m[p]? with
  | some (.list xs)=>(match m[q]? with | some (.list ys)=>if p≠q /\ xs.length=ys.length then aG2 g xs ys else Option.none | _=>Option.none)
  | some (.dict ks _)=>(match m[q]? with | some (.dict ls _)=>if p≠q /\ ks.length=ls.length /\ (aU8 ks&&aU8 ls)=true then aL2 m ls ks else Option.none | _=>Option.none)
  | _=>Option.none)=_
 rw [hp]
 dsimp only
 rw [hq]
 exact if_pos ⟨hne,rfl,rfl⟩
theorem aY9 {f e:Nat} {ks:List (Ky×V)} (h:m[p]?=some (.dict ks e)):rd f m (.ref p)=none:=by
 cases f with
 | zero=>rfl
 | succ f=>
  show (match m[p]? with | some (.list xs)=>(eS (rd f m) xs).map PyData.list | _=>Option.none)=_
  rw [h]
theorem cS1 {f:Nat} {x:V} {xs:List V} (h:rd f m x=none):rd (f+1) m (.tup (x::xs))=none:=by
 show (eS (rd f m) (x::xs)).map PyData.tuple=_
 rw [bZ7 h];rfl
theorem bE3 {f:Nat} {xs:List V} (h:m[p]?=some (.list xs)) (k:eS (rd f m) xs=none):rd (f+1) m (.ref p)=none:=by
 show (match m[p]? with | some (.list xs)=>(eS (rd f m) xs).map PyData.list | _=>Option.none)=_
 rw [h]
 show (eS (rd f m) xs).map PyData.list=_
 rw [k];rfl
end
namespace P10
open C10
noncomputable def gV (g:Nat×Nat×Nat):V:=.tup [.ref g.1,.ref g.2.1]
structure Gk (lo:Nat) (m:MH) (g:Nat×Nat×Nat):Prop where
 a:lo <= g.1
 b:lo <= g.2.1
 k:m[g.1]?=some (.dict [] g.2.2)
 l:m[g.2.1]?=some (.list [])
theorem Gk.le {lo:Nat} {m m':MH} {g:Nat×Nat×Nat} (h:Gk lo m g) (l:Le m m'):Gk lo m' g:=⟨h.a,h.b,l.has h.k,l.has h.l⟩
inductive St (lo:Nat) (m:MH) (t:Tn) (q:Nat):Prop
 | mk (a b d:Nat) (gs:List (Nat×Nat×Nat)) (q0:lo <= q) (a0:lo <= a) (b0:lo <= b) (d0:lo <= d) (kq:m[q]?=some (.list [.ref a,.ref b,.ref d])) (ka:m[a]?=some (.list (t.lets.map aG7))) (kb:m[b]?=some (.list (t.said.map Wo.v))) (kd:m[d]?=some (.list (gs.map gV))) (gl:gs.length=t.hs.length) (gk:∀ g∈gs,Gk lo m g)
theorem St.le {lo:Nat} {m m':MH} {t:Tn} {q:Nat} (h:St lo m t q) (l:Le m m'):St lo m' t q:=by
 rcases h with ⟨a,b,d,gs,q0,a0,b0,d0,kq,ka,kb,kd,gl,gk⟩
 exact ⟨a,b,d,gs,q0,a0,b0,d0,l.has kq,l.has ka,l.has kb,l.has kd,gl,fun g q=>(gk g q).le l⟩
theorem cP3 {g:V->V->Option Bool} {α:Type} {v:α->V}:∀ {xs ys:List α},xs.length=ys.length->(∀ x∈xs,∀ y∈ys,g (v x) (v y)=some true)->aG2 g (xs.map v) (ys.map v)=some true:=by
 intro xs
 induction xs with
 | nil=>
  intro ys e y_
  cases ys with
  | nil=>rfl
  | cons y ys=>exact absurd e (Nat.succ_ne_zero _).symm
 | cons x xs ih=>
  intro ys e h
  cases ys with
  | nil=>exact absurd e (Nat.succ_ne_zero _)
  | cons y ys=>
   show (match g (v x) (v y) with | some a=>(match aG2 g (xs.map v) (ys.map v) with | some b=>some (a&&b) | Option.none=>Option.none) | Option.none=>Option.none)=_
   rw [h x (.head _) y (.head _),ih (Nat.succ.inj e) fun x q y q'=>h x (.tail _ q) y (.tail _ q')];rfl
theorem bM1 {g:V->V->Option Bool} {x y:V} {xs ys:List V} (h:g x y=some true) (k:aG2 g xs ys=some true):aG2 g (x::xs) (y::ys)=some true:=by
 show (match g x y with | some a=>(match aG2 g xs ys with | some b=>some (a&&b) | Option.none=>Option.none) | Option.none=>Option.none)=_
 rw [h,k];rfl
theorem st_eq {lo lo' q q':Nat} {m m0:MH} {t:Tn} (h:St lo m t q) (h':St lo' m0 t q') (l:Le m0 m) (g:m0.length <= lo) (hn:t.hs≠[]):aF9 .NotEq (.ref q) (.ref q') m=.ok false m:=by
 rcases h with ⟨a,b,d,gs,q0,a0,b0,d0,kq,ka,kb,kd,gl,gk⟩
 rcases h' with ⟨a',b',d',gs',q0',a0',b0',d0',kq',ka',kb',kd',gl',gk'⟩
 have ne:∀ {x y:Nat} {o:MObj},lo <= x->m0[y]?=some o->x≠y:=fun h k=>(Nat.ne_of_lt (Nat.lt_of_lt_of_le (bJ k) (Nat.le_trans g h))).symm
 have rg:∀ f,∀ x∈gs,rd (f+1) m (gV x)=none:=fun f x hx=>cS1 (aY9 (gk x hx).k)
 have rd':∀ f,rd (f+2) m (.ref d)=none:=fun f=>by
  refine bE3 kd ?_
  cases gs with
  | nil=>exact absurd (List.length_eq_zero_iff.mp gl.symm) hn
  | cons x xs=>exact bZ7 (rg f x (.head _))
 refine bF1 (eqV_n (bE3 kq (cO3 (cO3 (bZ7 (rd' 9))))) ?_)
 rw [dH2 kq (l.has kq') (ne q0 kq') rfl]
 refine bM1 (bX3 (List.forall_mem_map.mpr fun x y_=>cR9 x) ka (l.has ka')) (bM1 (bX3 (List.forall_mem_map.mpr fun x y_=>cR8 x) kb (l.has kb')) (bM1 ?_ rfl))
 rw [cX0 (rd' 10),dH2 kd (l.has kd') (ne d0 kd') (by rw [List.length_map,List.length_map,gl,gl'])]
 refine cP3 (gl.trans gl'.symm) fun x hx y hy=>?_
 have kx:=gk x hx
 have ky:=gk' y hy
 rw [cX0 (rg _ x hx)]
 refine bM1 ?_ (bM1 (bX3 (fun y_ q=>absurd q List.not_mem_nil) kx.l (l.has ky.l)) rfl)
 rw [cX0 (aY9 kx.k)]
 exact eqN_d kx.k (l.has ky.k) (ne kx.a ky.k)
inductive CI (lo:Nat) (t:Tn) (m:MH) (xs l:List V) (m':MH):Prop
 | mk (ss:List Hs) (gs:List (Nat×Nat×Nat)) (ex:xs=ss.map fun s=>V.int s.own) (el:l=gs.map gV) (hs:∀ s∈ss,s∈t.hs) (le:Le m m') (gl:gs.length+ss.length=t.hs.length) (gk:∀ g∈gs,Gk lo m' g)
section
variable {m:MH} {p b qh:Nat} {t:Tn} {B:List (Nat×MObj)}
theorem bD8 (n:Nat) (H:Tw m N p t B) (O:t.Ok b) (hb:b < lid) (hl:t.hs.length <= 12) (hr:∀ s∈t.hs,s.rows=[] /\ s.named=[]) (hq:m[qh]?=some (.list (t.hs.map fun s=>V.int s.own))):Wp (run sig (n+4) 37 [.ref p,.ref qh]) m (fun u m'=>∃ q,u=.ref q /\ Le m m' /\ St m.length m' t q) nox:=by
 refine fC rfl rfl (a9 (aS (aD (bB tf H rfl rfl rfl (aK (aX (aF0 tf (n+1) H O hb) fun u m1 z=>?_))))))
 rcases z with ⟨qa,rfl,H1,l1,g1⟩
 refine aD (bB tf H1 rfl rfl rfl (aK (aX (bQ6 tf (n+2) H1) fun u m2 z=>?_)))
 rcases z with ⟨qb,rfl,H2,l2,g2⟩
 have l12:=l1.trans l2
 refine aD (cS9 (aD (aC rfl (aK (fV (l12.has hq) ⟨CI m.length t m2,⟨t.hs,[],rfl,rfl,fun y_ q=>q,.refl _,Nat.zero_add _,bL⟩,?_,?_,?_⟩)))))
 ·rintro xs l m' ⟨ss,gs,ex,el,hs,le,gl,gk⟩
  exact dR (le.has (l12.has hq))
 ·rintro x xs l m' ⟨ss,gs,ex,el,hs,le,gl,gk⟩
  cases ss with
  | nil=>injection ex
  | cons s ss=>
   injection ex with e1 e2
   subst e1
   subst el
   have hsm:=hs s (.head _)
   rcases List.getElem?_of_mem hsm with ⟨i,hi⟩
   rcases hr s hsm with ⟨r1,r2⟩
   have H3:=H2.up le
   refine aC rfl (aC rfl (bC5 (aT3 (aD (bB tf H3 rfl rfl rfl (aC rfl (aX (bJ0 tf n H3 O hi (by rw [r1];decide) (by rw [r1];exact List.Pairwise.nil)) fun u m4 z=>?_)))))))
   rcases z with ⟨qd,e,rfl,H4,l4,g4⟩
   refine aD (bB tf H4 rfl rfl rfl (aC rfl (aX (bJ1 tf n H4 O hi) fun u m5 z=>?_)))
   rcases z with ⟨qc,rfl,H5,l5,g5⟩
   have ll:m.length <= m'.length:=(l12.trans le).1
   have k4:=H4.has (.head _)
   have k5:=H5.has (.head _)
   rw [r1] at k4
   rw [r2] at k5
   refine aK ⟨ss,gs++[(qd,qc,e)],e2,by rw [List.map_append];rfl,fun s q=>hs s (.tail _ q),(le.trans l4).trans l5,?_,fun g hg=>?_⟩
   ·rw [List.length_append,<- gl]
    show gs.length+1+ss.length=gs.length+(ss.length+1)
    rw [Nat.add_assoc,Nat.add_comm 1]
   ·rcases List.mem_append.mp hg with hg | hg
    ·exact (gk g hg).le (l4.trans l5)
    ·rw [List.mem_singleton.mp hg]
     exact ⟨Nat.le_trans ll g4,Nat.le_trans ll (Nat.le_trans l4.1 g5),l5.has k4,k5⟩
 ·rintro l m' ⟨ss,gs,ex,el,hs,le,gl,gk⟩
  cases ss with
  | cons s ss=>injection ex
  | nil=>
   subst el
   refine ⟨?_,fun qd m3 l3 k3 g3=>aK (aL fun q m4 l4 k4 g4=>?_)⟩
   ·rw [List.length_map,show gs.length=t.hs.length from gl]
    exact cV hl (by decide)
   ·have lf:=(le.trans l3).trans l4
    have ll:=l12.1
    exact ⟨q,rfl,l12.trans lf,⟨qa,qb,qd,gs,Nat.le_trans (Nat.le_trans (l12.trans le).1 l3.1) g4,g1,Nat.le_trans l1.1 g2,Nat.le_trans (l12.trans le).1 g3,k4,(l2.trans lf).has (H1.has (.head _)),lf.has (H2.has (.head _)),l4.has k3,gl,fun g hg=>(gk g hg).le (l3.trans l4)⟩⟩
end
end P10
end Mini.Internal
namespace Mini.Internal
open PySem
theorem cA8 {a b:Int} (h:V.int a=.int b):a=b:=by injection h
theorem cI {S:Sig} {F:Fns} {r:Lo} {m:MH} {a:CE} {q:Nat} {xs:List V} {j:Nat} {v:V} (ha:ev S F a r m=.ok (.ref q) m) (hq:m[q]?=some (.list xs)) (hv:xs[j]?=some v) (hj:j < 2 ^ 60:=by decide):ev S F (.idx a (.cnst (Lt.int j))) r m=.ok v m:=by
 refine aP3 ha rfl ?_
 unfold aX8
 dsimp only
 rw [hq]
 show (if (j:Int).natAbs < 2 ^ 60 then ofO (at_ xs (j:Int)) m else .bad)=_
 rw [if_pos (by rw [Int.natAbs_natCast];exact hj)]
 unfold at_
 rw [if_pos (Int.natCast_nonneg j),Int.toNat_natCast,hv];rfl
namespace P10
open C10
structure Od (m:MH) (c:Int) (v:V):Prop where
 pl:Pl m v
 nk:∀ k,v=.int k->k=c \/ k < 0 \/ 40 <= k
 row:aF5 v=false
 eq:∃ b,(∀ m',Le m m'->eqV v (.int c) m'=.ok b m') /\ (b=false->v≠.int c)
structure Si10 (m:MH) (p:Nat) (t:Tn) (b:Nat) (l h0 h1:Int) (B:List (Nat×MObj)):Prop where
 H:Tw m N p t B
 O:t.Ok b
 hb:b <= 1000
 l0:0 <= l
 l1:l < t.cnt
 ll:∀ s∈t.hs,s.own≠l
 ow:∀ s∈t.hs,0 <= s.own /\ s.own < t.cnt
 rn:∀ s∈t.hs,s.rows=[] /\ s.named=[]
 s0:∃ s,t.hs[0]?=some s /\ s.own=h0
 s1:∃ s,t.hs[1]?=some s /\ s.own=h1
section
variable {m:MH} {p b:Nat} {t:Tn} {B:List (Nat×MObj)} {l h0 h1:Int} {odd:V}
theorem Si10.c40 (Z:Si10 m p t b l h0 h1 B) {k:Int} (h0:0 <= k) (h1:k < t.cnt):¬ (k=t.cnt \/ k < 0 \/ 40 <= k):=by
 exact fun z=>z.elim (fun q=>Int.ne_of_lt h1 q) fun z=>z.elim (fun q=>Int.not_lt.mpr h0 q) fun q=>absurd (Int.le_trans q (Int.le_trans (Int.le_of_lt h1) Z.O.c2)) (by decide)
theorem Si10.nh (Z:Si10 m p t b l h0 h1 B) (D:Od m t.cnt odd):Nh t odd:=fun k e s hs q=>Z.c40 (Z.ow s hs).1 (Z.ow s hs).2 (q▸D.nk k e)
theorem Si10.nl (Z:Si10 m p t b l h0 h1 B):Nh t (.int l):=fun k e s hs q=>Z.ll s hs (q.trans (cA8 e).symm)
theorem Si10.nli (Z:Si10 m p t b l h0 h1 B) (D:Od m t.cnt odd):Nli t odd:=fun k e q=>absurd (D.nk k e) (Z.c40 q.1 q.2)
theorem Si10.nr (Z:Si10 m p t b l h0 h1 B) (D:Od m t.cnt odd):Nr t l odd:=fun k e q=>absurd (D.nk k e) (Z.c40 q.1 q.2)
theorem Si10.nli0 (Z:Si10 m p t b l h0 h1 B):Nli t (.int h0):=fun k e q=>by
 rcases Z.s0 with ⟨s,hs,eo⟩
 exact ⟨s,List.mem_of_getElem? hs,eo.trans (cA8 e)⟩
theorem Si10.hr (Z:Si10 m p t b l h0 h1 B):0 <= h0 /\ h0 < t.cnt:=by
 rcases Z.s0 with ⟨s,hs,rfl⟩
 exact Z.ow s (List.mem_of_getElem? hs)
theorem Si10.h0l (Z:Si10 m p t b l h0 h1 B):h0≠l:=by
 rcases Z.s0 with ⟨s,hs,rfl⟩
 exact Z.ll s (List.mem_of_getElem? hs)
theorem cA5 {s:Hs} {v:V} (hv:Pl m v) (h:s.rows=[]):(match v with | .int k=>!s.wrote k | _=>true)=true:=by
 cases hv with
 | int k=>show (!(s.rows.any fun x=>x.1 == k))=true;rw [h];rfl
 | _=>rfl
theorem Si10.c2 (Z:Si10 m p t b l h0 h1 B) (n:Nat) {m1:MH} (e:Le m m1) (D:Od m t.cnt odd):Thr (run sig (n+8) 24 [.ref p,.int h0,odd]) m1 4:=by
 rcases Z.s0 with ⟨s,hs,rfl⟩
 exact bP9 tf n (Z.H.up e) Z.O hs (D.pl.le e) D.row
theorem bk2 (n:Nat) {i:Nat} {h:Int} {v:V} (H:Tw m N p t B) (O:t.Ok b) (rn:∀ s∈t.hs,s.rows=[] /\ s.named=[]) (hs:∃ s,t.hs[i]?=some s /\ s.own=h) (hv:Pl m v):Thr (run sig (n+3) 30 [.ref p,.int h,v]) m 8:=by
 rcases hs with ⟨s,hs,rfl⟩
 exact aS1 tf n H O hs hv (cA5 hv (rn s (List.mem_of_getElem? hs)).1)
end
noncomputable def Ca (m:MH) (p:Nat) (v:V):Prop:=∃ a b c d s,v=.tup [a,b,c,d,.str s] /\ ∀ m',Le m m'->∀ n,Wp (run sig (n+9) 36 [.ref p,a,b,c,d]) m' (fun u m''=>u=.tup [.str s] /\ Le m' m'') nox
noncomputable def cs0 (l h0 h1:Int) (odd a0:V) (a1:Int) (bad:V) (nv:Wo):List V:=[.tup [.int 0,odd,(.int 0),(.str (Str.ofString "tea")),(.str (Str.ofString "house"))],.tup [.int 0,(.int l),(.int 0),.none,(.str (Str.ofString "house"))],.tup [.int 0,(.int h0),(.int 0),odd,(.str (Str.ofString "row"))]]
noncomputable def cs1 (l h0 h1:Int) (odd a0:V) (a1:Int) (bad:V) (nv:Wo):List V:=[.tup [.int 0,odd,(.int 0),(.str (Str.ofString "")),(.str (Str.ofString "house"))],.tup [.int 1,a0,(.int 0),(.int 0),(.str (Str.ofString "letter"))],.tup [.int 1,(.int a1),(.int 0),(.int 0),(.str (Str.ofString "letter"))]]
noncomputable def cs2 (l h0 h1:Int) (odd a0:V) (a1:Int) (bad:V) (nv:Wo):List V:=[.tup [.int 2,odd,odd,bad,(.str (Str.ofString "house"))],.tup [.int 2,(.int h0),(.int l),bad,(.str (Str.ofString "house"))],.tup [.int 2,(.int l),odd,bad,(.str (Str.ofString "house"))]]
noncomputable def cs3 (l h0 h1:Int) (odd a0:V) (a1:Int) (bad:V) (nv:Wo):List V:=[.tup [.int 2,(.int l),(.int l),nv.v,(.str (Str.ofString "house"))],.tup [.int 2,(.int l),(.int h0),bad,(.str (Str.ofString "word"))]]
noncomputable def cs4 (l h0 h1:Int) (odd a0:V) (a1:Int) (bad:V) (nv:Wo):List V:=[.tup [.int 2,(.int l),(.int h0),nv.v,(.str (Str.ofString "forged"))],.tup [.int 3,odd,(.int 0),(.int 0),(.str (Str.ofString "house"))],.tup [.int 3,(.int l),(.int 0),(.int 0),(.str (Str.ofString "house"))]]
noncomputable def cs5 (l h0 h1:Int) (odd a0:V) (a1:Int) (bad:V) (nv:Wo):List V:=[.tup [.int 4,odd,(.int 0),(.int 0),(.str (Str.ofString "house"))],.tup [.int 4,(.int l),odd,(.int 0),(.str (Str.ofString "house"))],.tup [.int 4,(.int h0),(.int 9),(.int 0),(.str (Str.ofString "written"))]]
noncomputable def cs6 (l h0 h1:Int) (odd a0:V) (a1:Int) (bad:V) (nv:Wo):List V:=[.tup [.int 4,(.int h1),odd,(.int 0),(.str (Str.ofString "written"))],.tup [.int 5,odd,(.int 0),(.int 0),(.str (Str.ofString "house"))],.tup [.int 5,(.int l),(.int 0),(.int 0),(.str (Str.ofString "house"))]]
noncomputable def csL (l h0 h1:Int) (odd a0:V) (a1:Int) (bad:V) (nv:Wo):List V:=cs0 l h0 h1 odd a0 a1 bad nv++cs1 l h0 h1 odd a0 a1 bad nv++cs2 l h0 h1 odd a0 a1 bad nv++cs3 l h0 h1 odd a0 a1 bad nv++cs4 l h0 h1 odd a0 a1 bad nv++cs5 l h0 h1 odd a0 a1 bad nv++cs6 l h0 h1 odd a0 a1 bad nv
theorem aD8 {α:Type} {P:α->Prop} {a b:List α} (h:∀ x∈a,P x) (k:∀ x∈b,P x):∀ x∈a++b,P x:=fun x q=>(List.mem_append.mp q).elim (h x) (k x)
section
variable {m:MH} {p b:Nat} {t:Tn} {B:List (Nat×MObj)} {l h0 h1 a1:Int} {odd a0 bad:V} {nv:Wo}
theorem ca0 (Z:Si10 m p t b l h0 h1 B) (Od:Od m t.cnt odd) (A0:Pl m a0 /\ Nl t a0) (A1:Nl t (.int a1)) (Bd:Th m bad /\ isW t.cnt bad=false) (nv_:nv.Ok t.cnt /\ nv.h≠l /\ nv∉t.said):∀ v∈cs0 l h0 h1 odd a0 a1 bad nv,Ca m p v:=
  aI ⟨_,_,_,_,_,rfl,fun m1 e n=>ask0 (n+7) (Z.H.up e) (bG (aH1 tf (n+5) (Z.H.up e) (Od.pl.le e) (Z.nh Od)) ⟨_,kd3,fun m2 e2=>⟨rfl,e2⟩⟩)⟩
  (aI ⟨_,_,_,_,_,rfl,fun m1 e n=>ask0 (n+7) (Z.H.up e) (bG (aH1 tf (n+5) (Z.H.up e) (.int _) Z.nl) ⟨_,kd3,fun m2 e2=>⟨rfl,e2⟩⟩)⟩
  (aI ⟨_,_,_,_,_,rfl,fun m1 e n=>ask0 (n+7) (Z.H.up e) (bG (Z.c2 n e Od) ⟨_,kd4,fun m2 e2=>⟨rfl,e2⟩⟩)⟩
  (bL)))
theorem ca1 (Z:Si10 m p t b l h0 h1 B) (Od:Od m t.cnt odd) (A0:Pl m a0 /\ Nl t a0) (A1:Nl t (.int a1)) (Bd:Th m bad /\ isW t.cnt bad=false) (nv_:nv.Ok t.cnt /\ nv.h≠l /\ nv∉t.said):∀ v∈cs1 l h0 h1 odd a0 a1 bad nv,Ca m p v:=
  aI ⟨_,_,_,_,_,rfl,fun m1 e n=>ask0 (n+7) (Z.H.up e) (bG (aH1 tf (n+5) (Z.H.up e) (Od.pl.le e) (Z.nh Od)) ⟨_,kd3,fun m2 e2=>⟨rfl,e2⟩⟩)⟩
  (aI ⟨_,_,_,_,_,rfl,fun m1 e n=>dJ2 (n+7) (Z.H.up e) (bG (aB0 tf (n+5) (Z.H.up e) (A0.1.le e) A0.2) ⟨_,kd7,fun m2 e2=>⟨rfl,e2⟩⟩)⟩
  (aI ⟨_,_,_,_,_,rfl,fun m1 e n=>dJ2 (n+7) (Z.H.up e) (bG (aB0 tf (n+5) (Z.H.up e) (.int _) A1) ⟨_,kd7,fun m2 e2=>⟨rfl,e2⟩⟩)⟩
  (bL)))
theorem ca2 (Z:Si10 m p t b l h0 h1 B) (Od:Od m t.cnt odd) (A0:Pl m a0 /\ Nl t a0) (A1:Nl t (.int a1)) (Bd:Th m bad /\ isW t.cnt bad=false) (nv_:nv.Ok t.cnt /\ nv.h≠l /\ nv∉t.said):∀ v∈cs2 l h0 h1 odd a0 a1 bad nv,Ca m p v:=
  aI ⟨_,_,_,_,_,rfl,fun m1 e n=>cK1 (n+7) (Z.H.up e) (bG (bU8 tf (n+4) (Z.H.up e) Z.O (Od.pl.le e) (Z.nli Od)) ⟨_,kd3,fun m2 e2=>⟨rfl,e2⟩⟩)⟩
  (aI ⟨_,_,_,_,_,rfl,fun m1 e n=>cK1 (n+7) (Z.H.up e) (bG (bU8 tf (n+4) (Z.H.up e) Z.O (.int _) Z.nli0) ⟨_,kd3,fun m2 e2=>⟨rfl,e2⟩⟩)⟩
  (aI ⟨_,_,_,_,_,rfl,fun m1 e n=>cK1 (n+7) (Z.H.up e) (bG (bU7 tf (n+4) (Z.H.up e) Z.l0 Z.l1 Z.ll (Od.pl.le e) (Z.nr Od)) ⟨_,kd3,fun m2 e2=>⟨rfl,e2⟩⟩)⟩
  (bL)))
theorem ca3 (Z:Si10 m p t b l h0 h1 B) (Od:Od m t.cnt odd) (A0:Pl m a0 /\ Nl t a0) (A1:Nl t (.int a1)) (Bd:Th m bad /\ isW t.cnt bad=false) (nv_:nv.Ok t.cnt /\ nv.h≠l /\ nv∉t.said):∀ v∈cs3 l h0 h1 odd a0 a1 bad nv,Ca m p v:=
  aI ⟨_,_,_,_,_,rfl,fun m1 e n=>cK1 (n+7) (Z.H.up e) (bG (bU7 tf (n+4) (Z.H.up e) Z.l0 Z.l1 Z.ll (.int _) fun k q y_=>(cA8 q).symm) ⟨_,kd3,fun m2 e2=>⟨rfl,e2⟩⟩)⟩
  (aI ⟨_,_,_,_,_,rfl,fun m1 e n=>cK1 (n+7) (Z.H.up e) (bG (cU4 tf (n+4) (Z.H.up e) Z.O Z.l0 Z.l1 Z.ll Z.hr.1 Z.hr.2 Z.h0l (Bd.1.le e) Bd.2) ⟨_,kd5,fun m2 e2=>⟨rfl,e2⟩⟩)⟩
  (bL))
theorem ca4 (Z:Si10 m p t b l h0 h1 B) (Od:Od m t.cnt odd) (A0:Pl m a0 /\ Nl t a0) (A1:Nl t (.int a1)) (Bd:Th m bad /\ isW t.cnt bad=false) (nv_:nv.Ok t.cnt /\ nv.h≠l /\ nv∉t.said):∀ v∈cs4 l h0 h1 odd a0 a1 bad nv,Ca m p v:=
  aI ⟨_,_,_,_,_,rfl,fun m1 e n=>cK1 (n+7) (Z.H.up e) (bG (bU6 tf (n+4) (Z.H.up e) Z.O Z.l0 Z.l1 Z.ll Z.hr.1 Z.hr.2 Z.h0l nv_.1 nv_.2.1 nv_.2.2) ⟨_,kd6,fun m2 e2=>⟨rfl,e2⟩⟩)⟩
  (aI ⟨_,_,_,_,_,rfl,fun m1 e n=>ask3 (n+7) (Z.H.up e) (bG (aL6 tf (n+5) (Z.H.up e) (Od.pl.le e) (Z.nh Od)) ⟨_,kd3,fun m2 e2=>⟨rfl,e2⟩⟩)⟩
  (aI ⟨_,_,_,_,_,rfl,fun m1 e n=>ask3 (n+7) (Z.H.up e) (bG (aL6 tf (n+5) (Z.H.up e) (.int _) Z.nl) ⟨_,kd3,fun m2 e2=>⟨rfl,e2⟩⟩)⟩
  (bL)))
theorem ca5 (Z:Si10 m p t b l h0 h1 B) (Od:Od m t.cnt odd) (A0:Pl m a0 /\ Nl t a0) (A1:Nl t (.int a1)) (Bd:Th m bad /\ isW t.cnt bad=false) (nv_:nv.Ok t.cnt /\ nv.h≠l /\ nv∉t.said):∀ v∈cs5 l h0 h1 odd a0 a1 bad nv,Ca m p v:=
  aI ⟨_,_,_,_,_,rfl,fun m1 e n=>ask4 (n+7) (Z.H.up e) (bG (aE1 tf (n+5) (Z.H.up e) (Od.pl.le e) (Z.nh Od)) ⟨_,kd3,fun m2 e2=>⟨rfl,e2⟩⟩)⟩
  (aI ⟨_,_,_,_,_,rfl,fun m1 e n=>ask4 (n+7) (Z.H.up e) (bG (aE1 tf (n+5) (Z.H.up e) (.int _) Z.nl) ⟨_,kd3,fun m2 e2=>⟨rfl,e2⟩⟩)⟩
  (aI ⟨_,_,_,_,_,rfl,fun m1 e n=>ask4 (n+7) (Z.H.up e) (bG (bk2 (n+5) (Z.H.up e) Z.O Z.rn Z.s0 (.int _)) ⟨_,kd8,fun m2 e2=>⟨rfl,e2⟩⟩)⟩
  (bL)))
theorem ca6 (Z:Si10 m p t b l h0 h1 B) (Od:Od m t.cnt odd) (A0:Pl m a0 /\ Nl t a0) (A1:Nl t (.int a1)) (Bd:Th m bad /\ isW t.cnt bad=false) (nv_:nv.Ok t.cnt /\ nv.h≠l /\ nv∉t.said):∀ v∈cs6 l h0 h1 odd a0 a1 bad nv,Ca m p v:=
  aI ⟨_,_,_,_,_,rfl,fun m1 e n=>ask4 (n+7) (Z.H.up e) (bG (bk2 (n+5) (Z.H.up e) Z.O Z.rn Z.s1 (Od.pl.le e)) ⟨_,kd8,fun m2 e2=>⟨rfl,e2⟩⟩)⟩
  (aI ⟨_,_,_,_,_,rfl,fun m1 e n=>ask5 (n+7) (Z.H.up e) (bG (aL7 tf (n+5) (Z.H.up e) (Od.pl.le e) (Z.nh Od)) ⟨_,kd3,fun m2 e2=>⟨rfl,e2⟩⟩)⟩
  (aI ⟨_,_,_,_,_,rfl,fun m1 e n=>ask5 (n+7) (Z.H.up e) (bG (aL7 tf (n+5) (Z.H.up e) (.int _) Z.nl) ⟨_,kd3,fun m2 e2=>⟨rfl,e2⟩⟩)⟩
  (bL)))
theorem dI5 (Z:Si10 m p t b l h0 h1 B) (Od:Od m t.cnt odd) (A0:Pl m a0 /\ Nl t a0) (A1:Nl t (.int a1)) (Bd:Th m bad /\ isW t.cnt bad=false) (nv_:nv.Ok t.cnt /\ nv.h≠l /\ nv∉t.said):∀ v∈csL l h0 h1 odd a0 a1 bad nv,Ca m p v:=
 aD8 (aD8 (aD8 (aD8 (aD8 (aD8 (ca0 Z Od A0 A1 Bd nv_) (ca1 Z Od A0 A1 Bd nv_)) (ca2 Z Od A0 A1 Bd nv_)) (ca3 Z Od A0 A1 Bd nv_)) (ca4 Z Od A0 A1 Bd nv_)) (ca5 Z Od A0 A1 Bd nv_)) (ca6 Z Od A0 A1 Bd nv_)
theorem cJ5 (n:Nat) {qh ql:Nat} {hs ls:List V} (kh:m[qh]?=some (.list hs)) (kl:m[ql]?=some (.list ls)) (x0:hs[0]?=some (.int h0)) (x1:hs[1]?=some (.int h1)) (y0:ls[0]?=some a0) (y1:ls[1]?=some (.int a1)):Wp (run sig (n+1) 38 [.int l,.ref qh,odd,.ref ql,bad,nv.v]) m (fun u m'=>∃ q,u=.ref q /\ Le m m' /\ m'[q]?=some (.list (csL l h0 h1 odd a0 a1 bad nv))) nox:=by
 refine fC rfl rfl (bK (aS (aH (a:=cs0 l h0 h1 odd a0 a1 bad nv) (aG rfl (aG rfl (aG (aC0 (aG rfl (aG (cI rfl (kh) x0) rfl))) rfl))) (aL fun q0 m0 e0 k0 y_=>?_))))
 have E0:=e0
 refine bK (d9 (aC rfl (aS (aH (a:=cs1 l h0 h1 odd a0 a1 bad nv) (aG rfl (aG (aC0 (aG rfl (aG (cI rfl (E0.has kl) y0) rfl))) (aG (aC0 (aG rfl (aG (cI rfl (E0.has kl) y1) rfl))) rfl))) (aL fun r1 n1 f1 j1 y_=>fD (f1.has k0) j1 (show 3+3 <= lid by decide) fun q1 m1 e1 k1 y_=>?_)))))
 have E1:=(E0.trans f1).trans e1
 refine bK (d9 (aC rfl (aS (aH (a:=cs2 l h0 h1 odd a0 a1 bad nv) (aG rfl (aG (aC0 (aG rfl (aG (cI rfl (E1.has kh) x0) rfl))) (aG rfl rfl))) (aL fun r2 n2 f2 j2 y_=>fD (f2.has k1) j2 (show 6+3 <= lid by decide) fun q2 m2 e2 k2 y_=>?_)))))
 have E2:=(E1.trans f2).trans e2
 refine bK (d9 (aC rfl (aS (aH (a:=cs3 l h0 h1 odd a0 a1 bad nv) (aG rfl (aG (aC0 (aG rfl (aG rfl (aG (cI rfl (E2.has kh) x0) rfl)))) rfl)) (aL fun r3 n3 f3 j3 y_=>fD (f3.has k2) j3 (show 9+2 <= lid by decide) fun q3 m3 e3 k3 y_=>?_)))))
 have E3:=(E2.trans f3).trans e3
 refine bK (d9 (aC rfl (aS (aH (a:=cs4 l h0 h1 odd a0 a1 bad nv) (aG (aC0 (aG rfl (aG rfl (aG (cI rfl (E3.has kh) x0) rfl)))) (aG rfl (aG rfl rfl))) (aL fun r4 n4 f4 j4 y_=>fD (f4.has k3) j4 (show 11+3 <= lid by decide) fun q4 m4 e4 k4 y_=>?_)))))
 have E4:=(E3.trans f4).trans e4
 refine bK (d9 (aC rfl (aS (aH (a:=cs5 l h0 h1 odd a0 a1 bad nv) (aG rfl (aG rfl (aG (aC0 (aG rfl (aG (cI rfl (E4.has kh) x0) rfl))) rfl))) (aL fun r5 n5 f5 j5 y_=>fD (f5.has k4) j5 (show 14+3 <= lid by decide) fun q5 m5 e5 k5 y_=>?_)))))
 have E5:=(E4.trans f5).trans e5
 refine a9 (d9 (aC rfl (aS (aH (a:=cs6 l h0 h1 odd a0 a1 bad nv) (aG (aC0 (aG rfl (aG (cI rfl (E5.has kh) x1) rfl))) (aG rfl (aG rfl rfl))) (aL fun r6 n6 f6 j6 y_=>fD (f6.has k5) j6 (show 17+3 <= lid by decide) fun q6 m6 e6 k6 y_=>?_)))))
 exact ⟨q6,rfl,(E5.trans f6).trans e6,k6⟩
end
end P10
end Mini.Internal
namespace Mini.Internal
open PySem
theorem cS8 {S:Sig} {F:Fns} {elt:CE} {k:IK} {t:CT} {nl:Nat} {src:List CE} {r:Lo} {m:MH} {Q:V->MH->Prop} {E:Nat->MH->Prop} {α:Type} (zs:List α) (vv ww:α->V)
  (h:Wp (evs S F src r) m (fun vs m'=>Wp (aB1 k vs) m' (fun p m'=>∃ M:MH->Prop,p.1=zs.map vv /\ M m' /\ (∀ m,M m->p.2.stays m=true) /\
   (∀ z∈zs,∀ m,M m->Wp (aH5 t (vv z) (r++List.replicate nl Option.none)) m (fun r' m'=>Wp (ev S F elt r') m' (fun y m'=>y=ww z /\ M m') nox) nox) /\
   zs.length <= lid /\ ∀ p m1 m2,M m1->Le m1 m2->m2[p]?=some (.list (zs.map ww))->m1.length <= p->Q (.ref p) m2) E) E):Wp (ev S F (.comp elt t nl k src []) r) m Q E:=by
 refine aM (x:=evs S F src r) (wp_mono h (fun vs m' h=>aM (x:=aB1 k vs) (wp_mono h (fun p m' h=>?_) fun y_ y_ q=>q)) fun y_ y_ q=>q)
 rcases h with ⟨M,e0,h0,hg,hs,hl,hn⟩
 rw [e0]
 refine aM (aX (bM3 (keep:=fun y_=>true) (ww:=ww) hg (fun z hz m hm=>?_) m' h0) fun l m1 q=>?_)
 ·exact aM (x:=aH5 t (vv z) _) (wp_mono (hs z hz m hm) (fun r' m' q=>aM (x:=ev S F elt r') (wp_mono q (fun y m' q=>⟨congrArg some q.1,q.2⟩) fun y_ y_ q=>q)) fun y_ y_ q=>q)
 ·rw [aN3] at q
  have hle:l.length <= lid:=by rw [q.1,List.length_map];exact hl
  rw [if_pos hle]
  exact aL fun p m2 l2 k g=>hn p m1 m2 q.2 l2 (q.1▸k) g
theorem aU6:∀ is:List Int,eY (is.map V.int)=some is
 | []=>rfl
 | i::is=>by
  show (eY (is.map V.int)).map (i::·)=_
  rw [aU6 is];rfl
theorem dE7 {m:MH} {q:Nat} {is:List Int} {i:Int} (k:m[q]?=some (.list (is.map V.int))) (h:i∈is) (hl:∀ j∈is,j <= i):biV .max1 [.ref q] m=.ok (.int i) m:=by
 show (match m[q]? with | some (.list xs)=>(match eY xs with | some is=>(match is.max? with | some i=>(Res.ok (V.int i) m:Res V) | Option.none=>.bad) | Option.none=>.bad) | _=>.bad)=_
 rw [k]
 dsimp only
 rw [aU6]
 dsimp only
 rw [List.max?_eq_some_iff.mpr ⟨h,hl⟩]
namespace P10
open C10
noncomputable def dC6 (h:Int) (r:Str):Wo:=⟨cY,h,r,h⟩
noncomputable def Fit (h0 h1:Int) (r:Str) (x:Int×Lr):Prop:=x.2.r=h1->x.2.w.k=cY->x.2.w=dC6 h0 r
inductive LI (p qw:Nat) (t:Tn) (b:Nat) (h0 h1:Int) (rw_:Str) (r0:Option V->Option V->Lo) (B:List (Nat×MObj)) (zs:List (Int×Lr)) (r:Lo) (m':MH):Prop
 | mk (k:Nat) (t':Tn) (x y:Option V) (er:r=r0 x y) (H:Tw m' N p t' ((qw,.list (t.lets.map aG7))::B)) (O:t'.Ok (b+k * 300)) (kl:k+zs.length <= 100)
   (ec:t'.cnt=t.cnt) (eo:t'.hs.map (·.own)=t.hs.map (·.own)) (e0:t'.hs[0]?=t.hs[0]?) (as:(zs.map (·.1)).Pairwise (· < ·)) (zl:∀ x∈zs,x∈t'.lets) (zf:∀ x∈zs,Fit h0 h1 rw_ x)
   (dn:mrk h0 rw_ h1∈t'.said \/ (t'.hs[1]?=some (Hs.new t.cnt h1) /\ ∃ x∈zs,x.2.r=h1 /\ x.2.w=dC6 h0 rw_))
structure Sl (t:Tn) (b:Nat) (l h0 h1:Int) (r:Str):Prop where
 O:t.Ok b
 hb:b <= 1000
 c4:4 <= t.cnt
 l0:0 <= l
 l1:l < t.cnt
 ll:l∉t.hs.map (·.own)
 ow:∀ o∈t.hs.map (·.own),0 <= o /\ o < t.cnt
 s0:∃ s,t.hs[0]?=some s /\ s.own=h0 /\ s.onw=h0+t.cnt
 s1:t.hs[1]?=some (Hs.new t.cnt h1)
 fit:∀ x∈t.lets,Fit h0 h1 r x
 has:∃ x∈t.lets,x.2.r=h1 /\ x.2.w=dC6 h0 r
 no:mrk h0 r h1∉t.said
 ln:t.lets.length <= 100
theorem dE4 {t t':Tn} {l:Int} (h:l∉t.hs.map (·.own)) (e:t'.hs.map (·.own)=t.hs.map (·.own)):∀ s∈t'.hs,s.own≠l:=fun s hs c=>h (e▸c▸List.mem_map.mpr ⟨s,hs,rfl⟩)
section
variable {m:MH} {p b qh:Nat} {t:Tn} {B:List (Nat×MObj)} {l h0 h1:Int} {rr:Str} {good:Wo}
theorem cU5 (n:Nat) {qw:Nat} {g c:V} {z:Int×Lr} {zs:List (Int×Lr)} {r:Lo} {m':MH} {E:Nat->MH->Prop} {Q:Fl×Lo->MH->Prop} {hs:List V} (Z:Sl t b l h0 h1 rr) (kh:(qh,.list hs)∈B) (x1:hs[1]?=some (.int h1))
  (I:LI p qw t b h0 h1 rr (fun x y=>[some (.ref p),some (.int l),some (.ref qh),some (.str rr),some g,some c,some (mrk h0 rr h1).v,x,y,none]) B (z::zs) r m') :
  Wp (aH5 (.many [7,8]) (aG7 z) r) m' (fun r' m2=>Wp (exs sig (run sig (n+8)) [
  (.ite (.all true [(.val (.cmp (.idx (.var 8) (.cnst (Lt.int 1))) [.Eq] [(.idx (.var 2) (.cnst (Lt.int 1)))])),(.val (.cmp (.idx (.idx (.var 8) (.cnst (Lt.int 2))) (.cnst (Lt.int 0))) [.Eq] [(.cnst (Lt.str (Str.ofString "say")))]))]) [
   (.exp (.meth (.var 0) 18 [(.var 7)]))] [])] r') m2 (bL8 Q (LI p qw t b h0 h1 rr (fun x y=>[some (.ref p),some (.int l),some (.ref qh),some (.str rr),some g,some c,some (mrk h0 rr h1).v,x,y,none]) B) zs) E) E:=by
 rcases I with ⟨k,t',x,y,er,H,O,kl,ec,eo,e0,as,zl,zf,dn⟩
 subst er
 rw [List.map_cons,List.pairwise_cons] at as
 rw [List.length_cons] at kl
 have kl2:(k+1)+zs.length <= 100:=by rw [Nat.add_assoc,Nat.add_comm 1];exact kl
 have O':t'.Ok (b+(k+1) * 300):=O.mono (Nat.add_le_add_left (Nat.mul_le_mul_right 300 (Nat.le_succ k)) b)
 refine aC rfl (aE6 (aM3 (cK (aH (a:=z.2.r == h1) (m':=m') (aO (aU rfl (cI rfl (H.has (.tail _ kh)) x1) rfl)) ?_))))
 have skip:(z.2.r=h1->z.2.w.k≠cY)->LI p qw t b h0 h1 rr (fun x y=>[some (.ref p),some (.int l),some (.ref qh),some (.str rr),some g,some c,some (mrk h0 rr h1).v,x,y,none]) B zs [some (.ref p),some (.int l),some (.ref qh),some (.str rr),some g,some c,some (mrk h0 rr h1).v,some (.int z.1),some z.2.v,none] m':=fun hn=>
  ⟨k+1,t',_,_,rfl,H,O',kl2,ec,eo,e0,as.2,fun x q=>zl x (.tail _ q),fun x q=>zf x (.tail _ q),dn.imp id fun d=>⟨d.1,by
   rcases d.2 with ⟨x,hx,e1,e2⟩
   rcases List.mem_cons.mp hx with hx | hx
   ·subst hx;exact absurd (by rw [e2];rfl) (hn e1)
   ·exact ⟨x,hx,e1,e2⟩⟩⟩
 cases z1:z.2.r == h1 with
 | false=>exact cY5 (dE (skip fun c=>absurd c (beq_eq_false_iff_ne.mp z1)))
 | true=>
  have z1:=eq_of_beq z1
  refine bC5 (cK (aC (a:=z.2.w.k == cY) (m':=m') rfl ?_))
  cases z2:z.2.w.k == cY with
  | false=>exact cY5 (dE (skip fun y_=>beq_eq_false_iff_ne.mp z2))
  | true=>
   have z2:=eq_of_beq z2
   have ew:=zf z (.head _) z1 z2
   refine bC5 (aC rfl ?_)
   have hin:h1∈t'.hs.map (·.own):=by
    rw [eo]
    exact List.mem_map.mpr ⟨_,List.mem_of_getElem? Z.s1,rfl⟩
   have o1:∃ s,t'.hs[1]?=some s /\ s.own=h1:=by
    have:(t'.hs.map (·.own))[1]?=some h1:=by rw [eo,List.getElem?_map,Z.s1];rfl
    rw [List.getElem?_map] at this
    rcases Option.map_eq_some_iff.mp this with ⟨s,e,q⟩
    exact ⟨s,e,q⟩
   rcases o1 with ⟨s,hs1,os⟩
   have hz:=zl z (.head _)
   have hb:b+k * 300+300 < lid:=by
    have:=Z.hb
    unfold lid
    lia
   refine dS (bB tf H rfl rfl rfl (aC rfl (aX (bD6 tf (n+1) H O (k:=z.1) (l:=z.2) hz hs1 (os.trans z1.symm) hb) fun u m3 z3=>?_)))
   rcases z3 with ⟨q,y_,H3⟩
   refine dE ⟨k+1,_,_,_,rfl,H3.tail,((O.take z.1).hear (i:=1) (s:=s) hs1 z.2.w).mono (by rw [Nat.succ_mul,Nat.add_assoc];exact Nat.le_refl _),kl2,(cE _ _ _).1.trans ec,(bD4 (t:=t'.take z.1) hs1 (aF7 s z.2.w)).trans eo,?_,as.2,fun x hx=>?_,fun x q=>zf x (.tail _ q),.inl (turn_said.mpr ?_)⟩
   ·rw [show ((t'.take z.1).turn 1 (s.hear z.2.w)).hs=t'.hs.set 1 (s.hear z.2.w).1 from (cE _ _ _).2.1,List.getElem?_set_ne (by decide)]
    exact e0
   ·refine bD5 (List.mem_filter.mpr ⟨zl x (.tail _ hx),?_⟩)
    rw [Bool.not_eq_true',beq_eq_false_iff_ne]
    exact fun c=>Int.ne_of_gt (as.1 x.1 (List.mem_map.mpr ⟨x,hx,rfl⟩)) c
   ·rcases dn with d | d
    ·exact .inl d
    ·refine .inr ?_
     rw [d.1] at hs1
     rw [<- Option.some.inj hs1,ew]
     show mrk h0 rr h1∈(Hs.hear ⟨t.cnt,h1,h1,[],[],[],[]⟩ (dC6 h0 rr)).2
     rw [bG7 Z.c4 rfl]
     exact .head _
end
end P10
end Mini.Internal
namespace Mini.Internal
open PySem
theorem dC7 {S:Sig} {F:Fns} {k:IK} {t:CT} {src:List CE} {body ss:List CS} {r:Lo} {m:MH} {Q:Fl×Lo->MH->Prop} {E:Nat->MH->Prop} {α:Type} (zs:List α) (vv:α->V) (h:Wp (evs S F src r) m (fun vs m'=>Wp (aB1 k vs) m' (fun p m'=>∃ I:List α->Lo->MH->Prop,p.1=zs.map vv /\ I zs r m' /\ (∀ zs r m,I zs r m->p.2.stays m=true) /\
      (∀ z zs r m,I (z::zs) r m->Wp (aH5 t (vv z) r) m (fun r' m'=>Wp (exs S F body r') m' (bL8 Q I zs) E) E) /\ (∀ r m,I [] r m->Wp (exs S F ss r) m Q E)) E) E):Wp (exs S F (.for_ k t src body::ss) r) m Q E:=by
  refine cE1 (wp_mono h (fun vs m' h=>wp_mono h (fun p m' h=>?_) fun y_ y_ q=>q) fun y_ y_ q=>q)
  rcases h with ⟨I,e0,h0,hg,hs,hn⟩
  refine ⟨fun xs r m=>∃ z,xs=z.map vv /\ I z r m,⟨zs,e0,h0⟩,fun y_ y_ y_ ⟨_,_,q⟩=>hg _ _ _ q,?_,?_⟩
  · rintro x xs r m ⟨z,e,q⟩
    cases z with
    | nil=>injection e
    | cons c z=>
      cases (e)
      refine wp_mono (hs c z r m q) (fun r' m' q=>wp_mono q (fun p m' q=>?_) fun y_ y_ q=>q) fun y_ y_ q=>q
      rcases p with ⟨f,r1⟩
      cases f with
      | ret v=>exact q
      | next=>exact ⟨z,rfl,q⟩
      | cont=>exact ⟨z,rfl,q⟩
  · rintro r m ⟨z,e,q⟩
    cases z with
    | nil=>exact hn r m q
    | cons=>injection e
theorem eq_wo (w:Wo) (m:MH):aF9 .Eq w.v w.v m=.ok true m:=by
 show Res.ok (PyData.eqv w.d w.d) m=_
 rw [cI8,decide_eq_true rfl]
theorem cL8 (i:Int) (m:MH):aF9 .NotEq (.int i) (.int i) m=.ok false m:=by
 show Res.ok (!(i == i)) m=_
 rw [beq_self_eq_true];rfl
theorem dC9 (s:Str):Rf (.tup [.str s]):=⟨.tuple [.str s],fun y_=>rfl,by show (s == s&&true)=true;rw [beq_self_eq_true];rfl⟩
theorem dD0:Rf (.tup []):=⟨.tuple [],fun y_=>rfl,rfl⟩
section
variable {S:Sig} {N:HN} {m:MH} {t:Tn} {p b i:Nat} {B:List (Nat×MObj)} {s:Hs}
theorem bQ0 (Z:TF S N) (n:Nat) {r:Str} {h:Int} (H:Tw m N p t B) (k:t.Ok b) (hs:t.hs[i]?=some s) (ho:s.own=h) (hr:aF5 (.str r)=true) (hrl:r.length <= 64) (hb:b+300 < lid):Wp (run S (n+8) (N.ki+16) [.ref p,.int h,.str r]) m (fun u m'=>∃ q,u=.ref q /\ Tw m' N p (t.turn i (s.call r)) ((q,.list ((s.call r).2.map Wo.v))::B)) nox:=by
 subst ho
 exact cD3 Z n H k hs hr hrl hb
end
namespace P10
open C10
section
variable {m:MH} {p b qh:Nat} {t:Tn} {B:List (Nat×MObj)} {l h0 h1:Int} {rr:Str} {good:Wo}
theorem cU8 (n:Nat) {hs:List V} {x y z:Option V} (H:Tw m N p t B) (O:t.Ok b) (hb:b <= 32000) (l0:0 <= l) (l1:l < t.cnt) (ll:∀ s∈t.hs,s.own≠l) (s0:∃ s,t.hs[0]?=some s /\ s.own=h0 /\ s.onw=h0+t.cnt) (h00:0 <= h0) (h01:h0 < t.cnt) (h0l:h0≠l) (kh:(qh,.list hs)∈B) (x0:hs[0]?=some (.int h0)) (hr:aF5 (.str rr)=true) (hrl:rr.length <= 64) (g:good.Ok t.cnt) (gh:good.h=l) (k1:mrk h0 rr h1∈t.said) (mo:(mrk h0 rr h1).Ok t.cnt) :
  Wp (exs sig (run sig (n+8)) (f_law_later.drop 3) [some (.ref p),some (.int l),some (.ref qh),some (.str rr),some good.v,some (.int t.cnt),some (mrk h0 rr h1).v,x,y,z]) m (cA3 fun u y_=>u=.bool true) nox:=by
 have hbl:∀ k,k <= 1000->b+k < lid:=fun k hk=>Nat.lt_of_le_of_lt (Nat.add_le_add hb hk) (by decide)
 refine aE6 (dO (dP (bD (aH (a:=[.ref p,.int 2,.int l,.int h0,(mrk h0 rr h1).v]) (aG rfl (aG rfl (aG rfl (aG (cI rfl (H.has kh) x0) rfl)))) (cK1 (n+6) H (aX (bF8 tf (n+3) H O l0 l1 ll h00 h01 h0l mo (.inr k1) (hbl _ (by decide))) fun u m1 z1=>aC rfl (aC (a:=false) rfl (aC rfl ?_))))))))
 have H1:=z1.2
 have O1:=O.lie (mrk h0 rr h1) ⟨l,h0,mrk h0 rr h1⟩
 have e1:((t.say (mrk h0 rr h1)).send ⟨l,h0,mrk h0 rr h1⟩).given=t.given+1:=rfl
 have e1l:((t.say (mrk h0 rr h1)).send ⟨l,h0,mrk h0 rr h1⟩).lets=t.lets++[(t.given,⟨l,h0,mrk h0 rr h1⟩)]:=rfl
 have e1c:((t.say (mrk h0 rr h1)).send ⟨l,h0,mrk h0 rr h1⟩).cnt=t.cnt:=rfl
 have e1h:((t.say (mrk h0 rr h1)).send ⟨l,h0,mrk h0 rr h1⟩).hs=t.hs:=rfl
 generalize (t.say (mrk h0 rr h1)).send ⟨l,h0,mrk h0 rr h1⟩=t1 at H1 O1 e1 e1l e1c e1h
 refine bK (aI0 (aD (cS8 t1.lets aG7 (fun x=>V.int x.1) (aD (bB tf H1 rfl rfl rfl (aK (aX (aF0 tf (n+6) H1 O1 (hbl 2 (by decide))) fun u m2 z2=>?_)))))))
 rcases z2 with ⟨qw,eu,H2,l2,g2⟩
 subst eu
 refine aK (fV (H2.has (.head _)) ⟨fun m'=>m'=m2,rfl,rfl,fun m' em=>by rw [em];exact dR (H2.has (.head _)),fun x hx m' em=>aC rfl (aC rfl ⟨rfl,em⟩),Nat.le_of_lt (Nat.lt_of_le_of_lt O1.lk.ll (hbl 2 (by decide))),fun q3 m3' m3 em l3 k3 g3=>?_⟩)
 rw [em] at l3
 have k3:m3[q3]?=some (.list ((t1.lets.map (·.1)).map V.int)):=by rw [k3,List.map_map];rfl
 refine aK (aH (dE7 (i:=t.given) k3 ?_ ?_) ?_)
 ·rw [e1l,List.map_append]
  exact List.mem_append_right _ (.head _)
 ·intro j hj
  rcases List.mem_map.mp hj with ⟨x,hx,rfl⟩
  have:=O1.lk.lt x hx
  rw [e1] at this
  exact Int.le_of_lt_add_one this
 have H3:=(H2.up l3).tail
 have nl:Nl t1 (.int (t.given+1)):=fun k e x hx c=>by
  have:=O1.lk.lt x hx
  rw [e1,cA8 e,c] at this
  exact Int.lt_irrefl _ this
 refine aE6 (aM3 (cK (dO (dP (bD (aC rfl (dJ2 (n+6) H3 (bG (aB0 tf (n+4) H3 (.int _) nl) ⟨_,kd7,fun m4 l4=>aC rfl (aC (a:=false) rfl (aC rfl ?_))⟩))))))))
 have H4:=H3.up l4
 rw [<- e1c] at l1 h01 g
 rw [<- e1h] at ll
 refine cK (dO (dP (bB tf H4 rfl rfl rfl (aH (a:=[.int l,.int h0,good.v]) (aG rfl (aG (cI rfl (H4.has kh) x0) rfl)) (aX (bF8 tf (n+4) H4 O1 l0 l1 ll h00 h01 h0l g (.inl gh) (hbl 302 (by decide))) fun u m5 z5=>?_)))))
 rcases z5 with ⟨eu,H5⟩
 subst eu
 refine aC (a:=.int (t.given+1)) rfl (aH (a:=false) (m':=m5) (by rw [e1];exact cL8 _ _) (aC rfl ?_))
 have O5:=O1.lie good ⟨l,h0,good⟩
 have e5:((t1.say good).send ⟨l,h0,good⟩).given=t.given+1+1:=by rw [<- e1];rfl
 have e5l:((t1.say good).send ⟨l,h0,good⟩).lets=t1.lets++[(t.given+1,⟨l,h0,good⟩)]:=by rw [<- e1];rfl
 have e5c:((t1.say good).send ⟨l,h0,good⟩).cnt=t.cnt:=e1c
 have e5h:((t1.say good).send ⟨l,h0,good⟩).hs=t.hs:=e1h
 generalize (t1.say good).send ⟨l,h0,good⟩=t5 at H5 O5 e5 e5l e5c e5h
 rcases s0 with ⟨s,hs0,so,sw⟩
 rw [<- e5h] at hs0
 have hin:(t.given+1,(⟨l,h0,good⟩:Lr))∈t5.lets:=by rw [e5l];exact List.mem_append_right _ (.head _)
 refine aE6 (dO (dP (aS (aD (bD (aC rfl (dJ2 (n+6) H5 (aX (bD6 tf n H5 O5 hin hs0 so (hbl 304 (by decide))) fun u m6 z6=>?_))))))))
 rcases z6 with ⟨q6,y_,H6⟩
 have H6:=H6.tail
 have O6:=(O5.take (t.given+1)).hear (i:=0) (s:=s) hs0 good
 have hc:=eJ s good
 have h6:((t5.take (t.given+1)).turn 0 (s.hear good)).hs[0]?=some (s.hear good).1:=by
  rw [show ((t5.take (t.given+1)).turn 0 (s.hear good)).hs=t5.hs.set 0 (s.hear good).1 from (cE _ _ _).2.1]
  exact List.getElem?_set_self (List.getElem?_eq_some_iff.mp hs0).1
 have n6:Nl ((t5.take (t.given+1)).turn 0 (s.hear good)) (.int (t.given+1)):=fun k e x hx c=>by
  have e:=cA8 e
  subst e
  rcases (aH0 (t:={ t5.take (t.given+1) with hs:=(t5.take (t.given+1)).hs.set 0 (s.hear good).1 }) (h:=(s.hear good).1.own) (ws:=(s.hear good).2)).2 x hx with q | q
  ·have:=(List.mem_filter.mp q).2
   rw [c,beq_self_eq_true] at this
   injection this
  ·have:t5.given <= x.1:=q.1
   rw [e5,c] at this
   exact Int.not_lt.mpr this (Int.lt_succ _)
 generalize (t5.take (t.given+1)).turn 0 (s.hear good)=t6 at H6 O6 h6 n6
 refine aD (bD (aC rfl (dJ2 (n+6) H6 (bG (aB0 tf (n+4) H6 (.int _) n6) ⟨_,kd7,fun m7 l7=>?_⟩))))
 refine aK (aL fun q8 m8 l8 k8 g8=>aS (aC rfl (aL fun q9 m9 l9 k9 g9=>aH (bF1 (eq_rf (aI dD0 (aI (dC9 _) bL)) (l9.has k8) k9)) (aC rfl ?_))))
 have H9:=((H6.up l7).up l8).up l9
 refine a9 (dP (aE4 (bB tf H9 rfl rfl rfl (aH (a:=[.int h0,.str rr]) (aG (cI rfl (H9.has kh) x0) rfl) (aX (bQ0 tf n H9 O6 h6 (hc.2.1.trans so) hr hrl (hbl 604 (by decide))) fun u m10 z10=>?_)))))
 rcases z10 with ⟨q10,eu,H10⟩
 subst eu
 refine aC rfl (aG3 (H10.has (.head _)) (v:=(⟨cY,(s.hear good).1.onw,rr,(s.hear good).1.own⟩:Wo).v) rfl (by decide) ?_)
 rw [hc.2.2.1,sw,hc.2.1,so]
 exact aH (a:=(⟨cY,h0+t.cnt,rr,h0⟩:Wo).v) (aC0 (aG rfl (aG (cO (cI rfl (H10.has (.tail _ kh)) x0) rfl rfl) (aG rfl (aG (cI rfl (H10.has (.tail _ kh)) x0) rfl))))) (aH (eq_wo _ _) rfl)
theorem cG2 (n:Nat) {hs:List V} (Z:Sl t b l h0 h1 rr) (H:Tw m N p t B) (kh:(qh,.list hs)∈B) (x0:hs[0]?=some (.int h0)) (x1:hs[1]?=some (.int h1)) (hr:aF5 (.str rr)=true) (hrl:rr.length <= 64) (g:good.Ok t.cnt) (gh:good.h=l):Wp (run sig (n+9) 39 [.ref p,.int l,.ref qh,.str rr,good.v,.int t.cnt]) m (fun u y_=>u=.bool true) nox:=by
 have c2:=Z.O.c2
 rcases Z.s0 with ⟨s,es,eo,y_⟩
 have r0:=Z.ow h0 (List.mem_map.mpr ⟨s,List.mem_of_getElem? es,eo⟩)
 have r1:=Z.ow h1 (List.mem_map.mpr ⟨_,List.mem_of_getElem? Z.s1,rfl⟩)
 have n0:h0≠l:=fun c=>Z.ll (c▸List.mem_map.mpr ⟨s,List.mem_of_getElem? es,eo⟩)
 have n1:h1≠l:=fun c=>Z.ll (c▸List.mem_map.mpr ⟨_,List.mem_of_getElem? Z.s1,rfl⟩)
 have mo:(mrk h0 rr h1).Ok t.cnt:=⟨.inr rfl,r0.1,Int.le_trans (Int.le_of_lt r0.2) (Int.le_trans c2 (by decide)),hr,r1.1,r1.2,fun c=>absurd (show fJ=cY from c) (by decide)⟩
 have ln:=Z.ln
 refine fC rfl rfl (bK (aH (a:=(mrk h0 rr h1).v) (aC0 (aG rfl (aG (cI rfl (H.has kh) x0) (aG rfl (aG (cI rfl (H.has kh) x1) rfl))))) ?_))
 refine aE6 (dO (dP (bD (aH (a:=[.ref p,.int 2,.int l,.int h0,(mrk h0 rr h1).v]) (aG rfl (aG rfl (aG rfl (aG (cI rfl (H.has kh) x0) rfl)))) (cK1 (n+6) H (bG (bU6 tf (n+3) H Z.O Z.l0 Z.l1 (dE4 Z.ll rfl) r0.1 r0.2 n0 mo n1 Z.no) ⟨_,kd6,fun m1 l1=>aC rfl (aC (a:=false) rfl (aC rfl ?_))⟩))))))
 have H1:=H.up l1
 refine dC7 t.lets aG7 (aD (bB tf H1 rfl rfl rfl (aK (aX (aF0 tf (n+6) H1 Z.O (Nat.lt_of_le_of_lt Z.hb (by decide))) fun u m2 z2=>?_))))
 rcases z2 with ⟨qw,eu,H2,l2,g2⟩
 subst eu
 refine aK (fV (H2.has (.head _)) ⟨LI p qw t b h0 h1 rr (fun x y=>[some (.ref p),some (.int l),some (.ref qh),some (.str rr),some good.v,some (.int t.cnt),some (mrk h0 rr h1).v,x,y,none]) B,rfl,⟨0,t,none,none,rfl,H2,Z.O.mono (Nat.le_add_right _ _),by rw [Nat.zero_add];exact ln,rfl,rfl,rfl,Z.O.as,fun y_ q=>q,Z.fit,.inr ⟨Z.s1,Z.has⟩⟩,?_,?_,?_⟩)
 ·rintro zs r m' ⟨k,t',x,y,er,H,O,kl,ec,eo,e0,as,zl,zf,dn⟩
  exact dR (H.has (.head _))
 ·exact fun z zs r m' I=>cU5 n Z kh x1 I
 ·rintro r m' ⟨k,t',x,y,er,H',O,kl,ec,eo',e0,as,zl,zf,dn⟩
  subst er
  have km:mrk h0 rr h1∈t'.said:=dn.elim id fun d=>by
   rcases d.2 with ⟨x,hx,y_⟩
   exact absurd hx List.not_mem_nil
  rw [<- ec] at r0 mo g ⊢
  have s0:=Z.s0
  rw [<- ec,<- e0] at s0
  have hb':b+k * 300 <= 32000:=by
   have:=Z.hb
   have kl:k+0 <= 100:=kl
   lia
  exact cU8 n H'.tail O hb' Z.l0 (ec▸Z.l1) (dE4 Z.ll eo') s0 r0.1 r0.2 n0 kh x0 hr hrl g gh km mo
end
end P10
end Mini.Internal
namespace Mini.Internal
open PySem
namespace P10
open C10
noncomputable def dK (c:Int) (L:List Int) (h0:Int) (r0:Str):Tn:=(Tn.new c L).turn 0 ((Hs.new c h0).call r0)
noncomputable def cQ7 (c:Int) (L:List Int) (l h0 h1:Int) (r0 r1:Str):Tn:=((dK c L h0 r0).say (mrk 3 r1 l)).send ⟨l,h1,mrk 3 r1 l⟩
structure F2 (t:Tn) (c l h0 h1:Int) (L:List Int) (r0:Str):Prop where
 ok:t.Ok 302
 cnt:t.cnt=c
 own:t.hs.map (·.own)=dU c L
 rn:∀ s∈t.hs,s.rows=[] /\ s.named=[]
 s0:∃ s,t.hs[0]?=some s /\ s.own=h0 /\ s.onw=h0+c
 s1:t.hs[1]?=some (Hs.new c h1)
 fu:t.given=t.lets.length
 ln:t.lets.length <= 28
 nn:∀ x∈t.lets,0 <= x.1
 sd:∀ w∈t.said,w.h≠h1
 fit:∀ x∈t.lets,Fit h0 h1 r0 x
 has:∃ x∈t.lets,x.2.r=h1 /\ x.2.w=dC6 h0 r0
section
variable {c l h0 h1:Int} {L rest:List Int} {r0 r1:Str}
theorem aQ4 {h n:Int} {r r':Str} {x:Int×Lr} (e:x.2.w=mrk n r h):Fit h0 h1 r' x:=fun y_ k=>by
 rw [e] at k
 exact absurd (show fJ=cY from k) (by decide)
theorem f2 (c4:4 <= c) (c7:c <= 12) (hl:l∈L) (hh:dU c L=h0::h1::rest):F2 (cQ7 c L l h0 h1 r0 r1) c l h0 h1 L r0:=by
 have m0:h0∈dU c L:=by rw [hh];exact .head _
 have m1:h1∈dU c L:=by rw [hh];exact .tail _ (.head _)
 have i0:=hon_iff.mp m0
 have i1:=hon_iff.mp m1
 have h01:h1≠h0:=fun e=>by
  have:=cM6 c L
  rw [hh] at this
  exact (List.nodup_cons.mp this).1 (e▸.head _)
 have hl1:l≠h1:=fun e=>i1.2.2 (e▸hl)
 have O0:=cL7 (L:=L) (c:=c) (Int.le_trans (by decide) c4) c7
 have g0:(Tn.new c L).hs[0]?=some (Hs.new c h0):=by
  show ((dU c L).map (Hs.new c))[0]?=_
  rw [hh];rfl
 have g1:(Tn.new c L).hs[1]?=some (Hs.new c h1):=by
  show ((dU c L).map (Hs.new c))[1]?=_
  rw [hh];rfl
 have ec:=cJ7 (c:=c) (o:=h0) (r:=r0) c4
 have O1:=O0.call (i:=0) g0 r0
 have t1:dK c L h0 r0=Tn.tell { Tn.new c L with hs:=(Tn.new c L).hs.set 0 ⟨c,h0,h0+c,fA (mrk h0 r0 h0) [⟨cY,h0,r0,h0⟩],[h0],[],[]⟩ } h0 [⟨cY,h0,r0,h0⟩,mrk h0 r0 h0]:=by
  show (Tn.new c L).turn 0 ((Hs.new c h0).call r0)=_
  rw [ec];rfl
 have eh:(dK c L h0 r0).hs=(Tn.new c L).hs.set 0 ⟨c,h0,h0+c,fA (mrk h0 r0 h0) [⟨cY,h0,r0,h0⟩],[h0],[],[]⟩:=by rw [t1];exact (cE _ _ _).2.1
 have lt:0 < (Tn.new c L).hs.length:=(List.getElem?_eq_some_iff.mp g0).1
 have tl:=fun x (hx:x∈(dK c L h0 r0).lets)=>(aH0 (t:={ Tn.new c L with hs:=(Tn.new c L).hs.set 0 ⟨c,h0,h0+c,fA (mrk h0 r0 h0) [⟨cY,h0,r0,h0⟩],[h0],[],[]⟩ }) (h:=h0) (ws:=[⟨cY,h0,r0,h0⟩,mrk h0 r0 h0])).2 x (t1▸hx)
 have gv:0 <= (dK c L h0 r0).given:=by rw [t1];exact (aH0 (t:={ Tn.new c L with hs:=(Tn.new c L).hs.set 0 ⟨c,h0,h0+c,fA (mrk h0 r0 h0) [⟨cY,h0,r0,h0⟩],[h0],[],[]⟩ }) (h:=h0) (ws:=[⟨cY,h0,r0,h0⟩,mrk h0 r0 h0])).1
 have fu:(dK c L h0 r0).given=(dK c L h0 r0).lets.length:=by rw [t1];exact bP8 rfl
 have lk:(dK c L h0 r0).Lk 26:=by
  rw [t1]
  exact Tn.Lk.tell h0 [_,_] (t:={ Tn.new c L with hs:=(Tn.new c L).hs.set 0 ⟨c,h0,h0+c,fA (mrk h0 r0 h0) [⟨cY,h0,r0,h0⟩],[h0],[],[]⟩ }) (b:=0) ⟨O0.lk.lt,O0.lk.ll,O0.lk.sl⟩ c7
 have cn:(dK c L h0 r0).cnt=c:=by rw [t1];exact (cE _ _ _).1
 have sd:∀ w∈(dK c L h0 r0).said,w.h=h0:=fun w hw=>by
  have:=(turn_said (t:=Tn.new c L) (i:=0) (x:=(Hs.new c h0).call r0)).mp hw
  rw [ec] at this
  rcases this with q | q
  ·exact absurd q List.not_mem_nil
  ·rcases List.mem_cons.mp q with q | q
   ·rw [q]
   ·rw [List.mem_singleton.mp q];rfl
 have on:(dK c L h0 r0).hs.map (·.own)=dU c L:=(bD4 g0 (aR1 _ _)).trans (bT4 c L)
 have O1:(dK c L h0 r0).Ok 300:=O1
 have tk:=fun (j:Nat) (hj:(j:Int)≠h0) (hc:(j:Int) < c)=>cD2 (w:=⟨cY,h0,r0,h0⟩) (ws:=[mrk h0 r0 h0]) (t:={ Tn.new c L with hs:=(Tn.new c L).hs.set 0 ⟨c,h0,h0+c,fA (mrk h0 r0 h0) [⟨cY,h0,r0,h0⟩],[h0],[],[]⟩ }) hj hc
 rw [<- t1] at tk
 refine ⟨O1.lie _ _,cn,on,fun s hs=>?_,⟨⟨c,h0,h0+c,fA (mrk h0 r0 h0) [⟨cY,h0,r0,h0⟩],[h0],[],[]⟩,?_,rfl,rfl⟩,?_,?_,?_,fun x hx=>?_,fun w hw=>?_,fun x hx=>?_,?_⟩
 ·have hs:s∈(dK c L h0 r0).hs:=hs
  rw [eh] at hs
  rcases List.mem_or_eq_of_mem_set hs with hs | rfl
  ·rcases List.mem_map.mp hs with ⟨o,y_,rfl⟩
   exact ⟨rfl,rfl⟩
  ·exact ⟨rfl,rfl⟩
 ·show (dK c L h0 r0).hs[0]?=_
  rw [eh]
  exact List.getElem?_set_self lt
 ·show (dK c L h0 r0).hs[1]?=_
  rw [eh,List.getElem?_set_ne (by decide)]
  exact g1
 ·show (dK c L h0 r0).given+1=(((dK c L h0 r0).lets++[_]).length:Int)
  rw [fu,List.length_append];rfl
 ·show ((dK c L h0 r0).lets++[_]).length <= 28
  rw [List.length_append]
  exact Nat.le_trans (Nat.succ_le_succ lk.ll) (by decide)
 ·rcases List.mem_append.mp hx with hx | hx
  ·rcases tl x hx with q | q
   ·exact absurd q List.not_mem_nil
   ·exact q.1
  ·rw [List.mem_singleton.mp hx];exact gv
 ·rcases mem_addW.mp hw with hw | hw
  ·rw [hw];exact hl1
  ·rw [sd w hw];exact h01.symm
 ·rcases List.mem_append.mp hx with hx | hx
  ·rcases tl x hx with q | q
   ·exact absurd q List.not_mem_nil
   ·rcases List.mem_cons.mp q.2 with q | q
    ·exact fun y_ y_=>q
    ·exact aQ4 (List.mem_singleton.mp q)
  ·rw [List.mem_singleton.mp hx];exact aQ4 rfl
 ·rcases tk h1.toNat (by rw [Int.toNat_of_nonneg i1.1];exact h01) (by rw [Int.toNat_of_nonneg i1.1];exact i1.2.1) with ⟨k,hk⟩
  exact ⟨_,List.mem_append_left _ hk,Int.toNat_of_nonneg i1.1,rfl⟩
theorem sl {t:Tn} (F:F2 t c l h0 h1 L r0) (c4:4 <= c) (hl:l∈L) (l0:0 <= l) (l1:l < c) (r2:Str):Sl ((t.say (mrk 1 r2 l)).send ⟨l,h0,mrk 1 r2 l⟩) 304 l h0 h1 r0:=by
 have i1:h1∈dU c L:=by rw [<- F.own];exact List.mem_map.mpr ⟨_,List.mem_of_getElem? F.s1,rfl⟩
 have hl1:l≠h1:=fun e=>(hon_iff.mp i1).2.2 (e▸hl)
 have ec:((t.say (mrk 1 r2 l)).send ⟨l,h0,mrk 1 r2 l⟩).cnt=c:=F.cnt
 have eo:((t.say (mrk 1 r2 l)).send ⟨l,h0,mrk 1 r2 l⟩).hs.map (·.own)=dU c L:=F.own
 refine ⟨F.ok.lie _ _,by decide,ec.symm▸c4,l0,ec.symm▸l1,fun q=>?_,fun o q=>?_,ec.symm▸F.s0,ec.symm▸F.s1,fun x hx=>?_,?_,fun q=>?_,?_⟩
 ·rw [eo] at q
  exact (hon_iff.mp q).2.2 hl
 ·rw [eo] at q
  have:=hon_iff.mp q
  exact ⟨this.1,ec.symm▸this.2.1⟩
 ·rcases List.mem_append.mp hx with hx | hx
  ·exact F.fit x hx
  ·rw [List.mem_singleton.mp hx];exact aQ4 rfl
 ·rcases F.has with ⟨x,hx,q⟩
  exact ⟨x,List.mem_append_left _ hx,q⟩
 ·rcases mem_addW.mp q with q | q
  ·exact hl1 (congrArg Wo.h q).symm
  ·exact F.sd _ q rfl
 ·show (t.lets++[_]).length <= 100
  rw [List.length_append]
  exact Nat.le_trans (Nat.succ_le_succ F.ln) (by decide)
end
end P10
end Mini.Internal
namespace Mini.Internal
open PySem
theorem bT6 (s:Str) (m:MH):aF9 .NotEq (.tup [.str s]) (.tup [.str s]) m=.ok false m:=by
 show Res.ok (!(s == s&&true)) m=_
 rw [beq_self_eq_true];rfl
theorem Tw.more {N:HN} {m m':MH} {p:Nat} {t:Tn} {B X:List (Nat×MObj)} (h:Tw m N p t B) (l:Le m m') (hx:∀ x∈X,m.length <= x.1 /\ m'[x.1]?=some x.2):Tw m' N p t (X++B):=by
 rcases h with ⟨T,e,h1,h2⟩
 refine ⟨T,e,h1.up l,fun x q=>?_⟩
 rcases List.mem_append.mp q with q | q
 ·exact ⟨h1.out (hx x q).1,(hx x q).2⟩
 ·exact ⟨(h2 x q).1,l.has (h2 x q).2⟩
namespace P10
open C10
section
variable {m:MH} {p b qh ql qk q2 a d e lo:Nat} {t:Tn} {B:List (Nat×MObj)} {l h0 h1 a1 base:Int} {L rest:List Int} {odd a0 bad:V}
inductive KI (m0 m:MH) (p:Nat) (r0:Option V->Option V->Option V->Option V->Option V->Lo) (zs:List V) (r:Lo) (m':MH):Prop
 | mk (a b c d e:Option V) (er:r=r0 a b c d e) (l:Le m0 m') (l2:Le m m') (h:∀ v∈zs,Ca m p v)
theorem law_c (n:Nat) {x0 x1 x2 x13 y0 y1 y2 y3 y4:Option V} (F:F2 t t.cnt l h0 h1 L (row base 0)) (Z:Si10 m p t 302 l h0 h1 B) (c4:4 <= t.cnt) (hl:L[0]?=some l) (hh:dU t.cnt L=h0::h1::rest) (D:Od m t.cnt odd) (A0:Pl m a0 /\ Nl t a0) (A1:Nl t (.int a1)) (Bd:Th m bad /\ isW t.cnt bad=false)
  (kh:(qh,.list ((dU t.cnt L).map V.int))∈B) (kL:(ql,.list (L.map V.int))∈B) (K:St lo m t qk) (kk:(qk,.list [.ref a,.ref d,.ref e])∈B) (ka:(a,.list (t.lets.map aG7))∈B) (k2:m[q2]?=some (.list [a0,.int a1])) :
  Wp (exs sig (run sig (n+9)) (f_law.drop 18) [x0,x1,x2,some (.int t.cnt),some (.ref ql),some (.ref qh),some odd,some (.ref p),some (.int base),some (.ref qk),some (.ref q2),some (mrk 1 (row base 2) l).v,some (mrk 1 (row base 2) h1).v,x13,some bad,y0,y1,y2,y3,y4]) m (cA3 fun u y_=>u=.bool true) nox:=by
 have hlm:l∈L:=List.mem_of_getElem? hl
 have il:(L.map V.int)[0]?=some (.int l):=by rw [List.getElem?_map,hl];rfl
 have i0:((dU t.cnt L).map V.int)[0]?=some (.int h0):=by rw [hh];rfl
 have i1:((dU t.cnt L).map V.int)[1]?=some (.int h1):=by rw [hh];rfl
 have c2:=Z.O.c2
 have j1:h1∈dU t.cnt L:=by rw [hh];exact .tail _ (.head _)
 have r1:=hon_iff.mp j1
 have hr:=aB8 base 2
 have wk:∀ h,0 <= h->h < t.cnt->(mrk 1 (row base 2) h).Ok t.cnt:=fun h q0 q1=>⟨.inr rfl,show (0:Int) <= 1 by decide,show (1:Int) <= 9999 by decide,hr,q0,q1,fun c=>absurd (show fJ=cY from c) (by decide)⟩
 have nv:(mrk 1 (row base 2) h1).Ok t.cnt /\ (mrk 1 (row base 2) h1).h≠l /\ mrk 1 (row base 2) h1∉t.said:=⟨wk h1 r1.1 r1.2.1,fun c=>r1.2.2 ((show h1=l from c).symm▸hlm),fun q=>F.sd _ q rfl⟩
 have ho:∀ {m'},Le m m'->m'[qh]?=some (.list (t.hs.map fun s=>V.int s.own)):=fun l=>by
  rw [l.has (Z.H.has kh),<- F.own,List.map_map];rfl
 have hle:t.hs.length <= 12:=by
  have e1:=congrArg List.length F.own
  rw [List.length_map] at e1
  rw [e1]
  exact Nat.le_trans (List.length_filter_le _ _) (by rw [List.length_map,List.length_range];exact cZ c2)
 have hne:t.hs≠[]:=fun c=>by have:=F.s1;rw [c] at this;injection this
 refine cE1 (aD (bD (aH (a:=[.int l,.ref qh,odd,.ref q2,bad,(mrk 1 (row base 2) h1).v]) (aG (cI rfl (Z.H.has kL) il) rfl) (aX (cJ5 (n+8) (Z.H.has kh) k2 i0 i1 rfl rfl) fun u m1 z=>?_))))
 rcases z with ⟨q,eu,l1,k1⟩
 subst eu
 refine aK (fV k1 ⟨KI m1 m p (fun y0 y1 y2 y3 y4=>[x0,x1,x2,some (.int t.cnt),some (.ref ql),some (.ref qh),some odd,some (.ref p),some (.int base),some (.ref qk),some (.ref q2),some (mrk 1 (row base 2) l).v,some (mrk 1 (row base 2) h1).v,x13,some bad,y0,y1,y2,y3,y4]),⟨_,_,_,_,_,rfl,.refl _,l1,dI5 Z D A0 A1 Bd nv⟩,?_,?_,?_⟩)
 ·rintro zs r m' ⟨y_,y_,y_,y_,y_,er,l,l2,h⟩
  exact dR (l.has k1)
 ·rintro z zs r m' ⟨y_,y_,y_,y_,y_,er,l,l2,h⟩
  subst er
  rcases h z (.head _) with ⟨a,b,c,d,s,e,hc⟩
  subst e
  refine aC rfl (aE6 (aM3 (cK (dO (dP (bD (aC rfl (aX (hc m' l2 n) fun u m2 z2=>?_))))))))
  rcases z2 with ⟨eu,l3⟩
  subst eu
  refine aC rfl (aH (bT6 s m2) (aC rfl (cK (dO (dP (bD (aC rfl (aX (bD8 (n+5) (Z.H.up (l2.trans l3)) Z.O (by decide) hle F.rn (ho (l2.trans l3))) fun u m4 z4=>?_))))))))
  rcases z4 with ⟨q4,eu,l4,s4⟩
  subst eu
  refine aC rfl (aH (st_eq s4 K ((l2.trans l3).trans l4) (l2.trans l3).1 hne) (aC rfl ?_))
  exact KI.mk _ _ _ _ _ rfl ((l.trans l3).trans l4) ((l2.trans l3).trans l4) fun v q=>h v (.tail _ q)
 ·rintro r m' ⟨y_,y_,y_,y_,y_,er,l_,l2,h⟩
  subst er
  have H2:=Z.H.up l2
  refine aE6 (aM3 (cK (dO (dP (bD (aH (a:=[.ref p,.int 2,.int l,.int h0,(mrk 1 (row base 2) l).v]) (aG rfl (aG rfl (aG (cI rfl (H2.has kL) il) (aG (cI rfl (H2.has kh) i0) rfl)))) (cK1 (n+7) H2 (aX (bF8 tf (n+4) H2 Z.O Z.l0 Z.l1 Z.ll Z.hr.1 Z.hr.2 Z.h0l (wk l Z.l0 Z.l1) (.inl rfl) (by decide)) fun u m3 z3=>aC rfl (aC (a:=false) rfl (aC rfl ?_))))))))))
  have H3:=z3.2
  have S:=sl F c4 hlm Z.l0 Z.l1 (row base 2)
  refine cK (dO (dP (aI0 (aD (bB tf H3 rfl rfl rfl (aK (aX (aF0 tf (n+7) H3 S.O (by decide)) fun u m4 z4=>?_)))))))
  rcases z4 with ⟨q4,eu,H4,l4,g4⟩
  subst eu
  refine aK (bM6 (H4.has (.head _)) ?_)
  refine d9 (aI0 (aD (aH (cI rfl (H4.has (.tail _ kk)) (j:=0) rfl) (aK (bM6 (H4.has (.tail _ ka)) (aC rfl (aC rfl (aH (a:=false) (m':=m4) ?_ (aC rfl ?_)))))))))
  ·rw [List.length_map,List.length_map]
   show aF9 .NotEq (.int ((t.lets++[_]).length:Int)) _ m4=_
   rw [List.length_append]
   exact cL8 _ _
  have H5:=H4.tail
  refine a9 (bD (aD (aC rfl (aD (aH (cI rfl (H5.has kL) il) (aD (aC rfl (aD (bD (aC rfl (aG4 (aS7 bW5 (n+8) base 0 m4) fun m5 l5=>aD (aC rfl (aD (aC rfl (aK ?_)))))))))))))))
  have Q:=cG2 n S (H5.up l5) kh i0 i1 (aB8 base 0) (Nat.le_trans (bR9 base 0).2 (by decide)) (wk l Z.l0 Z.l1) rfl
  exact Q
end
end P10
end Mini.Internal
namespace Mini.Internal
open PySem
namespace P10
open C10
section
variable {m:MH} {c:Int}
theorem bT1 {k:Int} (h:k=c \/ k < 0 \/ 40 <= k):Od m c (.int k):=⟨.int _,fun y_ e=>cA8 e▸h,rfl,(k == c),fun y_ y_=>rfl,fun e q=>beq_eq_false_iff_ne.mp e (cA8 q)⟩
theorem aI1 {v:V} {d:PyData} (pl:Pl m v) (hn:∀ k,v≠.int k) (hr:aF5 v=false) (hd:∀ m',Le m m'->rd cP m' v=some d):Od m c v:=⟨pl,fun k e=>absurd e (hn k),hr,PyData.eqv d (.int c),fun m' l=>by
 show (match rd cP m' v,some (PyData.int c) with | some x,some y=>Res.ok (PyData.eqv x y) m' | _,_=>_)=_
 rw [hd m' l],fun y_=>hn c⟩
theorem cT2 {p e:Nat} (k:m[p]?=some (.dict [] e)):Od m c (.ref p):=⟨.dict p _ e k,fun k e=>by injection e,rfl,false,fun m' l=>by
 show (match rd cP m' (.ref p),some (PyData.int c) with | some x,some y=>Res.ok (PyData.eqv x y) m' | _,_=>(match eqN m' (eqX 8 m') (.ref p) (.int c) with | some c=>.ok c m' | Option.none=>.bad))=_
 rw [aY9 (l.has k)]
 show (match (match m'[p]? with | some (.dict _ _)=>some false | _=>Option.none) with | some c=>Res.ok c m' | Option.none=>.bad)=_
 rw [l.has k],fun y_ q=>by injection q⟩
noncomputable def OdB (m:MH) (c:Int) (v:V):Prop:=∃ Bo:List (Nat×MObj),(∀ x∈Bo,m[x.1]?=some x.2) /\ ∀ m',(∀ x∈Bo,m'[x.1]?=some x.2)->Od m' c v
theorem dD8 {p1 p2 e:Nat} {cell:Int} (k1:m[p1]?=some (.list [.int 0])) (k2:m[p2]?=some (.dict [] e)) (h:0 <= cell):∀ v∈[V.int (-1),.int c,.int (40+cell),.bool true,.bool false,.none,.str (Str.ofString "0"),.ref p1,.ref p2],OdB m c v:=
 aI ⟨[],bL,fun y_ y_=>bT1 (.inr (.inl (by decide)))⟩ (aI ⟨[],bL,fun y_ y_=>bT1 (.inl rfl)⟩ (aI ⟨[],bL,fun y_ y_=>bT1 (.inr (.inr (Int.le_add_of_nonneg_right h)))⟩
 (aI ⟨[],bL,fun y_ y_=>aI1 (.bool _) (fun y_ e=>by injection e) rfl fun y_ y_=>rfl⟩ (aI ⟨[],bL,fun y_ y_=>aI1 (.bool _) (fun y_ e=>by injection e) rfl fun y_ y_=>rfl⟩ (aI ⟨[],bL,fun y_ y_=>aI1 .none (fun y_ e=>by injection e) rfl fun y_ y_=>rfl⟩
 (aI ⟨[],bL,fun y_ y_=>aI1 (.str _ (by decide)) (fun y_ e=>by injection e) (by decide +kernel) fun y_ y_=>rfl⟩
 (aI ⟨[(p1,.list [.int 0])],aI k1 bL,fun m' q=>aI1 (.list p1 _ (q _ (.head _))) (fun y_ e=>by injection e) rfl fun m2 l=>(aP2 (l.has (q _ (.head _)))).trans rfl⟩
 (aI ⟨[(p2,.dict [] e)],aI k2 bL,fun m' q=>cT2 (q _ (.head _))⟩ bL))))))))
theorem dJ0 {q:Nat} {g:V} (c4:4 <= c) (k:m[q]?=some (.list [g])):∀ v∈[V.tup [.str (Str.ofString "mark"),.int 1,.str (Str.ofString "A"),.int 0],.tup [.str (Str.ofString "say"),.int 1,.str (Str.ofString "a"),.int 0],.tup [.str (Str.ofString "mark"),.int 1,.str (Str.ofString "a"),.int c],.tup [.str (Str.ofString "mark"),.int 1,.str (Str.ofString "a")],.none,.ref q],Th m v /\ isW c v=false:=by
 have s1:∀ s:Str,s.length <= 64->Pl m (.str s):=fun s h=>.str s h
 have th:∀ {xs:List V},xs.length <= 64->(∀ x∈xs,Pl m x)->Th m (.tup xs):=fun h k=>⟨.tup _ h,fun ys e=>by injection e with e;exact e▸k⟩
 have t4:∀ {a r:Str} {h:Int},a.length <= 64->r.length <= 64->Th m (.tup [.str a,.int 1,.str r,.int h]):=fun h k=>th (show 4 <= 64 by decide) (aI (s1 _ h) (aI (.int _) (aI (s1 _ k) (aI (.int _) bL))))
 have tt:∀ {v:V},Pl m v->(∀ xs,v≠.tup xs)->Th m v:=fun p h=>⟨p,fun xs e=>absurd e (h xs)⟩
 have ra:aF5 (.str (Str.ofString "A"))=false:=by decide +kernel
 refine aI ⟨t4 (by decide) (by decide),?_⟩ (aI ⟨t4 (by decide) (by decide),?_⟩ (aI ⟨t4 (by decide) (by decide),?_⟩ (aI ⟨th (by decide) (aI (s1 _ (by decide)) (aI (.int _) (aI (s1 _ (by decide)) bL))),rfl⟩ (aI ⟨tt .none fun y_ e=>by injection e,rfl⟩ (aI ⟨tt (.list q _ k) fun y_ e=>by injection e,rfl⟩ bL)))))
 ·show (true&&(num 0 9999 (.int 1)&&(aF5 (.str (Str.ofString "A"))&&(num 0 (c - 1) (.int 0)&&isW4 c (.str (Str.ofString "mark")) (.int 1) (.int 0)))))=false
  rw [ra,Bool.false_and,Bool.and_false];rfl
 ·show (true&&(num 0 9999 (.int 1)&&(aF5 (.str (Str.ofString "a"))&&(num 0 (c - 1) (.int 0)&&(Str.ofString "say" == fJ||(Str.ofString "say" == cY&&((1:Int) - 0) % c == 0))))))=false
  have:((1:Int) - 0) % c=1:=Int.emod_eq_of_lt (by decide) (Int.lt_of_lt_of_le (by decide) c4)
  rw [this,show ((1:Int) == 0)=false from rfl,Bool.and_false,Bool.or_false,show (Str.ofString "say" == fJ)=false from by decide,Bool.and_false,Bool.and_false,Bool.and_false];rfl
 ·show (true&&(num 0 9999 (.int 1)&&(aF5 (.str (Str.ofString "a"))&&((decide (0 <= c)&&decide (c <= c - 1))&&isW4 c (.str (Str.ofString "mark")) (.int 1) (.int c)))))=false
  have:¬ c <= c - 1:=Int.not_le.mpr (Int.sub_one_lt_of_le (Int.le_refl _))
  rw [decide_eq_false this,Bool.and_false,Bool.false_and,Bool.and_false,Bool.and_false];rfl
theorem dI0 {q:Nat} (k:m[q]?=some (.list [.int 4])):∀ v∈[V.int 0,.int 13,.bool true,.none,.str (Str.ofString "4"),.ref q,.int (-3)],Pl m v /\ isC v=false:=
 aI ⟨.int _,rfl⟩ (aI ⟨.int _,rfl⟩ (aI ⟨.bool _,rfl⟩ (aI ⟨.none,rfl⟩ (aI ⟨.str _ (by decide),rfl⟩ (aI ⟨.list q _ k,rfl⟩ (aI ⟨.int _,rfl⟩ bL))))))
theorem bl_of (n:Nat) {q1 q2 q3 q4 e:Nat} {odd:V} (c4:4 <= c) (c7:c <= 12) (D:Od m c odd) (k1:m[q1]?=some (.list [.int 1,odd])) (k2:m[q2]?=some (.list [.int 2,.int 2])) (k3:m[q3]?=some (.dict [] e)) (k4:m[q4]?=some (.list [odd])):∀ v∈[V.ref q1,.ref q2,.tup [.int 1],.none,.str (Str.ofString "1"),.ref q3,.ref q4,.int 3],Wp (run sig (n+5) 35 [.int c,v]) m (fun u m'=>u=.tup [.str (Str.ofString "house")] /\ Le m m') nox:=by
 have c1:1 <= c:=Int.le_trans (by decide) c4
 have no:∀ {v:V},(eB sig v .list (m++[.inst 12 []])=.ok false (m++[.inst 12 []]))->Wp (run sig (n+5) 35 [.int c,v]) m (fun u m'=>u=.tup [.str (Str.ofString "house")] /\ Le m m') nox:=fun h=>bU0 n kd3 (wp_mono (bP5 tf (n+1) c1 c7 h) (fun y_ y_ q=>q) fun y_ y_ q=>⟨q.1,q.2▸.refl _⟩)
 have li:∀ {q:Nat} {L:List Int} {z:V},m[q]?=some (.list (L.map V.int++[z]))->(∀ x∈L,0 <= x /\ x < c)->L.Nodup->Pl m z->(∀ k,z=.int k->0 <= k->k < c->k∈L)->Wp (run sig (n+5) 35 [.int c,.ref q]) m (fun u m'=>u=.tup [.str (Str.ofString "house")] /\ Le m m') nox:=fun hq hL nd hz hb=>bU0 n kd3 (bP4 tf n ((Le.app _ _).has hq) c1 c7 hL nd (hz.le (.app _ _)) hb)
 have no_:∀ k,odd=.int k->0 <= k->k < c->∀ L:List Int,k∈L:=fun k e h1 h2=>by
  have:=D.nk k e
  exact absurd this fun z=>z.elim (fun q=>Int.ne_of_lt h2 q) fun z=>z.elim (fun q=>Int.not_lt.mpr h1 q) fun q=>absurd (Int.le_trans q (Int.le_trans (Int.le_of_lt h2) c7)) (by decide)
 have nd:∀ x:Int,[x].Nodup:=fun x=>List.nodup_cons.mpr ⟨List.not_mem_nil,List.Pairwise.nil⟩
 refine aI (li (L:=[1]) k1 (aI ⟨by decide,Int.lt_of_lt_of_le (by decide) c4⟩ bL) (nd 1) D.pl fun k e h1 h2=>no_ k e h1 h2 _) (aI (li (L:=[2]) k2 (aI ⟨by decide,Int.lt_of_lt_of_le (by decide) c4⟩ bL) (nd 2) (.int _) fun k e y_ y_=>cA8 e▸.head _) (aI (no rfl) (aI (no rfl) (aI (no rfl) (aI (no ?_) (aI (li (L:=[]) k4 bL List.Pairwise.nil D.pl fun k e h1 h2=>no_ k e h1 h2 _) (aI (no rfl) bL)))))))
 unfold eB
 dsimp only
 rw [(Le.app m _).has k3];rfl
end
end P10
end Mini.Internal
namespace Mini.Internal
open PySem
theorem dD7 {S:Sig} {m:MH} {L:List Int} {q2:Nat} {F:Fns} {r:Lo} {E:Nat->MH->Prop} {Q:V->MH->Prop} {i j x:Nat} {c:Int} (hx:x=r.length) (h1:ev S F (.var i) r m=.ok (.int c) m) (h2:∀ v,ev S F (.var j) (r++[v]) m=.ok (.ref q2) m) (k2:m[q2]?=some (.list (L.map V.int))) (c1:1 <= c) (c2:c <= 12)
  (q:∀ q' m',Le m m'->m'[q']?=some (.list ((dU c L).map V.int))->m.length <= q'->Q (.ref q') m'):Wp (ev S F (.comp (.var x) (.one x) 1 .range [(.var i)] [(.val (.cmp (.var x) [.NotIn] [(.var j)]))]) r) m Q E:=by
 subst hx
 refine aP5 (List.range c.toNat) (fun (j:Nat)=>V.int (0+(j:Int))) (fun (j:Nat)=>V.int (0+(j:Int))) (fun j=>!(L.any fun y=>y == (j:Int))) (fun m'=>m'=m) (aD (aH h1 (aK (aH (bQ3 (Nat.lt_of_lt_of_le (aJ7 (c:=13) (Int.le_trans (by decide) c1) (Int.lt_of_le_of_lt c2 (by decide:(12:Int) < 13)) (by decide)) (by decide))) ⟨rfl,rfl,fun y_ y_=>rfl,?_,?_,?_⟩))))
 ·intro j hj m' em
  rw [em]
  have es:(r++List.replicate 1 none).set r.length (some (V.int (0+(j:Int))))=r++[some (V.int (0+(j:Int)))]:=by
   show (r++[none]).set r.length _=_
   rw [List.set_append_right _ _ (Nat.le_refl _),Nat.sub_self];rfl
  have ev0:ev S F (.var r.length) (r++[some (V.int (0+(j:Int)))]) m=.ok (.int (0+(j:Int))) m:=by
   show (match (r++[some (V.int (0+(j:Int)))])[r.length]? with | some (some v)=>ret v | _=>bad) m=_
   rw [List.getElem?_append_right (Nat.le_refl _),Nat.sub_self];rfl
  refine aH (a:=r++[some (V.int (0+(j:Int)))]) (m':=m) (by show Res.ok _ m=_;rw [es]) (bA9 (aH (a:=!(L.any fun y=>y == (j:Int))) (m':=m) (aO (aU ev0 (h2 _) ?_)) ⟨rfl,?_⟩))
  ·show Res.bind (inV (.int (0+(j:Int))) (.ref q2) m) _=_
   rw [cW1 k2,Int.zero_add];rfl
  ·cases L.any fun y=>y == (j:Int) with
   | true=>rfl
   | false=>exact bC5 (aH ev0 ⟨rfl,rfl⟩)
 ·rw [List.length_range];exact cV (cZ c2) (by decide)
 ·intro q' m1 m2 em l k g
  rw [em] at l g
  refine q q' m2 l ?_ g
  rw [k]
  congr 2
  unfold dU aR5
  rw [List.filter_map,List.map_map]
  refine List.map_congr_left fun j y_=>?_
  show V.int (0+(j:Int))=V.int j
  rw [Int.zero_add]
theorem cW5 {c:Int} {L:List Int} (c4:4 <= c) (ll:L.length <= 2):∃ h0 h1 rest,dU c L=h0::h1::rest:=by
 have nd:((List.range c.toNat).map fun (j:Nat)=>(j:Int)).Nodup:=by
  refine List.pairwise_map.mpr (List.Pairwise.imp (R:=fun a b=>a≠b) ?_ List.nodup_range)
  exact fun {a b} q e=>q (Int.ofNat_inj.mp e)
 have hn:4 <= c.toNat:=Int.ofNat_le.mp (by rw [Int.toNat_of_nonneg (Int.le_trans (by decide) c4)];exact c4)
 have e:=nd.length_le_of_subset (l₂:=dU c L++L) fun x hx=>by
  by_cases q:x∈L
  ·exact List.mem_append_right _ q
  ·refine List.mem_append_left _ ?_
   rcases List.mem_map.mp hx with ⟨j,hj,rfl⟩
   exact hon_iff.mpr ⟨Int.natCast_nonneg _,Int.lt_toNat.mp (List.mem_range.mp hj),q⟩
 rw [List.length_map,List.length_range,List.length_append] at e
 cases h:dU c L with
 | nil=>rw [h] at e;exact absurd (Nat.le_trans hn (Nat.le_trans e (Nat.add_le_add_left ll 0))) (by decide)
 | cons h0 l=>
  cases l with
  | nil=>rw [h] at e;exact absurd (Nat.le_trans hn (Nat.le_trans e (Nat.add_le_add_left ll 1))) (by decide)
  | cons h1 l=>exact ⟨h0,h1,l,rfl⟩
namespace P10
open C10
section
variable {m:MH} {p qh ql:Nat} {B:List (Nat×MObj)} {c l h0 h1 f cell base:Int} {L rest:List Int} {odd:V}
theorem law_b (n:Nat) {sc:V} (c4:4 <= c) (c7:c <= 12) (hL:∀ x∈L,0 <= x /\ x < c) (hl:L[0]?=some l) (hh:dU c L=h0::h1::rest) (hc:0 <= cell) (H:Tw m N p (Tn.new c L) B) (kh:(qh,.list ((dU c L).map V.int))∈B) (kL:(ql,.list (L.map V.int))∈B) (D:∀ m',(∀ x∈B,m'[x.1]?=some x.2)->Od m' c odd) :
  Wp (exs sig (run sig (n+9)) (f_law.drop 10) [some sc,some (.int f),some (.int cell),some (.int c),some (.ref ql),some (.ref qh),some odd,some (.ref p),some (.int base),none,none,none,none,none,none,none,none,none,none,none]) m (cA3 fun u y_=>u=.bool true) nox:=by
 have hlm:l∈L:=List.mem_of_getElem? hl
 have il:(L.map V.int)[0]?=some (.int l):=by rw [List.getElem?_map,hl];rfl
 have i0:((dU c L).map V.int)[0]?=some (.int h0):=by rw [hh];rfl
 have i1:((dU c L).map V.int)[1]?=some (.int h1):=by rw [hh];rfl
 have m1:h1∈dU c L:=by rw [hh];exact .tail _ (.head _)
 have r1:=hon_iff.mp m1
 have rl:=hL l hlm
 have O0:=cL7 (L:=L) (c:=c) (Int.le_trans (by decide) c4) c7
 have g0:(Tn.new c L).hs[0]?=some (Hs.new c h0):=by
  show ((dU c L).map (Hs.new c))[0]?=_
  rw [hh];rfl
 have F:=f2 (r0:=row base 0) (r1:=row base 1) c4 c7 hlm hh
 have lr:∀ k,(row base k).length <= 64:=fun k=>Nat.le_trans (bR9 base k).2 (by decide)
 refine dS (bB tf H rfl rfl rfl (aD (aH (cI rfl (H.has kh) i0) (aD (bD (aC rfl (aG4 (aS7 bW5 (n+8) base 0 m) fun m1 l1=>aK ?_)))))))
 refine aX (bQ0 tf (n+1) (H.up l1) O0 g0 (h:=h0) rfl (aB8 base 0) (lr 0) (by decide)) fun u m2 z2=>?_
 rcases z2 with ⟨q2,y_,H2⟩
 have H2:Tw m2 N p (dK c L h0 (row base 0)) B:=H2.tail
 have O1:(dK c L h0 (row base 0)).Ok 300:=O0.call g0 (row base 0)
 have ec1:(dK c L h0 (row base 0)).cnt=c:=F.cnt
 have ll1:∀ s∈(dK c L h0 (row base 0)).hs,s.own≠l:=fun s hs e=>by
  have:s.own∈dU c L:=F.own▸List.mem_map.mpr ⟨s,hs,rfl⟩
  exact (hon_iff.mp this).2.2 (e▸hlm)
 refine dS (bB tf H2 rfl rfl rfl (aD (aH (cI rfl (H2.has kL) il) (aD (aH (cI rfl (H2.has kh) i1) (aD (aT3 (aD (aC rfl (aD (aC rfl (aD (bD (aC rfl (aG4 (aS7 bW5 (n+8) base 1 m2) fun m3 l3=>aD (aH (cI rfl ((H2.up l3).has kL) il) (aK (aK ?_))))))))))))))))))
 refine aX (bF8 tf (n+5) (w:=mrk 3 (row base 1) l) (H2.up l3) O1 rl.1 (ec1.symm▸rl.2) ll1 r1.1 (ec1.symm▸r1.2.1) (fun e=>r1.2.2 (e▸hlm)) ⟨.inr rfl,show (0:Int) <= 3 by decide,show (3:Int) <= 9999 by decide,aB8 base 1,rl.1,ec1.symm▸rl.2,fun c=>absurd (show fJ=cY from c) (by decide)⟩ (.inl rfl) (by decide)) fun u m4 z4=>?_
 have H4:Tw m4 N p (cQ7 c L l h0 h1 (row base 0) (row base 1)) B:=z4.2
 generalize cQ7 c L l h0 h1 (row base 0) (row base 1)=t at F H4
 clear O1 ec1 ll1 H2 H O0 g0 z4 l3
 have ec:=F.cnt
 subst ec
 have hle:t.hs.length <= 12:=by
  have e1:=congrArg List.length F.own
  rw [List.length_map] at e1
  rw [e1]
  exact Nat.le_trans (List.length_filter_le _ _) (by rw [List.length_map,List.length_range];exact cZ c7)
 have ho:m4[qh]?=some (.list (t.hs.map fun s=>V.int s.own)):=by
  rw [H4.has kh,<- F.own,List.map_map];rfl
 refine bK (bD (aC rfl (aX (bD8 (n+5) H4 F.ok (by decide) hle F.rn ho) fun u m5 z5=>?_)))
 rcases z5 with ⟨qk,eu,l5,K⟩
 subst eu
 rcases id K with ⟨a,b,d,gs,q0,a0,b0,d0,kq,ka,kb,kd,gl,gk⟩
 have H5:=H4.more l5 (X:=[(qk,.list [.ref a,.ref b,.ref d]),(a,.list (t.lets.map aG7))]) (aI ⟨q0,kq⟩ (aI ⟨a0,ka⟩ bL))
 have D5:=D m5 fun x hx=>H5.has (.tail _ (.tail _ hx))
 have nl:∀ k,k < 0 \/ (t.lets.length:Int) <= k->Nl t (.int k):=fun k h k' e x hx q=>by
  have e:=cA8 e
  subst e
  have h1:=F.ok.lk.lt x hx
  have h2:=F.nn x hx
  rw [F.fu] at h1
  rw [q] at h1 h2
  lia
 rcases D5.eq with ⟨bb,he,hb⟩
 have e0:ev sig (run sig (n+9)) (.ite (.val (.cmp (.var 6) [.Eq] [(.var 3)])) (.neg (.cnst (Lt.int 1))) (.var 6)) [some sc,some (.int f),some (.int cell),some (.int t.cnt),some (.ref ql),some (.ref qh),some odd,some (.ref p),some (.int base),some (.ref qk),none,none,none,none,none,none,none,none,none,none] m5=.ok (bif bb then .int (-1) else odd) m5:=by
  have e:evT sig (run sig (n+9)) (.val (.cmp (.var 6) [.Eq] [(.var 3)])) [some sc,some (.int f),some (.int cell),some (.int t.cnt),some (.ref ql),some (.ref qh),some odd,some (.ref p),some (.int base),some (.ref qk),none,none,none,none,none,none,none,none,none,none] m5=.ok bb m5:=aO (aU (o:=.Eq) (x:=odd) (y:=.int t.cnt) rfl rfl (he m5 (.refl _)))
  show Res.bind (evT sig (run sig (n+9)) (.val (.cmp (.var 6) [.Eq] [(.var 3)])) _ m5) _=_
  rw [e]
  cases (bb) <;> rfl
 have A0:Pl m5 (bif bb then .int (-1) else odd) /\ Nl t (bif bb then .int (-1) else odd):=by
  cases bb with
  | true=>exact ⟨.int _,nl _ (.inl (by decide))⟩
  | false=>
   refine ⟨D5.pl,fun k e=>?_⟩
   have e:odd=.int k:=e
   refine nl k ?_ k rfl
   have ln:(t.lets.length:Int) <= 28:=Int.ofNat_le.mpr F.ln
   rcases D5.nk k e with q | q | q
   ·exact absurd (q▸e) (hb rfl)
   ·exact .inl q
   ·exact .inr (Int.le_trans ln (Int.le_trans (by decide) q))
 refine bK (aS (aD (aH e0 (aD (d9 (aI0 (aD (aH (cI rfl kq (j:=0) rfl) (aK (bM6 ka (aC (a:=.int (cell % 3)) rfl (aC rfl (aK (aL fun q6 m6 l6 k6 y_=>?_))))))))))))))
 rw [List.length_map] at k6
 have A1:Nl t (.int (t.lets.length+cell % 3)):=nl _ (.inr (Int.le_add_of_nonneg_right (md0 (by decide))))
 generalize (bif bb then V.int (-1) else odd)=v0 at A0 k6 e0
 clear e0
 have H6:=H5.up l6
 refine bK (aT3 (aD (aC rfl (aD (aC rfl (aD (bD (aC rfl (aG4 (aS7 bW5 (n+8) base 2 m6) fun m7 l7=>aD (aH (cI rfl ((H6.up l7).has (.tail _ (.tail _ kL))) il) (aK ?_)))))))))))
 have H7:=H6.up l7
 refine bK (aT3 (aD (aC rfl (aD (aC rfl (aD (bD (aC rfl (aG4 (aS7 bW5 (n+8) base 2 m7) fun m8 l8=>aD (aH (cI rfl ((H7.up l8).has (.tail _ (.tail _ kh))) i1) (aK ?_)))))))))))
 have H8:=H7.up l8
 refine bK (aS (aD (aC rfl (aD (aC rfl (aD (aC rfl (aD (aC rfl (aD (aC rfl (aD (aS (aC rfl (aL fun q9 m9 l9 k9 y_=>aK (aL fun q10 m10 l10 k10 y_=>?_))))))))))))))))
 rcases bI4 (xs:=[V.tup [.str (Str.ofString "mark"),.int 1,.str (Str.ofString "A"),.int 0],.tup [.str (Str.ofString "say"),.int 1,.str (Str.ofString "a"),.int 0],.tup [.str (Str.ofString "mark"),.int 1,.str (Str.ofString "a"),.int t.cnt],.tup [.str (Str.ofString "mark"),.int 1,.str (Str.ofString "a")],.none,.ref q9]) (x:=cell / 72) (n:=6) (by decide) rfl with ⟨bad,eb,hbm⟩
 refine bK (aE4 (aC rfl (aC (a:=.int (cell / 72 % 6)) rfl (aG3 k10 eb (md60 (by decide) (by decide)) ?_))))
 have L10:=(((l6.trans l7).trans l8).trans l9).trans l10
 have H10:=H5.up L10
 have Bd:=dJ0 c4 (l10.has k9) bad hbm
 have D10:=D m10 fun x hx=>H10.has (.tail _ (.tail _ hx))
 have ow:∀ s∈t.hs,s.own∈dU t.cnt L:=fun s hs=>F.own▸List.mem_map.mpr ⟨s,hs,rfl⟩
 rcases F.s0 with ⟨s,hs0,so,y_⟩
 have Z:Si10 m10 p t 302 l h0 h1 _:=⟨H10,F.ok,by decide,rl.1,rl.2,fun s hs e=>(hon_iff.mp (ow s hs)).2.2 (e▸hlm),fun s hs=>⟨(hon_iff.mp (ow s hs)).1,(hon_iff.mp (ow s hs)).2.1⟩,F.rn,⟨s,hs0,so⟩,⟨_,F.s1,rfl⟩⟩
 exact law_c n F Z c4 hl hh D10 ⟨A0.1.le L10,A0.2⟩ A1 Bd (.tail _ (.tail _ kh)) (.tail _ (.tail _ kL)) (K.le L10) (.head _) (.tail _ (.head _)) ((((l7.trans l8).trans l9).trans l10).has k6)
end
end P10
end Mini.Internal
namespace Mini.Internal
open PySem
namespace P10
open C10
theorem cX9 (x y z:Int):∃ L:List Int,dM [V.int x,V.int y] .none (.int (1+z % 2)) .none=some (L.map V.int) /\ (L=[x] \/ L=[x,y]):=by
 rcases Int.emod_two_eq z with h | h
 ·rw [h];exact ⟨[x],rfl,.inl rfl⟩
 ·rw [h];exact ⟨[x,y],rfl,.inr rfl⟩
theorem dB5 {a c:Int} (c4:4 <= c):a % c≠(a+2) % c:=fun e=>by
 have h:=Int.emod_eq_emod_iff_emod_sub_eq_zero.mp e.symm
 rw [Int.add_comm,Int.add_sub_cancel,Int.emod_eq_of_lt (by decide) (Int.lt_of_lt_of_le (by decide) c4)] at h
 cases (h)
theorem law_holds (n:Nat) (ns:List Int) (hl:ns.length <= 4000):Wp (run sig (n+10) 40 [.scr ns]) [] (fun v y_=>v=.bool true) nox:=by
 have e0:=fun m=>cY7 f_at (n+8) ns 0 (by decide) m
 have e1:=fun m=>cY7 f_at (n+8) ns 1 (by decide) m
 have e2:=fun m=>cY7 f_at (n+8) ns 2 (by decide) m
 refine fC rfl rfl (bK (aI0 (aD (aH (eD (vs:=[.scr ns,.int 0]) rfl (e0 _)) (aK (aC (a:=.int (if at0 ns 0 < 0 then -at0 ns 0 else at0 ns 0)) rfl ?_))))))
 generalize (if at0 ns 0 < 0 then -at0 ns 0 else at0 ns 0)=f
 refine bK (aI0 (aD (aH (eD (vs:=[.scr ns,.int 1]) rfl (e1 _)) (aK (aC (a:=.int (if at0 ns 1 < 0 then -at0 ns 1 else at0 ns 1)) rfl ?_)))))
 have hc:=dJ4 (at0 ns 1)
 generalize (if at0 ns 1 < 0 then -at0 ns 1 else at0 ns 1)=cell at hc ⊢
 refine bK (aC (a:=.int (4+f % 4)) rfl ?_)
 have c4:4 <= 4+f % 4:=Int.le_add_of_nonneg_right (md0 (by decide))
 have c12:4+f % 4 <= 12:=Int.add_le_add_left (a:=f % 4) (b:=8) (Int.le_of_lt (Int.lt_trans (md1 (by decide)) (by decide))) 4
 generalize 4+f % 4=c at c4 c12 ⊢
 have c0:0 < c:=Int.lt_of_lt_of_le (by decide) c4
 have c1:1 <= c:=Int.le_trans (by decide) c4
 rcases cX9 (f / 4 % c) ((f / 4+2) % c) (f / 28) with ⟨L,es,hL⟩
 refine bK (aM (aS (aH (a:=[.int (f / 4 % c),.int ((f / 4+2) % c)]) (m':=[]) (aG (cO rfl rfl (aT6 c0)) (aG (cO rfl rfl (aT6 c0)) rfl)) (aL fun qa ma la ka y_=>aM (aC rfl (aM (aC (a:=.int (1+f / 28 % 2)) rfl (aM (aC rfl (aO0 (y:=alloc (.list (L.map V.int))) ?_ (aL fun ql m1 l1 kl y_=>?_)))))))))))
 ·show (match ma[qa]? with | some (.list xs)=>(match dM xs .none (.int (1+f / 28 % 2)) .none with | some l=>alloc (.list l) ma | Option.none=>.bad) | _=>.bad)=_
  rw [ka]
  show (match dM [V.int (f / 4 % c),V.int ((f / 4+2) % c)] .none (.int (1+f / 28 % 2)) .none with | some l=>alloc (.list l) ma | Option.none=>.bad)=_
  rw [es]
 have hLr:∀ x∈L,0 <= x /\ x < c:=by
  rcases hL with rfl | rfl
  ·exact aI ⟨md0 c0,md1 c0⟩ bL
  ·exact aI ⟨md0 c0,md1 c0⟩ (aI ⟨md0 c0,md1 c0⟩ bL)
 have nd:L.Nodup:=by
  rcases hL with rfl | rfl
  ·exact List.nodup_cons.mpr ⟨List.not_mem_nil,List.Pairwise.nil⟩
  ·exact List.nodup_cons.mpr ⟨fun q=>dB5 c4 (List.mem_singleton.mp q),List.nodup_cons.mpr ⟨List.not_mem_nil,List.Pairwise.nil⟩⟩
 have l2:L.length <= 2:=by
  rcases hL with rfl | rfl
  ·exact show 1 <= 2 by decide
  ·exact show 2 <= 2 by decide
 have h0:L[0]?=some (f / 4 % c):=by
  rcases hL with rfl | rfl <;> rfl
 generalize f / 4 % c=l at h0
 clear hL es ka la
 rcases cW5 c4 l2 with ⟨a0,a1,rest,hh⟩
 refine bK (dD7 rfl rfl (fun y_=>rfl) kl c1 c12 fun qh m2 l2 kh y_=>?_)
 refine bK (aE4 (aS (aD (aC (a:=.int (-1)) rfl (aD (aC rfl (aD (aC rfl (aD (aC rfl (aD (aC rfl (aD (aC rfl (aD (aC rfl (aD (aS (aC rfl (aL fun q3 m3 l3 k3 y_=>aD (aH (a:=.ref m3.length) (m':=m3++[.dict [] 0]) rfl (aK (aL fun q4 m4 l4 k4 y_=>aC (a:=.int (cell % 9)) rfl ?_)))))))))))))))))))))))
 have l34:Le m3 m4:=(Le.app _ _).trans l4
 rcases bI4 (xs:=[V.int (-1),.int c,.int (40+cell),.bool true,.bool false,.none,.str (Str.ofString "0"),.ref q3,.ref m3.length]) (x:=cell) (n:=9) (by decide) rfl with ⟨odd,eo,hom⟩
 refine aG3 k4 eo (md60 (by decide) (by decide)) ?_
 rcases dD8 (c:=c) (l34.has k3) (l4.has (bW (m:=m3))) hc odd hom with ⟨Bo,kB,hB⟩
 have l14:=(l2.trans l3).trans l34
 have kh4:=(l3.trans l34).has kh
 have kl4:=l14.has kl
 clear k3 k4 eo hom kh kl l34 l14
 refine aE6 (dO (dP (bD (aD (aE4 (aS (aD (aC rfl (aD (aC rfl (aD (aC rfl (aD (aC rfl (aD (aC rfl (aD (aS (aC rfl (aL fun q5 m5 l5 k5 y_=>aD (aC (a:=.int (-3)) rfl (aK (aL fun q6 m6 l6 k6 y_=>aC (a:=.int (cell % 7)) rfl ?_)))))))))))))))))))))))
 rcases bI4 (xs:=[V.int 0,.int 13,.bool true,.none,.str (Str.ofString "4"),.ref q5,.int (-3)]) (x:=cell) (n:=7) (by decide) rfl with ⟨v,evv,hv⟩
 rcases dI0 (l6.has k5) v hv with ⟨pv,cv⟩
 refine aG3 k6 evv (md60 (by decide) (by decide)) (aD (aS (aC rfl (aL fun q7 m7 l7 k7 y_=>aK ?_))))
 refine aX (bU0 (n+4) kd2 (wp_mono (bP6 tf (n+5) ((pv.le l7).le (.app _ _)) cv) (fun y_ y_ q=>q) fun y_ y_ q=>⟨q.1,q.2▸.refl _⟩)) fun u m8 z8=>?_
 rcases z8 with ⟨eu,l8⟩
 subst eu
 refine aC rfl (aH (bT6 _ m8) (aC rfl ?_))
 have l48:=((l5.trans l6).trans l7).trans l8
 clear evv hv pv cv k5 k6 k7
 have kB8:∀ x∈Bo,m8[x.1]?=some x.2:=fun x q=>l48.has (kB x q)
 have kh8:=l48.has kh4
 have kl8:=l48.has kl4
 clear kB kh4 kl4 l48 l5 l6 l7 l8
 refine aE6 (dO (dP (bD (aD (aC rfl (aD (aE4 (aS (aD (aS (aC rfl (aL fun q1 n1 j1 i1 y_=>aD (aS (aC rfl (aL fun q2 n2 j2 i2 y_=>aD (aC rfl (aD (aC rfl (aD (aC rfl (aD (aH (a:=.ref n2.length) (m':=n2++[.dict [] 0]) rfl (aD (aS (aC rfl (aL fun q4 n4 j4 i4 y_=>aD (aC rfl (aK (aL fun q5 n5 j5 i5 y_=>aC (a:=.int (cell / 9 % 8)) rfl ?_)))))))))))))))))))))))))))))
 have j24:Le n2 n4:=(Le.app _ _).trans j4
 have J:Le m8 n5:=((j1.trans j2).trans j24).trans j5
 rcases bI4 (xs:=[V.ref q1,.ref q2,.tup [.int 1],.none,.str (Str.ofString "1"),.ref n2.length,.ref q4,.int 3]) (x:=cell / 9) (n:=8) (by decide) rfl with ⟨v,evv,hv⟩
 refine aG3 i5 evv (md60 (by decide) (by decide)) (aK ?_)
 refine aX (bl_of (n+4) c4 c12 (hB n5 fun x q=>J.has (kB8 x q)) ((j2.trans (j24.trans j5)).has i1) ((j24.trans j5).has i2) (j5.has (j4.has (bW (m:=n2)))) (j5.has i4) v hv) fun u m9 z9=>?_
 rcases z9 with ⟨eu,l9⟩
 subst eu
 refine aC rfl (aH (bT6 _ m9) (aC rfl ?_))
 have l89:=J.trans l9
 have kh9:=l89.has kh8
 have kl9:=l89.has kl8
 refine bK (cS7 tf (n:=n+5) (B:=(qh,.list ((dU c L).map V.int))::(ql,.list (L.map V.int))::Bo) rfl rfl kl9 (aI kh9 (aI kl9 fun x q=>l89.has (kB8 x q))) c1 c12 hLr nd fun p m10 H=>?_)
 refine bK (aH (a:=.int ((if at0 ns 2 < 0 then -at0 ns 2 else at0 ns 2) % 100003)) (m':=m10) ?_ ?_)
 ·refine cO (x:=.int (if at0 ns 2 < 0 then -at0 ns 2 else at0 ns 2)) ?_ rfl (aT6 (by decide))
  show Res.bind (Res.bind (ev sig (run sig (n+9)) (.call 32 [(.var 0),(.cnst (Lt.int 2))]) _ m10) _) _=_
  rw [eD (vs:=[.scr ns,.int 2]) rfl (e2 m10)];rfl
 exact law_b n c4 c12 hLr h0 hh hc H (.head _) (.tail _ (.head _)) fun m' q=>hB m' fun x hx=>q x (.tail _ (.tail _ hx))
end P10
end Mini.Internal
open PySem PySem.W PyProof.Rows
namespace Mini.Internal
noncomputable def keep10:List Nat:=[1,2,3,4,5,6,7,8,9,11,12,13,14,15,17,18,19,20,21,22,23,25,27,29,31,32,33,34,35,36,37,38,39]
noncomputable def as10:List Nat:=[3,23,24,36,37,48,49,60,61,72,73,84,85,96,97,108,109,120,121,129,130,136,137,143,144,150,151,157,158,164,165,171,172,178,179,192,193,199,200,204,205,211,212,216,217,223,224,230,231,237,238,244,245,247,248,265,266,272,273,279,280,284,285,287,288,305,306,312,313,319,320,326,327,333,334,340,341,347,348,354,355,361,362,368,369,375,376,378,379,389,390,394,395,401,402,408,409,415,416,420,421,427,428,432,433,437,438]
noncomputable def chk10 (K:Frag):Bool:=chkA C10.sig [34] 35 K&&chkB C10.sig [34] 35 40 K
theorem said10:PySem.Challenge.rw_uf030037_10.wellSaid=true:=by kernel_rfl
theorem run10a:∀ w os,(cL2 PySem.Challenge.rw_uf030037_10.prog 4000 w os).map (fun s=>staticsOk (importedModules PySem.Challenge.rw_uf030037_10.prog.main.body) (boot_heap w.params) s.abs.heap&&namesBound PySem.Challenge.rw_uf030037_10.prog s.abs.heap&&gensDone s.abs&&laidKept (boot_heap w.params) s.abs.heap)=some true:=by intro w os;kernel_rfl
theorem run10b:∀ w os,(cL2 PySem.Challenge.rw_uf030037_10.prog 4000 w os).map (fun s=>Fast.tw4187177175401517315 (view PySem.Challenge.rw_uf030037_10.prog keep10) [] (importedModules PySem.Challenge.rw_uf030037_10.prog.main.body) (xtOf (view PySem.Challenge.rw_uf030037_10.prog keep10) PySem.Challenge.rw_uf030037_10.row.records) true s.abs)=some (openGood (view PySem.Challenge.rw_uf030037_10.prog keep10) []):=by intro w os;kernel_rfl
theorem run10c:∀ w os,(cL2 PySem.Challenge.rw_uf030037_10.prog 4000 w os).map (fun s=>chkA C10.sig [34] 35 (aI9 as10 s.abs.heap))=some true:=by intro w os;kernel_rfl
theorem run10d:∀ w os,(cL2 PySem.Challenge.rw_uf030037_10.prog 4000 w os).map (fun s=>chkB C10.sig [34] 35 40 (aI9 as10 s.abs.heap))=some true:=by intro w os;kernel_rfl
theorem run10:∀ w os,(cL2 PySem.Challenge.rw_uf030037_10.prog 4000 w os).map (fun s=>bF7 PySem.Challenge.rw_uf030037_10.prog (view PySem.Challenge.rw_uf030037_10.prog keep10) PySem.Challenge.rw_uf030037_10.row.records (fun h=>chk10 (aI9 as10 h)) w s.abs)=some (true,openGood (view PySem.Challenge.rw_uf030037_10.prog keep10) [],true):=fun w os=>cE2 (run10a w os) (run10b w os) (run10c w os) (run10d w os) fun y_=>rfl
end Mini.Internal
open PySem PySem.W PyProof.Rows Mini.Internal
namespace Mini.Internal
set_option tactic.hygienic true in
theorem t10:PySem.Challenge.rw_uf030037_10.Holds:=by
 refine cE9 (keep:=keep10) (as:=as10) (chk:=chk10) (N:=4000) (d:=((defOf (view PySem.Challenge.rw_uf030037_10.prog keep10) PySem.Challenge.rw_uf030037_10.row.name).get (by kernel_rfl)).1) (kwd:=[]) said10 (by kernel_rfl) (by decide +kernel) (fun s=>rfl) run10 (by kernel_rfl) (by kernel_rfl) (by kernel_rfl) (by kernel_rfl) (by kernel_rfl) ⟨rfl,rfl,rfl,rfl,rfl,by kernel_rfl⟩ ⟨[.list []],by decide +kernel,by decide +kernel⟩ ?_
 intro w s₀ s₁ mg mb G Y fa o pm cd doc dV kV ho hd hcd hD hmg hg args vals as hpre hlay hrd hwl hlo
 rcases Y with ⟨K,KX,hck⟩
 refine Ground.open G ?_
 intro T B D TE TW
 have hmg':mg (Str.ofString "law")=some (.ref fa):=hmg
 clear hd hcd hD hmg ho
 wrow_args hpre hlay hrd hwl hlo
 rename_i ns _ _ _ _ _ _ _ l vs _ hL _ _ _ hI _ hlen _
 refine glue (S:=C10.sig) (qok:=[34]) (k:=40) (n:=10) (d:=_) T (by kernel_rfl) KX hg (dI3 hck rfl) rfl hmg' hL hI (by lia) (by decide) (P10.law_holds 0 ns (by lia)) ?_ ?_
 ·intro cls;rfl
 ·wrow_post
end Mini.Internal
theorem PySem.Challenge.cw_uf030037_10_holds : PySem.Challenge.rw_uf030037_10.Holds :=
 Mini.Internal.t10
