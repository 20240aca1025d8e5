import PyProof.Rows.All
import PyProof.Meets
import PyProof.Ns1
import PyProof.AttrMissHeap
import PyProof.ListIndex
import PyProof.ForAny
import PyProof.CallRoads
import PyProof.CallType
import PyProof.Cells
import PyProof.PlainList
import PyProof.Walks
import PyProof.WalksS
import PyProof.StrWalks
import PyProof.CompFree
import PyProof.PureInt
import PyProof.MeetsSeq
import PyProof.DictKinds
import PyProof.MeetsDictList
import PyProof.DictStraight
import PyProof.DictUpdate
import PyProof.TupleKey
import PyProof.DictTable
import PyProof.DictWalks
import PyProof.EnumFor
import PyProof.EnumStmt
import PyProof.EnumMake
import PyProof.EqAt
import PyProof.EqKinds
import PyProof.P3Statements
import PyProof.ExcClass
import PyProof.ExcArgsOwn
import PyProof.ExcAttrAll.ValueError
import PyProof.RaisesMany
import PyProof.StationsW
import PyProof.StrBlockL
import PyProof.RangeIter
import PyProof.WalksMore
import PyProof.RangeFor
import PyProof.InstLoad
import PyProof.InstStoreFacts
import PyProof.IsiHeapPairs
import PyProof.IsiPairs
import PyProof.IsiSeqPairs
import PyProof.ListIndexNeg
import PyProof.NsDelKeeps
import PyProof.ObjNew
import PyProof.Rows.AttrNodeAny
import PyProof.RulesAssignMore
import PyProof.Rows.SortShell
import PyProof.Rows.SortWalk
import PyProof.Rows.Range3
import PyProof.Rows.SetFrom
import OpenK.KCall
import OpenK.KMake
import OpenK.TopRead
import OpenK.KWalk
import OpenK.KLine
import KE.KPop
import KE.KDictList
import KE.KDictSum
import KE.KDictOf
import KE.KEqDict
import OpenK.KOwn
import KE.KIsAll
import KE.KTryMore
import Wide.Txt2
import Wide.All
import OpenK.AllK
import Wide.FinOn
import PySem.Challenge.RW_uf030037_09
set_option Elab.async false
set_option maxRecDepth 100000
set_option maxHeartbeats 8000000
set_option autoImplicit false
set_option linter.all false
set_option genSizeOf false
set_option genInjectivity false
set_option bootstrap.genMatcherCode false
set_option compiler.extract_closed false
set_option tactic.hygienic false
namespace Mini.Internal
@[elab_as_elim] theorem rwq.{u} {α:Sort u} {a:α} {motive:α → Prop} {b:α} (h:a=b) (x:motive b):motive a:=h▸x
@[elab_as_elim] theorem rwr.{u} {α:Sort u} {a:α} {motive:α → Prop} {b:α} (h:b=a) (x:motive b):motive a:=h▸x
theorem e0a2 {P0 P1 X:Prop} (h:P0 /\ P1) (k:P0->P1->X):X:=k h.1 h.2
theorem e0a3 {P0 P1 P2 X:Prop} (h:P0 /\ P1 /\ P2) (k:P0->P1->P2->X):X:=k h.1 h.2.1 h.2.2
theorem e0a4 {P0 P1 P2 P3 X:Prop} (h:P0 /\ P1 /\ P2 /\ P3) (k:P0->P1->P2->P3->X):X:=k h.1 h.2.1 h.2.2.1 h.2.2.2
theorem e0a5 {P0 P1 P2 P3 P4 X:Prop} (h:P0 /\ P1 /\ P2 /\ P3 /\ P4) (k:P0->P1->P2->P3->P4->X):X:=k h.1 h.2.1 h.2.2.1 h.2.2.2.1 h.2.2.2.2
theorem e0a6 {P0 P1 P2 P3 P4 P5 X:Prop} (h:P0 /\ P1 /\ P2 /\ P3 /\ P4 /\ P5) (k:P0->P1->P2->P3->P4->P5->X):X:=k h.1 h.2.1 h.2.2.1 h.2.2.2.1 h.2.2.2.2.1 h.2.2.2.2.2
theorem e1a1 {α:Type} {P0:α->Prop} {X:Prop} (h:∃ x0,P0 x0) (k:∀ x0,P0 x0->X):X:=h.elim fun x0 h=>k x0 h
theorem e1a2 {α:Type} {P0 P1:α->Prop} {X:Prop} (h:∃ x0,P0 x0 /\ P1 x0) (k:∀ x0,P0 x0->P1 x0->X):X:=h.elim fun x0 h=>k x0 h.1 h.2
theorem e1a3 {α:Type} {P0 P1 P2:α->Prop} {X:Prop} (h:∃ x0,P0 x0 /\ P1 x0 /\ P2 x0) (k:∀ x0,P0 x0->P1 x0->P2 x0->X):X:=h.elim fun x0 h=>k x0 h.1 h.2.1 h.2.2
theorem e1a4 {α:Type} {P0 P1 P2 P3:α->Prop} {X:Prop} (h:∃ x0,P0 x0 /\ P1 x0 /\ P2 x0 /\ P3 x0) (k:∀ x0,P0 x0->P1 x0->P2 x0->P3 x0->X):X:=h.elim fun x0 h=>k x0 h.1 h.2.1 h.2.2.1 h.2.2.2
theorem e1a5 {α:Type} {P0 P1 P2 P3 P4:α->Prop} {X:Prop} (h:∃ x0,P0 x0 /\ P1 x0 /\ P2 x0 /\ P3 x0 /\ P4 x0) (k:∀ x0,P0 x0->P1 x0->P2 x0->P3 x0->P4 x0->X):X:=h.elim fun x0 h=>k x0 h.1 h.2.1 h.2.2.1 h.2.2.2.1 h.2.2.2.2
theorem e1a6 {α:Type} {P0 P1 P2 P3 P4 P5:α->Prop} {X:Prop} (h:∃ x0,P0 x0 /\ P1 x0 /\ P2 x0 /\ P3 x0 /\ P4 x0 /\ P5 x0) (k:∀ x0,P0 x0->P1 x0->P2 x0->P3 x0->P4 x0->P5 x0->X):X:=h.elim fun x0 h=>k x0 h.1 h.2.1 h.2.2.1 h.2.2.2.1 h.2.2.2.2.1 h.2.2.2.2.2
theorem e2a1 {α β:Type} {P0:α->β->Prop} {X:Prop} (h:∃ x0 x1,P0 x0 x1) (k:∀ x0 x1,P0 x0 x1->X):X:=h.elim fun x0 h=>h.elim fun x1 h=>k x0 x1 h
theorem e2a2 {α β:Type} {P0 P1:α->β->Prop} {X:Prop} (h:∃ x0 x1,P0 x0 x1 /\ P1 x0 x1) (k:∀ x0 x1,P0 x0 x1->P1 x0 x1->X):X:=h.elim fun x0 h=>h.elim fun x1 h=>k x0 x1 h.1 h.2
theorem e2a3 {α β:Type} {P0 P1 P2:α->β->Prop} {X:Prop} (h:∃ x0 x1,P0 x0 x1 /\ P1 x0 x1 /\ P2 x0 x1) (k:∀ x0 x1,P0 x0 x1->P1 x0 x1->P2 x0 x1->X):X:=h.elim fun x0 h=>h.elim fun x1 h=>k x0 x1 h.1 h.2.1 h.2.2
theorem e2a4 {α β:Type} {P0 P1 P2 P3:α->β->Prop} {X:Prop} (h:∃ x0 x1,P0 x0 x1 /\ P1 x0 x1 /\ P2 x0 x1 /\ P3 x0 x1) (k:∀ x0 x1,P0 x0 x1->P1 x0 x1->P2 x0 x1->P3 x0 x1->X):X:=h.elim fun x0 h=>h.elim fun x1 h=>k x0 x1 h.1 h.2.1 h.2.2.1 h.2.2.2
theorem e3a2 {α β γ:Type} {P0 P1:α->β->γ->Prop} {X:Prop} (h:∃ x0 x1 x2,P0 x0 x1 x2 /\ P1 x0 x1 x2) (k:∀ x0 x1 x2,P0 x0 x1 x2->P1 x0 x1 x2->X):X:=h.elim fun x0 h=>h.elim fun x1 h=>h.elim fun x2 h=>k x0 x1 x2 h.1 h.2
theorem e3a3 {α β γ:Type} {P0 P1 P2:α->β->γ->Prop} {X:Prop} (h:∃ x0 x1 x2,P0 x0 x1 x2 /\ P1 x0 x1 x2 /\ P2 x0 x1 x2) (k:∀ x0 x1 x2,P0 x0 x1 x2->P1 x0 x1 x2->P2 x0 x1 x2->X):X:=h.elim fun x0 h=>h.elim fun x1 h=>h.elim fun x2 h=>k x0 x1 x2 h.1 h.2.1 h.2.2
theorem e3a4 {α β γ:Type} {P0 P1 P2 P3:α->β->γ->Prop} {X:Prop} (h:∃ x0 x1 x2,P0 x0 x1 x2 /\ P1 x0 x1 x2 /\ P2 x0 x1 x2 /\ P3 x0 x1 x2) (k:∀ x0 x1 x2,P0 x0 x1 x2->P1 x0 x1 x2->P2 x0 x1 x2->P3 x0 x1 x2->X):X:=h.elim fun x0 h=>h.elim fun x1 h=>h.elim fun x2 h=>k x0 x1 x2 h.1 h.2.1 h.2.2.1 h.2.2.2
theorem e3a6 {α β γ:Type} {P0 P1 P2 P3 P4 P5:α->β->γ->Prop} {X:Prop} (h:∃ x0 x1 x2,P0 x0 x1 x2 /\ P1 x0 x1 x2 /\ P2 x0 x1 x2 /\ P3 x0 x1 x2 /\ P4 x0 x1 x2 /\ P5 x0 x1 x2) (k:∀ x0 x1 x2,P0 x0 x1 x2->P1 x0 x1 x2->P2 x0 x1 x2->P3 x0 x1 x2->P4 x0 x1 x2->P5 x0 x1 x2->X):X:=h.elim fun x0 h=>h.elim fun x1 h=>h.elim fun x2 h=>k x0 x1 x2 h.1 h.2.1 h.2.2.1 h.2.2.2.1 h.2.2.2.2.1 h.2.2.2.2.2
theorem e4a6 {α β γ δ:Type} {P0 P1 P2 P3 P4 P5:α->β->γ->δ->Prop} {X:Prop} (h:∃ x0 x1 x2 x3,P0 x0 x1 x2 x3 /\ P1 x0 x1 x2 x3 /\ P2 x0 x1 x2 x3 /\ P3 x0 x1 x2 x3 /\ P4 x0 x1 x2 x3 /\ P5 x0 x1 x2 x3) (k:∀ x0 x1 x2 x3,P0 x0 x1 x2 x3->P1 x0 x1 x2 x3->P2 x0 x1 x2 x3->P3 x0 x1 x2 x3->P4 x0 x1 x2 x3->P5 x0 x1 x2 x3->X):X:=h.elim fun x0 h=>h.elim fun x1 h=>h.elim fun x2 h=>h.elim fun x3 h=>k x0 x1 x2 x3 h.1 h.2.1 h.2.2.1 h.2.2.2.1 h.2.2.2.2.1 h.2.2.2.2.2
theorem e6a4 {α β γ δ ε ζ:Type} {P0 P1 P2 P3:α->β->γ->δ->ε->ζ->Prop} {X:Prop} (h:∃ x0 x1 x2 x3 x4 x5,P0 x0 x1 x2 x3 x4 x5 /\ P1 x0 x1 x2 x3 x4 x5 /\ P2 x0 x1 x2 x3 x4 x5 /\ P3 x0 x1 x2 x3 x4 x5) (k:∀ x0 x1 x2 x3 x4 x5,P0 x0 x1 x2 x3 x4 x5->P1 x0 x1 x2 x3 x4 x5->P2 x0 x1 x2 x3 x4 x5->P3 x0 x1 x2 x3 x4 x5->X):X:=h.elim fun x0 h=>h.elim fun x1 h=>h.elim fun x2 h=>h.elim fun x3 h=>h.elim fun x4 h=>h.elim fun x5 h=>k x0 x1 x2 x3 x4 x5 h.1 h.2.1 h.2.2.1 h.2.2.2
end Mini.Internal
open PySem Mini.Internal
variable {X C:Prop} {α β:Type} {a b l L I D:Addr} {h h' h₀:Heap} {vs us:List Value} {n c j q qr qd:Nat} {o:Obj} {ns is:List Int} {u e y:Value} {es:List DictEntry} {fr wr own' fr':List Addr} {prog:Program} {w:World} {A:Around} {E:Value->Shared->Prop} {s s' s₁ s₀:Shared} {ws:Array Value} {t:Tok} {Q:Unit->Shared->Prop} {env cenv:Env} {vis vis':List (Option Str)} {fs:List Env} {pos p np cpos:Pos} {M:Model} {i mn:Int} {ks:List (Sum Int Str)} {P:Nat->Value->Prop} {R:Result->Shared->Prop} {T:String} {op:BoolOp} {rest bs ifs:List Expr} {ops:List CmpOp} {whole:Sem Value} {fd:FuncData} {target iter tg elt:Expr} {body:List Stmt} {names:List Str} {scope:Scope} {ps:List (Value×Value)} {mA:Str->Option Value} {a0 a1 a2 a3 a4 a5 a6:Bool} {col:Nat->Nat}
set_option hygiene false in
local macro_rules
 | `(tactic| rewrite [$t:term])=>`(tactic| first | refine Mini.Internal.rwq $t ?_ | refine Mini.Internal.rwq ($t _) ?_ | rewrite [$t:term] at ⊢)
 | `(tactic| rewrite [← $t:term])=>`(tactic| first | refine Mini.Internal.rwr $t ?_ | refine Mini.Internal.rwr ($t _) ?_ | rewrite [← $t:term] at ⊢)
 | `(tactic| rewrite [$r,$rs,*])=>`(tactic| (rewrite [$r];rewrite [$rs,*]))
namespace Mini.Internal
open PySem
inductive V where
 |none | bool (b:Bool) | int (i:Int) | str (s:Str) | tup (xs:List V) | ref (n:Nat) | fn (k:Nat) | exc (c:Nat) | scr (ns:List Int)
inductive Ky where
 |int (i:Int) | str (s:Str) | tup (ks:List (Sum Int Str))
 deriving DecidableEq
inductive MObj where
 |list (xs:List V)
 |dict (kvs:List (Ky×V)) (e:Nat)
 |inst (c:Nat) (fs:List (Nat×V))
noncomputable abbrev MH:=List MObj
inductive Res(α:Type) where
 |ok (a:α) (m:MH)
 |exc (c:Nat) (m:MH)
 |bad
noncomputable abbrev Mn(α:Type):=MH->Res α
noncomputable def Res.bind{α β:Type}(r:Res α)(f:α->Mn β):Res β:=match r with
 |.ok a m=>f a m
 |.exc c m=>.exc c m
 |.bad=>.bad
noncomputable def Res.nox{α:Type}(r:Res α):Res α:=match r with
 |.exc _ _=>.bad
 |r=>r
noncomputable def ret{α:Type}(a:α):Mn α:=λm=>.ok a m
noncomputable def bad{α:Type}:Mn α:=λy_=>.bad
noncomputable def bnd{α β:Type}(x:Mn α)(f:α->Mn β):Mn β:=λm=>(x m).bind f
noncomputable def ofO{α:Type}:Option α->Mn α
 |some a=>ret a
 |Option.none=>bad
noncomputable def Ky.val:Ky->V
 |.int i=>.int i
 |.str s=>.str s
 |.tup ks=>.tup (ks.map λx=>match x with | .inl i=>.int i | .inr s=>.str s)
noncomputable def Ky.sort:Ky->Nat
 |.int _=>0
 |.str _=>1
 |.tup _=>2
noncomputable def d7{α β:Type}(g:α->Option β):List α->Option (List β)
 |[]=>some []
 |x::xs=>match g x,d7 g xs with
  |some d,some ds=>some (d::ds)
  |_,_=>Option.none
noncomputable def rd:Nat->MH->V->Option PyData
 |0,_,_=>Option.none
 |f+1,m,v=>match v with
  |.none=>some .none
  |.bool b=>some (.bool b)
  |.int i=>some (.int i)
  |.str s=>some (.str s)
  |.tup xs=>(d7 (rd f m) xs).map .tuple
  |.ref n=>match m[n]? with
   |some (.list xs)=>(d7 (rd f m) xs).map .list
   |_=>Option.none
  |_=>Option.none
noncomputable def atom:V->Option (Sum Int Str)
 |.int i=>some (.inl i)
 |.str s=>some (.inr s)
 |_=>Option.none
noncomputable def dP:V->Option Ky
 |.int i=>some (.int i)
 |.str s=>some (.str s)
 |.tup xs=>(d7 atom xs).map .tup
 |_=>Option.none
noncomputable def cT:Nat:=12
noncomputable def look(k:Ky):List (Ky×V)->Option V
 |[]=>Option.none
 |(k',v)::r=>if k'=k then some v else look k r
noncomputable def bM9(g:V->V->Option Bool):List V->List V->Option Bool
 |[],ys=>match ys with
  |[]=>some true
  |_::_=>Option.none
 |x::xs,ys=>match ys with
  |[]=>Option.none
  |y::ys=>match g x y with
   |some a=>match bM9 g xs ys with
    |some b=>some (a&&b)
    |Option.none=>Option.none
   |Option.none=>Option.none
noncomputable def aF9(m:MH)(ls:List (Ky×V)):List (Ky×V)->Option Bool
 |[]=>some true
 |(k,v)::r=>match look k ls with
  |Option.none=>some false
  |some u=>match rd cT m v with
   |some x=>match rd cT m u with
    |some y=>match aF9 m ls r with
     |some b=>some (PyData.eqv x y&&b)
     |Option.none=>Option.none
    |Option.none=>Option.none
   |Option.none=>Option.none
noncomputable def aF8(kvs:List (Ky×V)):Bool:=kvs.all λp=>p.1.sort == 0
noncomputable def eqN(m:MH)(g:V->V->Option Bool)(a b:V):Option Bool:=match a with
 |.ref p=>match b with
  |.ref q=>match m[p]? with
   |some (.list xs)=>match m[q]? with
    |some (.list ys)=>if p≠q /\ xs.length=ys.length then bM9 g xs ys else Option.none
    |_=>Option.none
   |some (.dict ks _)=>match m[q]? with
    |some (.dict ls _)=>if p≠q /\ ks.length=ls.length /\ (aF8 ks&&aF8 ls)=true then aF9 m ls ks else Option.none
    |_=>Option.none
   |_=>Option.none
  |_=>Option.none
 |_=>Option.none
noncomputable def eqX:Nat->MH->V->V->Option Bool
 |0,_,_,_=>Option.none
 |f+1,m,a,b=>match rd cT m a,rd cT m b with
  |some x,some y=>some (PyData.eqv x y)
  |_,_=>eqN m (eqX f m) a b
noncomputable def eqV(a b:V):Mn Bool:=λm=>match rd cT m a,rd cT m b with
 |some x,some y=>.ok (PyData.eqv x y) m
 |_,_=>match eqN m (eqX 8 m) a b with
  |some c=>.ok c m
  |Option.none=>.bad
noncomputable def at_{α:Type}(xs:List α)(i:Int):Option α:=
 if 0 <= i then xs[i.toNat]? else Option.none
noncomputable def eX(n:Nat)(i:Int):Nat:=if 0 <= i then min i.toNat n else(i+n).toNat
noncomputable def cut{α:Type}(xs:List α)(lo hi:Option Int):List α:=
 let a:=match lo with | some i=>eX xs.length i | Option.none=>0
 let b:=match hi with | some i=>eX xs.length i | Option.none=>xs.length
 (xs.take b).drop a
noncomputable def put(k:Ky)(v:V):List (Ky×V)->List (Ky×V)
 |[]=>[(k,v)]
 |(k',v')::r=>if k'=k then(k',v)::r else(k',v')::put k v r
noncomputable def fL(k:Ky):List (Ky×V)->List (Ky×V)
 |[]=>[]
 |(k',v')::r=>if k'=k then r else(k',v')::fL k r
noncomputable def aN(k:Ky)(kvs:List (Ky×V)):Bool:=kvs.all λp=>p.1.sort == k.sort
noncomputable def aL7(i:Nat):List (Nat×V)->Option V
 |[]=>Option.none
 |(j,v)::r=>if j=i then some v else aL7 i r
noncomputable def e9(i:Nat)(v:V):List (Nat×V)->List (Nat×V)
 |[]=>[(i,v)]
 |(j,v')::r=>if j=i then(j,v)::r else(j,v')::e9 i v r
inductive Bi where
 |len | abs | int | str | list | tuple | dict | sorted | max2 | min2 | max1 | lenset
inductive Sm where
 |append | pop | clear | get | join | split | count | index
inductive Ty where
 |int | bool | str | list | tuple | dict | cls (c:Nat)
 deriving DecidableEq
inductive IK where
 |expr | range | enum
inductive CT where
 |one (i:Nat) | many (is:List Nat)
set_option genCtorIdx false in
inductive Lt where
 |none | bool (b:Bool) | int (i:Int) | str (s:Str)
noncomputable def Lt.val:Lt->V
 |.none=>.none
 |.bool b=>.bool b
 |.int i=>.int i
 |.str s=>.str s
set_option genCtorIdx false in
mutual
inductive CE where
 |cnst (v:Lt)
 |var (i:Nat)
 |glob (i:Nat)
 |fnv (k:Nat)
 |bin (op:Operator) (a b:CE)
 |neg (a:CE)
 |not (a:CE)
 |boolop (isAnd:Bool) (as:List CE)
 |cmp (a:CE) (ops:List CmpOp) (bs:List CE)
 |ite (c:CB) (a b:CE)
 |tup (as:List CE)
 |list (as:List CE)
 |dict (ks:List Str) (vs:List CE)
 |idx (a i:CE)
 |slice (a lo hi st:CE)
 |attr (a:CE) (n:Nat)
 |call (k:Nat) (as:List CE)
 |callv (f:CE) (as:List CE)
 |new (c:Nat) (as:List CE)
 |meth (o:CE) (n:Nat) (as:List CE)
 |smeth (o:CE) (n:Sm) (as:List CE)
 |bi (b:Bi) (as:List CE)
 |listrange (as:List CE)
 |isi (a:CE) (t:Ty)
 |comp (elt:CE) (t:CT) (nl:Nat) (k:IK) (src:List CE) (ifs:List CB)
inductive CB where
 |not (b:CB)
 |all (isAnd:Bool) (bs:List CB)
 |val (e:CE)
end
set_option genCtorIdx false in
inductive CTgt where
 |one (t:CT) | attr (o:CE) (n:Nat) | idx (o i:CE) | idx2 (o i o' i':CE)
set_option genCtorIdx false in
inductive CS where
 |asg (t:CTgt) (e:CE)
 |exp (e:CE)
 |ite (c:CB) (a b:List CS)
 |for_ (k:IK) (t:CT) (src:List CE) (body:List CS)
 |wh (c:CB) (body:List CS)
 |ret (e:CE)
 |rse (c:Nat) (msg:Str)
 |try_ (body:List CS) (c:Nat) (nm:Option Nat) (h:CE)
 |cont
 |pass
structure FnD where
 name:Str
 np:Nat
 names:List Str
 body:List CS
structure ClsD where
 name:Str
 init:Option Nat
 meths:List (Nat×Nat)
 exc:Bool
 supers:List Nat
structure Sig where
 fns:List FnD
 cls:List ClsD
 attrs:List Str
 globs:List (Str×Lt)
noncomputable abbrev Lo:=List (Option V)
noncomputable def lid:Nat:=4194304
noncomputable def eY(v:V):Mn Bool:=λm=>match v with
 |.none=>.ok false m
 |.bool b=>.ok b m
 |.int i=>.ok (i != 0) m
 |.str s=>if s.length <= lid then .ok (s.length != 0) m else .bad
 |.tup xs=>if xs.length <= lid then .ok (!xs.isEmpty) m else .bad
 |.ref n=>match m[n]? with
  |some (.list xs)=>.ok (!xs.isEmpty) m
  |_=>.bad
 |_=>.bad
noncomputable def alloc(o:MObj):Mn V:=λm=>.ok (.ref m.length) (m++[o])
noncomputable def cA8(op:Operator)(a b:V):Mn V:=λm=>match op,a,b with
 |.Add,.int i,.int j=>.ok (.int (i+j)) m
 |.Sub,.int i,.int j=>.ok (.int (i - j)) m
 |.Mult,.int i,.int j=>if i.natAbs < 1073741824 \/ j.natAbs < 1073741824 then .ok (.int (i * j)) m else .bad
 |.FloorDiv,.int i,.int j=>if 0 < j /\ j.natAbs < 1073741824 then .ok (.int (i / j)) m else .bad
 |.Mod,.int i,.int j=>if 0 < j then .ok (.int (i % j)) m else .bad
 |.Add,.str x,.str y=>if x.length+y.length <= lid then .ok (.str (x++y)) m else .bad
 |.Add,.ref p,.ref q=>match m[p]?,m[q]? with
  |some (.list x),some (.list y)=>if x.length+y.length <= lid then alloc (.list (x++y)) m else .bad
  |_,_=>.bad
 |_,_,_=>.bad
noncomputable def inV(x c:V):Mn Bool:=λm=>match c with
 |.tup ys=>match d7 (rd cT m) ys,rd cT m x with
  |some ds,some d=>.ok (ds.any λe=>PyData.eqv e d) m
  |_,_=>.bad
 |.str y=>match x with
  |.str s=>match s.cps.toList with
   |[c]=>.ok (decide (c∈y.cps.toList)) m
   |_=>.bad
  |_=>.bad
 |.ref n=>match m[n]? with
  |some (.list ys)=>match d7 (rd cT m) ys,rd cT m x with
   |some ds,some d=>.ok (ds.any λe=>PyData.eqv e d) m
   |_,_=>.bad
  |some (.dict kvs _)=>match dP x with
   |some k=>if aN k kvs then .ok (look k kvs).isSome m else .bad
   |Option.none=>.bad
  |_=>.bad
 |_=>.bad
noncomputable def isV(x c:V):Mn Bool:=λm=>match c with
 |.none=>.ok (match x with | .none=>true | _=>false) m
 |.bool b=>.ok (match x with | .bool d=>d == b | _=>false) m
 |_=>.bad
noncomputable def aF0(op:CmpOp)(a b:V):Mn Bool:=match op with
 |.Eq=>eqV a b
 |.NotEq=>bnd (eqV a b) λc=>ret (!c)
 |.In=>inV a b
 |.NotIn=>bnd (inV a b) λc=>ret (!c)
 |.Is=>isV a b
 |.IsNot=>bnd (isV a b) λc=>ret (!c)
 |.Lt=>match a,b with | .int i,.int j=>ret (decide (i < j)) | _,_=>bad
 |.LtE=>match a,b with | .int i,.int j=>ret (decide (i <= j)) | _,_=>bad
 |.Gt=>match a,b with | .int i,.int j=>ret (decide (i > j)) | _,_=>bad
 |.GtE=>match a,b with | .int i,.int j=>ret (decide (i >= j)) | _,_=>bad
noncomputable def aO6(a i:V):Mn V:=λm=>match a with
 |.tup xs=>match i with
  |.int k=>if k.natAbs < 2 ^ 60 then ofO (at_ xs k) m else .bad
  |_=>.bad
 |.str s=>match i with
  |.int k=>if k.natAbs < 2 ^ 60 then ofO ((at_ s.cps.toList k).map λc=>.str ⟨#[c]⟩) m else .bad
  |_=>.bad
 |.ref n=>match m[n]? with
  |some (.list xs)=>match i with
   |.int k=>if k.natAbs < 2 ^ 60 then ofO (at_ xs k) m else .bad
   |_=>.bad
  |some (.dict kvs _)=>match dP i with
   |some k=>if aN k kvs then ofO (look k kvs) m else .bad
   |Option.none=>.bad
  |_=>.bad
 |.scr ns=>match i with
  |.int k=>if 0 <= k then ofO ((ns[k.toNat]?).map .int) m else .bad
  |_=>.bad
 |_=>.bad
noncomputable def aK8(v:V):Option (Option Int):=match v with
 |.none=>some Option.none
 |.int i=>if i.natAbs < 2 ^ 60 then some (some i)else Option.none
 |_=>Option.none
noncomputable def dH{α:Type}(xs:List α)(lo hi st:V):Option (List α):=
 match st with
 |.none=>match aK8 lo,aK8 hi with
  |some a,some b=>some (cut xs a b)
  |_,_=>Option.none
 |_=>Option.none
noncomputable def fW(a lo hi st:V):Mn V:=λm=>match a with
 |.str s=>match st with
  |.none=>if s.length <= lid then ofO ((dH s.cps.toList lo hi .none).map λl=>.str ⟨l.toArray⟩) m else .bad
  |_=>.bad
 |.ref n=>match m[n]? with
  |some (.list xs)=>match st with
   |.none=>match dH xs lo hi .none with
    |some l=>alloc (.list l) m
    |Option.none=>.bad
   |_=>.bad
  |_=>.bad
 |.scr ns=>match st with
  |.none=>match dH (ns.map V.int) lo hi .none with
   |some l=>alloc (.list l) m
   |Option.none=>.bad
  |_=>.bad
 |_=>.bad
noncomputable def aD2(a:V)(n:Nat):Mn V:=λm=>match a with
 |.ref p=>match m[p]? with
  |some (.inst _ fs)=>ofO (aL7 n fs) m
  |_=>.bad
 |_=>.bad
noncomputable def aA0:List (Ky×V)->Option (List Int)
 |[]=>some []
 |(.int i,_)::r=>(aA0 r).map (i::·)
 |_::_=>Option.none
noncomputable def insI(i:Int):List Int->List Int
 |[]=>[i]
 |j::r=>if i <= j then i::j::r else j::insI i r
noncomputable def sortI:List Int->List Int
 |[]=>[]
 |i::r=>insI i (sortI r)
noncomputable def cW0(v:V):Option (Int×V):=match v with
 |.tup ys=>match ys with
  |a::r=>match a with
   |.int i=>match r with
    |b::r'=>match r' with
     |[]=>some (i,b)
     |_::_=>Option.none
    |[]=>Option.none
   |_=>Option.none
  |[]=>Option.none
 |_=>Option.none
noncomputable def aO0(xs:List V):Option (List (Int×V)):=d7 cW0 xs
noncomputable def aI8(lo hi:Int):List V:=(List.range (hi - lo).toNat).map λ(k:Nat)=>V.int (lo+k)
noncomputable def eE:List V->Option (List V)
 |[.int n]=>if n.natAbs < 2 ^ 30 then some (aI8 0 n)else Option.none
 |_=>Option.none
noncomputable def cY6(i:Int):Str:=Str.ofString (toString i)
noncomputable def bR8(c:Nat):List Nat->List (List Nat)
 |[]=>[[]]
 |x::l=>if x=c then[]::bR8 c l else match bR8 c l with
  |[]=>[[x]]
  |p::ps=>(x::p)::ps
noncomputable def biV(b:Bi)(as:List V):Mn V:=λm=>match b,as with
 |.len,[.str s]=>if s.length <= lid then .ok (.int s.length) m else .bad
 |.len,[.tup xs]=>if xs.length <= lid then .ok (.int xs.length) m else .bad
 |.len,[.scr ns]=>.ok (.int ns.length) m
 |.len,[.ref n]=>match m[n]? with
  |some (.list xs)=>.ok (.int xs.length) m
  |_=>.bad
 |.abs,[.int i]=>.ok (.int (if i < 0 then -i else i)) m
 |.int,[.bool c]=>.ok (.int (if c then 1 else 0)) m
 |.str,[.int i]=>if i.natAbs < 1000000 then .ok (.str (cY6 i)) m else .bad
 |.list,[.ref n]=>match m[n]? with
  |some (.list xs)=>alloc (.list xs) m
  |some (.dict kvs _)=>alloc (.list (kvs.map λp=>p.1.val)) m
  |_=>.bad
 |.tuple,[.ref n]=>match m[n]? with
  |some (.list xs)=>.ok (.tup xs) m
  |_=>.bad
 |.dict,[.ref n]=>match m[n]? with
  |some (.list xs)=>match aO0 xs with
   |some l=>if (l.map (·.1)).Nodup then alloc (.dict (l.map λx=>(.int x.1,x.2)) 0) m else .bad
   |Option.none=>.bad
  |_=>.bad
 |.sorted,[.ref n]=>match m[n]? with
  |some (.dict kvs _)=>match aA0 kvs with
   |some is=>if is.length < 64 \/ is.Pairwise (· < ·)then alloc (.list ((sortI is).map .int)) m else .bad
   |Option.none=>.bad
  |_=>.bad
 |.max2,[.int i,.int j]=>.ok (.int (if j > i then j else i)) m
 |.min2,[.int i,.int j]=>.ok (.int (if j < i then j else i)) m
 |_,_=>.bad
noncomputable def aB3(S:Sig)(a:V)(t:Ty):Mn Bool:=λm=>match t,a with
 |.cls c,.exc d=>match S.cls[d]? with
  |some x=>if x.exc then .ok (x.supers.contains c) m else .bad
  |Option.none=>.bad
 |.cls _,_=>.bad
 |.int,.int _=>.ok true m
 |.int,.bool _=>.ok true m
 |.bool,.bool _=>.ok true m
 |.str,.str _=>.ok true m
 |.tuple,.tup _=>.ok true m
 |t,.ref n=>match m[n]? with
  |some (.list _)=>.ok (t == .list) m
  |some (.dict _ _)=>.ok (t == .dict) m
  |_=>.bad
 |_,.fn _=>.bad
 |_,.exc _=>.bad
 |_,.scr _=>.bad
 |_,_=>.ok false m
noncomputable def eI:List V->Option (List Str)
 |[]=>some []
 |.str x::r=>(eI r).map (x::·)
 |_::_=>Option.none
noncomputable def bB7:List V->Option (List Bool)
 |[]=>some []
 |.bool x::r=>(bB7 r).map (x::·)
 |_::_=>Option.none
noncomputable def aM3(sep:Str):List Str->Str
 |[]=>Str.empty
 |x::r=>r.foldl (λacc p=>acc++sep++p) x
noncomputable def fV(sep:Str)(l:List Str):Nat:=l.foldl (λk x=>k+x.length+sep.length) 0
noncomputable def smK(o:V)(m:MH):Option Nat:=match o with
 |.ref p=>match m[p]? with
  |some (.list _)=>some 0
  |some (.dict _ _)=>some 1
  |_=>Option.none
 |.str _=>some 2
 |_=>Option.none
noncomputable def smH(k:Nat)(n:Sm):Bool:=match k,n with
 |0,.append=>true
 |0,.pop=>true
 |1,.pop=>true
 |2,.join=>true
 |0,.clear=>true
 |1,.clear=>true
 |_,_=>false
noncomputable def bK9(p:Nat)(xs:List V)(n:Sm)(as:List V):Mn V:=λm=>match n with
 |.append=>(match as with | [v]=>(if xs.length < lid then .ok .none (m.set p (.list (xs++[v])))else .bad) | _=>.bad)
 |.pop=>(match as with
  |[i]=>(match i with
   |.int k=>if 0 <= k then(match xs[k.toNat]? with
     |some v=>if k.natAbs < 2 ^ 60 then .ok v (m.set p (.list (xs.eraseIdx k.toNat)))else .bad
     |Option.none=>.bad)
    else .bad
   |_=>.bad)
  |_=>.bad)
 |.clear=>(match as with | []=>.ok .none (m.set p (.list [])) | _=>.bad)
 |.count=>(match as with
  |[i]=>(match i with
   |.bool b=>(match bB7 xs with | some bs=>.ok (.int (bs.count b)) m | Option.none=>.bad)
   |_=>.bad)
  |_=>.bad)
 |.index=>(match as with
  |[i]=>(match i with
   |.bool b=>(match bB7 xs with | some bs=>if bs.contains b then .ok (.int (bs.idxOf b)) m else .bad | Option.none=>.bad)
   |_=>.bad)
  |_=>.bad)
 |_=>.bad
noncomputable def aK7(p:Nat)(kvs:List (Ky×V))(e:Nat)(n:Sm)(as:List V):Mn V:=λm=>match n with
 |.get=>(match as with
  |[k,d]=>(match k with
   |.int i=>if aN (.int i) kvs then .ok ((look (.int i) kvs).getD d) m else .bad
   |_=>.bad)
  |_=>.bad)
 |.pop=>(match as with
  |[k]=>(match k with
   |.int i=>if aN (.int i) kvs then(match look (.int i) kvs with
     |some v=>.ok v (m.set p (.dict (fL (.int i) kvs) (e+1)))
     |Option.none=>.bad)
    else .bad
   |_=>.bad)
  |_=>.bad)
 |.clear=>(match as with | []=>(if aF8 kvs then .ok .none (m.set p (.dict [] (e+1)))else .bad) | _=>.bad)
 |_=>.bad
noncomputable def strM(s:Str)(n:Sm)(as:List V):Mn V:=λm=>match n with
 |.join=>(match as with
  |[v]=>(match v with
   |.ref p=>(match m[p]? with
    |some (.list xs)=>(match eI xs with
     |some l=>if fV s l <= lid then .ok (.str (aM3 s l)) m else .bad
     |Option.none=>.bad)
    |_=>.bad)
   |_=>.bad)
  |_=>.bad)
 |.split=>(match as with
  |[v]=>(match v with
   |.str sep=>(match sep.cps.toList with
    |[c]=>if s.length <= 4000 then alloc (.list ((bR8 c s.cps.toList).map λl=>.str ⟨l.toArray⟩)) m else .bad
    |_=>.bad)
   |_=>.bad)
  |_=>.bad)
 |_=>.bad
noncomputable def cU(k:Nat)(o:V)(n:Sm)(as:List V):Mn V:=λm=>match k with
 |0=>(match o with
  |.ref p=>(match m[p]? with | some (.list xs)=>bK9 p xs n as m | _=>.bad)
  |_=>.bad)
 |1=>(match o with
  |.ref p=>(match m[p]? with | some (.dict kvs e)=>aK7 p kvs e n as m | _=>.bad)
  |_=>.bad)
 |2=>(match o with
  |.str s=>strM s n as m
  |_=>.bad)
 |_=>.bad
mutual
noncomputable def V.same:V->V->Bool
 |.none,y=>match y with | .none=>true | _=>false
 |.bool a,y=>match y with | .bool b=>a == b | _=>false
 |.int a,y=>match y with | .int b=>a == b | _=>false
 |.str a,y=>match y with | .str b=>a == b | _=>false
 |.tup xs,y=>match y with | .tup ys=>V.sames xs ys | _=>false
 |.ref a,y=>match y with | .ref b=>a == b | _=>false
 |.fn a,y=>match y with | .fn b=>a == b | _=>false
 |.exc a,y=>match y with | .exc b=>a == b | _=>false
 |.scr a,y=>match y with | .scr b=>a == b | _=>false
noncomputable def V.sames:List V->List V->Bool
 |[],ys=>ys.isEmpty
 |x::xs,ys=>match ys with
  |[]=>false
  |y::ys=>V.same x y&&V.sames xs ys
end
mutual
theorem bS9:∀v:V,V.same v v=true
 |.none=>rfl
 |.bool b=>beq_self_eq_true b
 |.int i=>beq_self_eq_true i
 |.str s=>beq_self_eq_true s
 |.tup xs=>fQ xs
 |.ref n=>beq_self_eq_true n
 |.fn n=>beq_self_eq_true n
 |.exc n=>beq_self_eq_true n
 |.scr n=>beq_self_eq_true n
theorem fQ:∀xs:List V,V.sames xs xs=true
 |[]=>rfl
 |x::xs=>by show(V.same x x&&V.sames xs xs)=true;rw[bS9 x,fQ xs];rfl
end
set_option genCtorIdx false in
inductive Gd where
 |none | list (n:Nat) (xs:List V) | dict (n:Nat) (e:Nat)
noncomputable def Gd.stays(g:Gd)(m:MH):Bool:=match g with
 |.none=>true
 |.list n xs=>match m[n]? with
  |some (.list ys)=>V.sames xs ys
  |_=>false
 |.dict n e=>match m[n]? with
  |some (.dict _ e')=>e == e'
  |_=>false
noncomputable def eW(v:V):Mn (List V×Gd):=λm=>match v with
 |.str s=>.ok (s.cps.toList.map λc=>.str ⟨#[c]⟩,.none) m
 |.ref n=>match m[n]? with
  |some (.list xs)=>.ok (xs,.list n xs) m
  |some (.dict kvs e)=>.ok (kvs.map λp=>p.1.val,.dict n e) m
  |_=>.bad
 |_=>.bad
noncomputable def dL2:Nat->List V->List V
 |_,[]=>[]
 |k,x::xs=>.tup [.int k,x]::dL2 (k+1) xs
noncomputable def enumV(v:V):Mn (List V×Gd):=λm=>match v with
 |.ref n=>match m[n]? with
  |some (.list xs)=>.ok (dL2 0 xs,.list n xs) m
  |_=>.bad
 |_=>.bad
noncomputable def aD4(k:IK)(vs:List V):Mn (List V×Gd):=match k,vs with
 |.expr,[v]=>eW v
 |.range,vs=>match eE vs with
  |some l=>ret (l,.none)
  |Option.none=>bad
 |.enum,[v]=>enumV v
 |_,_=>bad
noncomputable def b8:List Nat->List V->Lo->Option Lo
 |[],[],r=>some r
 |i::is,v::vs,r=>b8 is vs (r.set i (some v))
 |_,_,_=>Option.none
noncomputable def aI4(t:CT)(v:V)(r:Lo):Mn Lo:=λm=>match t with
 |.one i=>.ok (r.set i (some v)) m
 |.many is=>match v with
  |.tup vs=>ofO (b8 is vs r) m
  |_=>.bad
noncomputable def dX(o:V)(n:Nat)(v:V):Mn Unit:=λm=>match o with
 |.ref p=>match m[p]? with
  |some (.inst c fs)=>.ok () (m.set p (.inst c (e9 n v fs)))
  |_=>.bad
 |_=>.bad
noncomputable def cE(o i v:V):Mn Unit:=λm=>match o with
 |.ref p=>match m[p]? with
  |some (.dict kvs e)=>match dP i with
   |some k=>if aN k kvs&&kvs.length < lid then .ok () (m.set p (.dict (put k v kvs) (e+1)))else .bad
   |Option.none=>.bad
  |some (.list xs)=>match i with
   |.int k=>if 0 <= k /\ k < xs.length then .ok () (m.set p (.list (xs.set k.toNat v)))else if k < 0 /\ 0 <= k+xs.length then .ok () (m.set p (.list (xs.set (k+xs.length).toNat v)))else .bad
   |_=>.bad
  |_=>.bad
 |_=>.bad
inductive Fl where
 |next | cont | ret (v:V)
noncomputable def aO8(g:Gd)(step:V->Lo->Mn (Fl×Lo)):List V->Lo->Mn (Fl×Lo)
 |[],r=>λm=>if g.stays m then .ok (.next,r) m else .bad
 |v::vs,r=>λm=>if g.stays m then(step v r m).bind (λp=>match p.1 with
   |.ret x=>ret (.ret x,p.2)
   |_=>aO8 g step vs p.2)else .bad
noncomputable def eQ(o:Option V)(r:List V):List V:=match o with
 |some x=>x::r
 |Option.none=>r
noncomputable def bK(g:Gd)(step:V->Mn (Option V)):List V->Mn (List V)
 |[]=>λm=>if g.stays m then .ok [] m else .bad
 |v::vs=>λm=>if g.stays m then(step v m).nox.bind (λo=>bnd (bK g step vs) λr=>ret (eQ o r))else .bad
noncomputable def aH5(c:Lo->Mn Bool)(body:Lo->Mn (Fl×Lo)):Nat->Lo->Mn (Fl×Lo)
 |0,_=>bad
 |n+1,r=>bnd (λm=>(c r m).nox) λb=>if b then bnd (λm=>(body r m).nox) λp=>match p.1 with
   |.ret x=>ret (.ret x,p.2)
   |_=>aH5 c body n p.2
  else ret (.next,r)
noncomputable def cZ3:Nat:=1000000
noncomputable abbrev Fns:=Nat->List V->Mn V
noncomputable def dM2(F:Fns)(N:Nat)(as:Mn (List V))(x:V):Mn V:=match x with
 |.fn k=>if k < N then bnd as λvs=>F k vs else bad
 |_=>bad
noncomputable def dI3(v u:V):Mn V:=match u with
 |.none=>ret v
 |_=>bad
noncomputable def cW9(S:Sig)(F:Fns)(c:Nat)(vs:List V):Mn V:=match S.cls[c]? with
 |some d=>if d.exc then bad else match d.init with
  |some k=>bnd (alloc (.inst c [])) λx=>bnd (F k (x::vs)) (dI3 x)
  |Option.none=>bad
 |Option.none=>bad
noncomputable def fT(S:Sig)(n:Nat)(x:V):Mn Nat:=λm=>match x with
 |.ref p=>match m[p]? with
  |some (.inst c fs)=>match S.cls[c]? with
   |some d=>match aL7 n fs with
    |Option.none=>ofO (d.meths.lookup n) m
    |some y_=>.bad
   |Option.none=>.bad
  |_=>.bad
 |_=>.bad
mutual
noncomputable def ev(S:Sig)(F:Fns):CE->Lo->Mn V
 |.cnst v,_=>ret v.val
 |.var i,r=>match r[i]? with
  |some (some v)=>ret v
  |_=>bad
 |.glob i,_=>match S.globs[i]? with
  |some p=>ret p.2.val
  |Option.none=>bad
 |.fnv k,_=>ret (.fn k)
 |.bin op a b,r=>bnd (ev S F a r) λx=>bnd (ev S F b r) λy=>cA8 op x y
 |.neg a,r=>bnd (ev S F a r) λx=>match x with
  |.int i=>ret (.int (-i))
  |_=>bad
 |.not a,r=>bnd (ev S F a r) λx=>bnd (eY x) λb=>ret (.bool (!b))
 |.boolop c as,r=>evB S F c as r
 |.cmp a ops bs,r=>bnd (ev S F a r) λx=>evC S F x ops bs r
 |.ite c a b,r=>bnd (evT S F c r) λt=>if t then ev S F a r else ev S F b r
 |.tup as,r=>bnd (evs S F as r) λvs=>ret (.tup vs)
 |.list as,r=>bnd (evs S F as r) λvs=>alloc (.list vs)
 |.dict ks vs,r=>bnd (evs S F vs r) λus=>alloc (.dict ((ks.map Ky.str).zip us) 0)
 |.idx a i,r=>bnd (ev S F a r) λx=>bnd (ev S F i r) λy=>aO6 x y
 |.slice a lo hi st,r=>bnd (ev S F a r) λx=>bnd (ev S F lo r) λl=>bnd (ev S F hi r) λh=>bnd (ev S F st r) λt=>fW x l h t
 |.attr a n,r=>bnd (ev S F a r) λx=>aD2 x n
 |.call k as,r=>bnd (evs S F as r) λvs=>F k vs
 |.callv f as,r=>bnd (ev S F f r) λx=>dM2 F S.fns.length (evs S F as r) x
 |.new c as,r=>bnd (evs S F as r) λvs=>cW9 S F c vs
 |.meth o n as,r=>bnd (ev S F o r) λx=>bnd (fT S n x) λk=>bnd (evs S F as r) λvs=>F k (x::vs)
 |.smeth o n as,r=>bnd (ev S F o r) λx=>λm=>match smK x m with
  |some k=>if smH k n then bnd (evs S F as r) (λvs=>cU k x n vs) m else .bad
  |Option.none=>.bad
 |.bi b as,r=>bnd (evs S F as r) λvs=>biV b vs
 |.listrange as,r=>bnd (evs S F as r) λvs=>match eE vs with
  |some l=>if l.length <= lid then alloc (.list l)else bad
  |Option.none=>bad
 |.isi a t,r=>bnd (ev S F a r) λx=>bnd (aB3 S x t) λb=>ret (.bool b)
 |.comp elt t nl k src ifs,r=>bnd (evs S F src r) λvs=>bnd (aD4 k vs) λp=>
   bnd (bK p.2 (λv=>bnd (aI4 t v (r++List.replicate nl Option.none)) λr'=>bnd (bN4 S F ifs r') λb=>
    if b then bnd (ev S F elt r') λx=>ret (some x)else ret Option.none) p.1) λl=>if l.length <= lid then alloc (.list l)else bad
noncomputable def evT(S:Sig)(F:Fns):CB->Lo->Mn Bool
 |.not a,r=>bnd (evT S F a r) λb=>ret (!b)
 |.all c as,r=>bH6 S F c as r
 |.val e,r=>bnd (ev S F e r) eY
noncomputable def bH6(S:Sig)(F:Fns)(c:Bool):List CB->Lo->Mn Bool
 |[],_=>ret c
 |a::as,r=>bnd (evT S F a r) λb=>if b == c then bH6 S F c as r else ret b
noncomputable def bN4(S:Sig)(F:Fns):List CB->Lo->Mn Bool
 |[],_=>ret true
 |a::as,r=>bnd (evT S F a r) λb=>if b then bN4 S F as r else ret false
noncomputable def evs(S:Sig)(F:Fns):List CE->Lo->Mn (List V)
 |[],_=>ret []
 |a::as,r=>bnd (ev S F a r) λx=>bnd (evs S F as r) λxs=>ret (x::xs)
noncomputable def evB(S:Sig)(F:Fns)(c:Bool):List CE->Lo->Mn V
 |[],_=>bad
 |a::as,r=>match as with
  |[]=>ev S F a r
  |_::_=>bnd (ev S F a r) λx=>bnd (eY x) λb=>if b == c then evB S F c as r else ret x
noncomputable def evC(S:Sig)(F:Fns)(x:V)(ops:List CmpOp):List CE->Lo->Mn V
 |[],_=>bad
 |a::as,r=>match ops with
  |[]=>bad
  |op::ops'=>bnd (ev S F a r) λy=>bnd (aF0 op x y) λb=>match as with
   |[]=>(match ops' with | []=>ret (.bool b) | _=>bad)
   |_::_=>if b then evC S F y ops' as r else ret (.bool false)
end
noncomputable def asgT(S:Sig)(F:Fns)(t:CTgt)(v:V)(r:Lo):Mn Lo:=match t with
 |.one t=>aI4 t v r
 |.attr o n=>bnd (ev S F o r) λx=>bnd (dX x n v) λy_=>ret r
 |.idx o i=>bnd (ev S F o r) λx=>bnd (ev S F i r) λy=>bnd (cE x y v) λy_=>ret r
 |.idx2 o i o' i'=>match v with
  |.tup [a,b]=>bnd (ev S F o r) λx=>bnd (ev S F i r) λy=>bnd (cE x y a) λy_=>
    bnd (ev S F o' r) λx'=>bnd (ev S F i' r) λy'=>bnd (cE x' y' b) λy_=>ret r
  |_=>bad
noncomputable def exR(nm:Option Nat)(d:Nat)(r:Lo):Lo:=match nm with
 |some i=>r.set i (some (.exc d))
 |Option.none=>r
noncomputable def exN(nm:Option Nat)(r:Lo):Lo:=match nm with
 |some i=>r.set i Option.none
 |Option.none=>r
noncomputable def dF4(S:Sig)(c:Nat)(nm:Option Nat)(h:Lo->Mn V)(r:Lo)(d:Nat):Mn (Fl×Lo):=λm=>
 if ((S.cls[d]?).any λk=>k.supers.contains c)=true then((h (exR nm d r) m).nox).bind λv=>ret (.ret v,exN nm r)else .bad
noncomputable def bQ7(S:Sig)(x:Mn (Fl×Lo))(c:Nat)(nm:Option Nat)(h:Lo->Mn V)(r:Lo):Mn (Fl×Lo):=λm=>match x m with
 |.ok a m'=>.ok a m'
 |.exc d m'=>dF4 S c nm h r d m'
 |.bad=>.bad
mutual
noncomputable def ex(S:Sig)(F:Fns):CS->Lo->Mn (Fl×Lo)
 |.asg t e,r=>bnd (ev S F e r) λv=>bnd (asgT S F t v r) λr'=>ret (.next,r')
 |.exp e,r=>bnd (ev S F e r) λy_=>ret (.next,r)
 |.ite c a b,r=>bnd (evT S F c r) λt=>if t then exs S F a r else exs S F b r
 |.for_ k t src body,r=>bnd (evs S F src r) λvs=>bnd (aD4 k vs) λp=>aO8 p.2 (λv r'=>bnd (aI4 t v r') λr''=>exs S F body r'') p.1 r
 |.wh c body,r=>aH5 (λr'=>evT S F c r') (λr'=>exs S F body r') cZ3 r
 |.ret e,r=>bnd (ev S F e r) λv=>ret (.ret v,r)
 |.rse c _,_=>λm=>.exc c m
 |.try_ body c nm h,r=>bQ7 S (exs S F body r) c nm (λr'=>ev S F h r') r
 |.cont,r=>ret (.cont,r)
 |.pass,r=>ret (.next,r)
noncomputable def exs(S:Sig)(F:Fns):List CS->Lo->Mn (Fl×Lo)
 |[],r=>ret (.next,r)
 |s::ss,r=>bnd (ex S F s r) λp=>match p.1 with
  |.next=>exs S F ss p.2
  |f=>ret (f,p.2)
end
noncomputable def dK8(p:Fl×Lo):Mn V:=match p.1 with
 |.ret v=>ret v
 |.next=>ret .none
 |.cont=>bad
noncomputable def bD5(S:Sig)(F:Fns)(k:Nat)(vs:List V):Mn V:=match S.fns[k]? with
 |some d=>if vs.length=d.np then bnd (exs S F d.body (vs.map some++List.replicate (d.names.length - d.np) Option.none)) dK8 else bad
 |Option.none=>bad
noncomputable def run(S:Sig):Nat->Fns
 |0=>λy_ y_=>bad
 |n+1=>bD5 S (run S n)
theorem dD2{a b:Int}(h:Ky.int a=Ky.int b):a=b:=by injection h
theorem ky_s{a b:Str}(h:Ky.str a=Ky.str b):a=b:=by injection h
theorem ky_t{a b:List (Sum Int Str)}(h:Ky.tup a=Ky.tup b):a=b:=by injection h
theorem aF{a b:α}(h:some a=some b)(k:a=b->C):C:=k (Option.some.inj h)
theorem aL5{a b:α}{m m':MH}(h:Res.ok a m=Res.ok b m')(k:a=b->m=m'->C):C:=by injection h with e1 e2;exact k e1 e2
end Mini.Internal
variable{m m' m₀:MH}{xs ys hl:List V}{x:V}{k:Ky}{kvs ls:List (Ky×V)}{r r':Lo}{g:V->V->Option Bool}{ca cb celt co:Lo->Mn V}{ct cif:Lo->Mn Bool}{cl:Lo->Mn (List V)}{S:Sig}{csrc:Lo->Mn (List V×Gd)}{F:Nat->List V->Mn V}{src:List CE}{ss:List CS}{B B':List (Nat×MObj)}
namespace Mini.Internal
open PySem
theorem hide(h:∀G:Prop,(C->G)->G):C:=h C id
end Mini.Internal
set_option hygiene false in
local macro_rules
 | `(tactic| obtain $p:rcasesPatMed:=$e:term)=>`(tactic| (refine Mini.Internal.hide fun G_ g_=>?_;rcases $e:term with $p:rcasesPatMed;refine g_ ?_;clear g_ G_))
namespace Mini.Internal
open PySem
structure Wd where
 prog:Program
 w:World
 S:Sig
 fa:Nat->Addr
 ca:Nat->Addr
 base:Heap
noncomputable abbrev Io:=List (Addr×Addr)
noncomputable def dA(io:Io)(b:Addr):Prop:=∃p∈io,b=p.1 \/ b=p.2
theorem fY{io new:Io}(x:dA (io++new) b):dA io b \/ dA new b:=by
 refine e1a2 x λp hp e=>?_;rcases List.mem_append.mp hp with h | h
 ·exact .inl ⟨p,h,e⟩
 ·exact .inr ⟨p,h,e⟩
noncomputable def IntsR:List Int->List Value->Prop
 |[],us=>us=[]
 |i::ns,us=>∃t vs,us=.int i t::vs /\ IntsR ns vs
theorem IntsR.nil:IntsR [] []:=rfl
theorem IntsR.cons(i:Int)(t:Tok){ns:List Int}{vs:List Value}(h:IntsR ns vs):IntsR (i::ns) (.int i t::vs):=⟨t,vs,rfl,h⟩
noncomputable abbrev dD0(vs:Array Value)(n:Nat):Obj:={ cls:=.type "tuple",data:=.seq vs n }
noncomputable abbrev eZ(vs:Array Value)(n:Nat):Obj:={ cls:=.type "list",data:=.seq vs n }
mutual
noncomputable def VR(W:Wd)(h:Heap)(io:Io):V->Value->Prop
 |.none,u=>u=.none
 |.bool b,u=>u=.bool b
 |.int i,u=>∃t,u=.int i t
 |.str s,u=>∃t,u=.str s t /\ PyData.strOk s=true
 |.tup xs,u=>∃a vs n,u=.ref a /\ h.get? a=some (dD0 vs n) /\ VRs W h io xs vs.toList
 |.ref n,u=>∃a d,u=.ref a /\ io[n]?=some (a,d)
 |.fn k,u=>u=.ref (W.fa k)
 |.exc c,u=>∃a o vs,u=.ref a /\ h.get? a=some o /\ o.cls=.ref (W.ca c) /\ o.data=.fields vs
 |.scr ns,u=>∃l o vs n,u=.ref l /\ W.base.get? l=some o /\ o.cls=.type "list" /\ o.data=.seq vs n /\ IntsR ns vs.toList /\ ns.length <= lid
noncomputable def VRs(W:Wd)(h:Heap)(io:Io):List V->List Value->Prop
 |[],us=>us=[]
 |x::xs,us=>∃v vs,us=v::vs /\ VR W h io x v /\ VRs W h io xs vs
end
section
variable{W:Wd}{io:Io}
theorem VR.none:VR W h io .none .none:=rfl
theorem VR.bool(b:Bool):VR W h io (.bool b) (.bool b):=rfl
theorem VR.int(i:Int)(t:Tok):VR W h io (.int i) (.int i t):=⟨t,rfl⟩
theorem VR.str(s:Str)(t:Tok)(k:PyData.strOk s=true):VR W h io (.str s) (.str s t):=⟨t,rfl,k⟩
theorem VR.tup{vs:Array Value}(h1:h.get? a=some (dD0 vs n))(h2:VRs W h io xs vs.toList):VR W h io (.tup xs) (.ref a):=⟨a,vs,n,rfl,h1,h2⟩
theorem VR.ref{d:Addr}(h1:io[n]?=some (a,d)):VR W h io (.ref n) (.ref a):=⟨a,d,rfl,h1⟩
theorem VR.fn(k:Nat):VR W h io (.fn k) (.ref (W.fa k)):=rfl
theorem VR.exc{vs:Array Value}(h1:h.get? a=some o)(h2:o.cls=.ref (W.ca c))(h3:o.data=.fields vs):VR W h io (.exc c) (.ref a):=⟨a,o,vs,rfl,h1,h2,h3⟩
theorem VR.scr{vs:Array Value}(h1:W.base.get? l=some o)(h2:o.cls=.type "list")(h3:o.data=.seq vs n)(h4:IntsR ns vs.toList)(h5:ns.length <= lid):VR W h io (.scr ns) (.ref l):=⟨l,o,vs,n,rfl,h1,h2,h3,h4,h5⟩
theorem VRs.nil:VRs W h io [] []:=rfl
theorem VRs.cons{v:Value}(h1:VR W h io x v)(h2:VRs W h io xs vs):VRs W h io (x::xs) (v::vs):=⟨v,vs,rfl,h1,h2⟩
end
section
variable{W:Wd}{io:Io}{C:Value->Prop}
@[elab_as_elim] theorem VR.dInt{i:Int}(k:VR W h io (.int i) u)(c:∀t,C (.int i t)):C u:=by refine e1a1 k λt zz1=>?_;subst zz1;exact c t
@[elab_as_elim] theorem VR.dStr{s:Str}(k:VR W h io (.str s) u)(c:∀t,PyData.strOk s=true->C (.str s t)):C u:=by refine e1a2 k λt zz1=>?_;subst zz1;intro k;exact c t k
@[elab_as_elim] theorem VR.dTup{xs:List V}(k:VR W h io (.tup xs) u)(c:∀a vs n,h.get? a=some (dD0 vs n)->VRs W h io xs vs.toList->C (.ref a)):C u:=by refine e3a3 k λa vs n zz1=>?_;subst zz1;intro h1 h2;exact c a vs n h1 h2
@[elab_as_elim] theorem VR.dRef{n:Nat}(k:VR W h io (.ref n) u)(c:∀a d,io[n]?=some (a,d)->C (.ref a)):C u:=by refine e2a2 k λa d zz1=>?_;subst zz1;intro h1;exact c a d h1
@[elab_as_elim] theorem VR.dScr{ns:List Int}(k:VR W h io (.scr ns) u)(c:∀l o vs n,W.base.get? l=some o->o.cls=.type "list"->o.data=.seq vs n->IntsR ns vs.toList->ns.length <= lid->C (.ref l)):C u:=by refine e4a6 k λl o vs n zz1=>?_;subst zz1;intro h1 h2 h3 h4 h5;exact c l o vs n h1 h2 h3 h4 h5
theorem VR.elim{C:(v:V)->(u:Value)->VR W h io v u->Prop}(none:C .none .none .none)(bool:∀b,C (.bool b) (.bool b) (.bool b))(int:∀i t,C (.int i) (.int i t) (.int i t))(str:∀s t k,C (.str s) (.str s t) (.str s t k))
  (tup:∀{a:Addr} {vs:Array Value} {n:Nat} {xs:List V} (h1:h.get? a=some (dD0 vs n)) (h2:VRs W h io xs vs.toList),C (.tup xs) (.ref a) (.tup h1 h2)) (ref:∀{n:Nat} {a d:Addr} (h1:io[n]?=some (a,d)),C (.ref n) (.ref a) (.ref h1)) (fn:∀k,C (.fn k) (.ref (W.fa k)) (.fn k))
  (exc:∀{c:Nat} {a:Addr} {o:Obj} {vs:Array Value} (h1:h.get? a=some o) (h2:o.cls=.ref (W.ca c)) (h3:o.data=.fields vs),C (.exc c) (.ref a) (.exc h1 h2 h3))
  (scr:∀{ns:List Int} {l:Addr} {o:Obj} {vs:Array Value} {n:Nat} (h1:W.base.get? l=some o) (h2:o.cls=.type "list") (h3:o.data=.seq vs n) (h4:IntsR ns vs.toList) (h5:ns.length <= lid),C (.scr ns) (.ref l) (.scr h1 h2 h3 h4 h5))
  {v:V} {u:Value} (k:VR W h io v u):C v u k:=by
 cases v with
 |none=>obtain rfl:u=.none:=k;exact none
 |bool b=>obtain rfl:u=.bool b:=k;exact bool b
 |int i=>refine e1a1 k λt zz1=>?_;subst zz1;exact int i t
 |str s=>refine e1a2 k λt zz1=>?_;subst zz1;intro k;exact str s t k
 |tup xs=>refine e3a3 k λa vs n zz1=>?_;subst zz1;intro h1 h2;exact tup h1 h2
 |ref n=>refine e2a2 k λa d zz1=>?_;subst zz1;intro h1;exact ref h1
 |fn n=>obtain rfl:u=.ref (W.fa n):=k;exact fn n
 |exc c=>refine e3a4 k λa o vs zz1=>?_;subst zz1;intro h1 h2 h3;exact exc h1 h2 h3
 |scr ns=>refine e4a6 k λl o vs n zz1=>?_;subst zz1;intro h1 h2 h3 h4 h5;exact scr h1 h2 h3 h4 h5
theorem VRs.cc{v:Value}(k:VRs W h io (x::xs) (v::vs)):VR W h io x v /\ VRs W h io xs vs:=by refine e2a3 k λy_ y_ e h1 h2=>?_;injection e with e1 e2;subst e1;subst e2;exact⟨h1,h2⟩
theorem VRs.elim{C:(xs:List V)->(us:List Value)->VRs W h io xs us->Prop}(nil:C [] [] .nil)(cons:∀{x:V} {v:Value} {xs:List V} {vs:List Value} (h1:VR W h io x v) (h2:VRs W h io xs vs),C (x::xs) (v::vs) (.cons h1 h2)){xs:List V}{us:List Value}(k:VRs W h io xs us):C xs us k:=by
 cases xs with
 |nil=>obtain rfl:us=[]:=k;exact nil
 |cons x xs=>refine e2a3 k λv vs zz1=>?_;subst zz1;intro h1 h2;exact cons h1 h2
variable{D:List Value->Prop}
@[elab_as_elim] theorem VRs.dNil(k:VRs W h io [] us)(c:D []):D us:=Eq.symm (show us=_ from k)▸c
@[elab_as_elim] theorem VRs.dCons{x:V}{xs:List V}(k:VRs W h io (x::xs) us)(c:∀v vs,VR W h io x v->VRs W h io xs vs->D (v::vs)):D us:=by refine e2a3 k λv vs zz1=>?_;subst zz1;intro h1 h2;exact c v vs h1 h2
@[elab_as_elim] theorem VRs.d1{x:V}(k:VRs W h io [x] us)(c:∀v,VR W h io x v->D [v]):D us:=VRs.dCons k λv y_ h1 h2=>VRs.dNil h2 (c v h1)
@[elab_as_elim] theorem VRs.d2{x y:V}(k:VRs W h io [x,y] us)(c:∀v w,VR W h io x v->VR W h io y w->D [v,w]):D us:=VRs.dCons k λv y_ h1 h2=>VRs.d1 h2 λw=>c v w h1
end
end Mini.Internal
variable{io io' io₁ io₀:Io}{W:Wd}
namespace Mini.Internal
open PySem
noncomputable def cB8(w:World):Sum Int Str->Int
 |.inl i=>hashInt i
 |.inr s=>hashStr w s
noncomputable def bG8(w:World):Ky->Int
 |.int i=>hashInt i
 |.str s=>hashStr w s
 |.tup ks=>reduceHash (Builtin.Tuple.tupleHashOf (ks.map (cB8 w)))
noncomputable def ERs(W:Wd)(h:Heap)(io:Io):List (Ky×V)->List DictEntry->Prop
 |[],es=>es=[]
 |p::kvs,es=>∃key u es',es=⟨bG8 W.w p.1,key,u⟩::es' /\ VR W h io p.1.val key /\ VR W h io p.2 u /\ ERs W h io kvs es'
theorem ERs.nil:ERs W h io [] []:=rfl
theorem ERs.cons{v:V}{key:Value}(h1:VR W h io k.val key)(h2:VR W h io v u)(h3:ERs W h io kvs es):ERs W h io ((k,v)::kvs) (⟨bG8 W.w k,key,u⟩::es):=⟨key,u,es,rfl,h1,h2,h3⟩
theorem ERs.ind{W:Wd}{h:Heap}{io:Io}{C:(kvs:List (Ky×V))->(es:List DictEntry)->ERs W h io kvs es->Prop}(nil:C [] [] .nil)
  (cons:∀{k:Ky} {v:V} {key u:Value} {kvs:List (Ky×V)} {es:List DictEntry} (h1:VR W h io k.val key) (h2:VR W h io v u) (h3:ERs W h io kvs es),C kvs es h3->C ((k,v)::kvs) (⟨bG8 W.w k,key,u⟩::es) (.cons h1 h2 h3)) {kvs:List (Ky×V)} {es:List DictEntry} (x:ERs W h io kvs es):C kvs es x:=by
 induction kvs generalizing es with
 |nil=>obtain rfl:es=[]:=x;exact nil
 |cons p kvs ih=>refine e3a4 x λkey u es' zz1=>?_;subst zz1;intro h1 h2 h3;exact cons h1 h2 h3 (ih h3)
noncomputable def FEs(W:Wd)(h:Heap)(io:Io)(fs:List (Nat×V))(mA:Str->Option Value):Prop:=
 (∀x u,mA x=some u->∃i v,W.S.attrs[i]?=some x /\ aL7 i fs=some v /\ VR W h io v u) /\ (∀i v,aL7 i fs=some v->∃x u,W.S.attrs[i]?=some x /\ mA x=some u /\ VR W h io v u)
structure ClsOk(W:Wd)(c:Nat)(D:ClsD)(N:Addr)(mN:Str->Option Value):Prop where
 dat:W.S.cls[c]?=some D
 exc:D.exc=false
 obj:∃nm q bs sn sub col dd k0 k1 k2 k3 k5,W.base.get? (W.ca c)=some (excClassObj nm q (W.ca c) N bs [.type "object"] true sn sub false col dd k0 k1 k2 k3 k5 "object.__new__")
 ns:W.base.Ns N mN
 ga:mN "__getattribute__"=none
 gh:mN "__getattr__"=none
 sa:mN "__setattr__"=none
 has:∀(i:Nat) (x:Str),W.S.attrs[i]?=some x->mN x=(D.meths.lookup i).map λk=>.ref (W.fa k)
 low:∀(i:Nat) (x:Str),W.S.attrs[i]?=some x->typeLookup (.type "object") x=pure none
 uniq:∀(i j:Nat) (x:Str),W.S.attrs[i]?=some x->W.S.attrs[j]?=some x->i=j
 few:W.S.attrs.length <= 1000
 mlt:∀(i k:Nat),D.meths.lookup i=some k->k < W.S.fns.length
noncomputable abbrev cY7(C dx:Addr):Obj:={ cls:=.ref C,dict:=some dx,data:=.plain }
noncomputable abbrev dL8(es:List DictEntry)(n:Nat):Obj:={ cls:=.type "dict",data:=.dict es.toArray n }
inductive ORl(W:Wd)(h:Heap)(io:Io)(a d:Addr)(xs:List V):Prop
 |mk (e:a=d) (vs:Array Value) (n:Nat) (h1:h.get? a=some (eZ vs n)) (h2:VRs W h io xs vs.toList) (h3:xs.length <= lid)
inductive ORd(W:Wd)(h:Heap)(io:Io)(a d:Addr)(kvs:List (Ky×V)):Prop
 |mk (e:a=d) (o:Obj) (es:Array DictEntry) (n:Nat) (h1:h.get? a=some o) (h2:o.ExactDict) (h3:o.data=.dict es n) (h4:ERs W h io kvs es.toList) (h5:(kvs.map (·.1)).Nodup /\ kvs.length <= lid)
inductive ORi(W:Wd)(h:Heap)(io:Io)(a d:Addr)(c:Nat)(fs:List (Nat×V)):Prop
 |mk (e:a≠d) (mA:Str->Option Value) (h1:h.get? a=some (cY7 (W.ca c) d)) (h2:h.Ns1 d mA) (h3:FEs W h io fs mA) (h4:∃D N mN,ClsOk W c D N mN)
noncomputable def OR(W:Wd)(h:Heap)(io:Io)(a d:Addr):MObj->Prop
 |.list xs=>ORl W h io a d xs
 |.dict kvs _=>ORd W h io a d kvs
 |.inst c fs=>ORi W h io a d c fs
structure HR(W:Wd)(h:Heap)(io:Io)(m:MH):Prop where
 keep:W.base.StaysIn h
 len:io.length=m.length
 obj:∀(n:Nat) (p:Addr×Addr) (o:MObj),io[n]?=some p->m[n]?=some o->OR W h io p.1 p.2 o
 fresh:∀b,dA io b->W.base.get? b=none
 apart:∀(i j:Nat) (p q:Addr×Addr),i≠j->io[i]?=some p->io[j]?=some q->p.1≠q.1 /\ p.1≠q.2 /\ p.2≠q.2
noncomputable def cQ(o:Obj):Prop:=(o.cls=.type "tuple" /\ ∃vs n,o.data=.seq vs n) \/ (∃C vs,o.cls=.ref C /\ o.data=.fields vs)
structure Step(own fr:List Addr)(h:Heap)(io:Io)(m:MH)(h':Heap)(io':Io)(m':MH):Prop where
 alive:∀b o,h.get? b=some o->∃o',h'.get? b=some o'
 solid:∀b o,h.get? b=some o->cQ o->h'.get? b=some o
 keep:∀b o,h.get? b=some o->¬dA io b->b∉own->b∉fr->h'.get? b=some o
 slots:∀b o,h.get? b=some o->¬dA io b->b∉own->∃sl,h'.get? b=some { o with slots:=sl }
 grow:∃new,io'=io++new /\ ∀p∈new,h.get? p.1=none /\ h.get? p.2=none
 dicts:∀(n:Nat) (p:Addr×Addr) (kvs:List (Ky×V)) (e:Nat),io[n]?=some p->m[n]?=some (.dict kvs e)->∃(kvs':List (Ky×V)) (e':Nat),m'[n]?=some (.dict kvs' e') /\ e <= e' /\ (e'=e->h'.get? p.1=h.get? p.1 /\ kvs'=kvs)
section
variable{h'':Heap}{io'':Io}{m'':MH}{own:List Addr}
theorem Step.refl:Step own fr h io m h io m where
 alive:=λy_ o e=>⟨o,e⟩
 solid:=λy_ y_ e y_=>e
 keep:=λy_ y_ e y_ y_ y_=>e
 slots:=λy_ o e y_ y_=>⟨o.slots,e⟩
 grow:=⟨[],by simp,λy_ hp=>nomatch hp⟩
 dicts:=λy_ y_ kvs e y_ hm=>⟨kvs,e,hm,Nat.le_refl _,λy_=>⟨rfl,rfl⟩⟩
theorem Step.nofoot(x:Step own fr h io m h' io' m'){b:Addr}{o:Obj}(hb:h.get? b=some o)(hf:¬dA io b):¬dA io' b:=by
 refine e1a2 x.grow λnew zz1=>?_;subst zz1;intro hn;intro q;rcases fY q with q | ⟨p,hp,e⟩
 ·exact hf q
 ·rcases e with e | e
  ·rw[e,(hn p hp).1]at hb;injection hb
  ·rw[e,(hn p hp).2]at hb;injection hb
theorem Step.trans(x:Step own fr h io m h' io' m')(y:Step own fr h' io' m' h'' io'' m''):Step own fr h io m h'' io'' m'' where
 alive:=λb o e=>let ⟨o',e'⟩:=x.alive b o e;y.alive b o' e'
 solid:=λb o e s=>y.solid b o (x.solid b o e s) s
 keep:=λb o e f1 f2 f3=>y.keep b o (x.keep b o e f1 f2 f3) (x.nofoot e f1) f2 f3
 slots:=λb o e f1 f2=>by
  refine e1a1 (x.slots b o e f1 f2) λsl e'=>?_;refine e1a1 (y.slots b _ e' (x.nofoot e f1) f2) λsl' e''=>?_;exact⟨sl',e''⟩
 grow:=by
  refine hide λG_ g_=>?_;refine e1a2 x.grow λn1 zz1=>?_;subst zz1;intro h1;refine e1a2 y.grow λn2 zz1=>?_;subst zz1;intro h2;refine g_ ?_;clear g_ G_;refine⟨n1++n2,by simp,λp hp=>?_⟩;rcases List.mem_append.mp hp with hp | hp
  ·exact h1 p hp
  ·have back:∀b,h'.get? b=none->h.get? b=none:=λb e=>by
    cases q:h.get? b with
    |none=>rfl
    |some o=>refine e1a1 (x.alive b o q) λo' e'=>?_;rw[e]at e';injection e'
   exact⟨back _ (h2 p hp).1,back _ (h2 p hp).2⟩
 dicts:=λn p kvs e hi hm=>by
  refine hide λG_ g_=>?_;refine e2a3 (x.dicts n p kvs e hi hm) λk1 e1 hm1 l1 s1=>?_;have hi':io'[n]?=some p:=by
   refine e1a2 x.grow λnew zz1=>?_;subst zz1;intro y_;rw[List.getElem?_append_left (by exact(List.getElem?_eq_some_iff.mp hi).1)];exact hi
  refine e2a3 (y.dicts n p k1 e1 hi' hm1) λk2 e2 hm2 l2 s2=>?_;refine g_ ?_;clear g_ G_;refine⟨k2,e2,hm2,Nat.le_trans l1 l2,λq=>?_⟩;have q1:e1=e:=by lia
  have q2:e2=e1:=by lia
  exact⟨(s2 q2).1.trans (s1 q1).1,(s2 q2).2.trans (s1 q1).2⟩
theorem Step.io_get(x:Step own fr h io m h' io' m'){n:Nat}{p:Addr×Addr}(hi:io[n]?=some p):io'[n]?=some p:=by
 refine e1a2 x.grow λnew zz1=>?_;subst zz1;intro y_;rw[List.getElem?_append_left (List.getElem?_eq_some_iff.mp hi).1];exact hi
theorem VR.both(x:∀b o,h.get? b=some o->cQ o->h'.get? b=some o)(y:∀(n:Nat) (p:Addr×Addr),io[n]?=some p->io'[n]?=some p):(∀(v:V) (u:Value),VR W h io v u->VR W h' io' v u) /\ (∀(v:List V) (u:List Value),VRs W h io v u->VRs W h' io' v u):=by
 have key:∀v:V,∀u:Value,VR W h io v u->VR W h' io' v u:=λv=>V.rec (motive_1:=λv=>∀u,VR W h io v u->VR W h' io' v u) (motive_2:=λv=>∀u,VRs W h io v u->VRs W h' io' v u) (λy_ k=>k) (λy_ y_ k=>k) (λy_ y_ k=>k) (λy_ y_ k=>k)
  (λy_ ih y_ k=>k.imp λy_ k=>k.imp λy_ k=>k.imp λy_ k=>⟨k.1,x _ _ k.2.1 (.inl ⟨rfl,_,_,rfl⟩),ih _ k.2.2⟩) (λy_ y_ k=>k.imp λy_ k=>k.imp λy_ k=>⟨k.1,y _ _ k.2⟩) (λy_ y_ k=>k)
  (λy_ y_ k=>k.imp λy_ k=>k.imp λy_ k=>k.imp λy_ k=>⟨k.1,x _ _ k.2.1 (.inr ⟨_,_,k.2.2.1,k.2.2.2⟩),k.2.2⟩) (λy_ y_ k=>k) (λy_ k=>k) (λy_ y_ i1 i2 y_ k=>k.imp λy_ k=>k.imp λy_ k=>⟨k.1,i1 _ k.2.1,i2 _ k.2.2⟩) v
 exact⟨key,λv=>List.rec (motive:=λv=>∀u,VRs W h io v u->VRs W h' io' v u) (λy_ k=>k) (λa y_ ih y_ k=>k.imp λy_ k=>k.imp λy_ k=>⟨k.1,key a _ k.2.1,ih _ k.2.2⟩) v⟩
theorem VR.mono(x:∀b o,h.get? b=some o->cQ o->h'.get? b=some o)(y:∀(n:Nat) (p:Addr×Addr),io[n]?=some p->io'[n]?=some p){v:V}{u:Value}(k:VR W h io v u):VR W h' io' v u:=(VR.both x y).1 v u k
theorem VRs.mono(x:∀b o,h.get? b=some o->cQ o->h'.get? b=some o)(y:∀(n:Nat) (p:Addr×Addr),io[n]?=some p->io'[n]?=some p){v:List V}{u:List Value}(k:VRs W h io v u):VRs W h' io' v u:=(VR.both x y).2 v u k
theorem ERs.mono(x:∀b o,h.get? b=some o->cQ o->h'.get? b=some o)(y:∀(n:Nat) (p:Addr×Addr),io[n]?=some p->io'[n]?=some p){kvs:List (Ky×V)}{es:List DictEntry}(e:ERs W h io kvs es):ERs W h' io' kvs es:=
 List.rec (motive:=λkvs=>∀es,ERs W h io kvs es->ERs W h' io' kvs es) (λy_ k=>k) (λy_ y_ ih y_ k=>k.imp λy_ k=>k.imp λy_ k=>k.imp λy_ k=>⟨k.1,k.2.1.mono x y,k.2.2.1.mono x y,ih _ k.2.2.2⟩) kvs es e
theorem FEs.mono(x:∀b o,h.get? b=some o->cQ o->h'.get? b=some o)(y:∀(n:Nat) (p:Addr×Addr),io[n]?=some p->io'[n]?=some p){fs:List (Nat×V)}{mA:Str->Option Value}(e:FEs W h io fs mA):FEs W h' io' fs mA:=
 ⟨λz u q=>(e.1 z u q).imp λy_ q=>q.imp λy_ q=>⟨q.1,q.2.1,q.2.2.mono x y⟩,λi v q=>(e.2 i v q).imp λy_ q=>q.imp λy_ q=>⟨q.1,q.2.1,q.2.2.mono x y⟩⟩
theorem VR.step(x:Step own fr h io m h' io' m'){v:V}{u:Value}(k:VR W h io v u):VR W h' io' v u:=k.mono x.solid λy_ y_=>x.io_get
theorem VRs.step(x:Step own fr h io m h' io' m'){v:List V}{u:List Value}(k:VRs W h io v u):VRs W h' io' v u:=k.mono x.solid λy_ y_=>x.io_get
theorem ERs.step(x:Step own fr h io m h' io' m'){kvs:List (Ky×V)}{es:List DictEntry}(e:ERs W h io kvs es):ERs W h' io' kvs es:=e.mono x.solid λy_ y_=>x.io_get
theorem FEs.step(x:Step own fr h io m h' io' m'){fs:List (Nat×V)}{mA:Str->Option Value}(e:FEs W h io fs mA):FEs W h' io' fs mA:=e.mono x.solid λy_ y_=>x.io_get
theorem VRs.length(x:VRs W h io xs vs):vs.length=xs.length:=by
 induction xs generalizing vs with
 |nil=>rw[x];rfl
 |cons y ys ih=>refine e2a3 x λy_ y_ zz1=>?_;subst zz1;intro y_ r;exact congrArg Nat.succ (ih r)
theorem VRs.get(x:VRs W h io xs vs){k:Nat}{v:V}(hk:xs[k]?=some v):∃u,vs[k]?=some u /\ VR W h io v u:=by
 induction xs generalizing vs k with
 |nil=>injection hk
 |cons y ys ih=>
  refine e2a3 x λy_ y_ zz1=>?_;subst zz1;intro h1 r
  cases k with
  |zero=>(refine aF hk λz1=>?_;clear hk;rw[<- z1]);exact⟨_,rfl,h1⟩
  |succ k=>exact ih r hk
theorem VRs.append(x:VRs W h io xs vs)(y:VRs W h io ys us):VRs W h io (xs++ys) (vs++us):=by
 induction xs generalizing vs with
 |nil=>rw[x];exact y
 |cons z zs ih=>refine e2a3 x λy_ y_ zz1=>?_;subst zz1;intro h1 r;exact .cons h1 (ih r)
theorem VRs.snoc{v:V}(x:VRs W h io xs vs)(y:VR W h io v u):VRs W h io (xs++[v]) (vs++[u]):=x.append (.cons y .nil)
theorem VRs.take(x:VRs W h io xs vs)(k:Nat):VRs W h io (xs.take k) (vs.take k):=by
 induction xs generalizing vs k with
 |nil=>rw[x,List.take_nil,List.take_nil];exact .nil
 |cons z zs ih=>refine e2a3 x λy_ y_ zz1=>?_;subst zz1;intro h1 r;cases k with
  |zero=>exact .nil
  |succ k=>exact .cons h1 (ih r k)
theorem VRs.drop(x:VRs W h io xs vs)(k:Nat):VRs W h io (xs.drop k) (vs.drop k):=by
 induction xs generalizing vs k with
 |nil=>rw[x,List.drop_nil,List.drop_nil];exact .nil
 |cons z zs ih=>refine e2a3 x λy_ y_ zz1=>?_;subst zz1;intro h1 r;cases k with
  |zero=>exact .cons h1 r
  |succ k=>exact ih r k
theorem VRs.eraseIdx(x:VRs W h io xs vs)(k:Nat):VRs W h io (xs.eraseIdx k) (vs.eraseIdx k):=by
 induction xs generalizing vs k with
 |nil=>rw[x];exact .nil
 |cons z zs ih=>refine e2a3 x λy_ y_ zz1=>?_;subst zz1;intro h1 r;cases k with
  |zero=>exact r
  |succ k=>exact .cons h1 (ih r k)
theorem VRs.set(x:VRs W h io xs vs)(k:Nat){v:V}{u:Value}(y:VR W h io v u):VRs W h io (xs.set k v) (vs.set k u):=by
 induction xs generalizing vs k with
 |nil=>rw[x];exact .nil
 |cons z zs ih=>refine e2a3 x λy_ y_ zz1=>?_;subst zz1;intro h1 r;cases k with
  |zero=>exact .cons y r
  |succ k=>exact .cons h1 (ih r k)
theorem IntsR.length(x:IntsR ns vs):vs.length=ns.length:=by
 induction ns generalizing vs with
 |nil=>rw[x];rfl
 |cons i ns ih=>refine e2a2 x λy_ y_ zz1=>?_;subst zz1;intro r;exact congrArg Nat.succ (ih r)
theorem IntsR.vrs(x:IntsR ns vs):VRs W h io (ns.map .int) vs:=by
 induction ns generalizing vs with
 |nil=>exact x
 |cons i ns ih=>refine e2a2 x λt y_ zz1=>?_;subst zz1;intro r;exact .cons (.int i t) (ih r)
theorem OR.step_same(x:Step own fr h io m h' io' m'){a d:Addr}{o:MObj}(k:OR W h io a d o)(ha:∀o,h.get? a=some o->h'.get? a=some o)(hd:∀o,h.get? d=some o->h'.get? d=some o):OR W h' io' a d o:=by
 cases o with
 |list xs=>
  obtain⟨e,vs,n,h1,h4,h5⟩:=k;exact⟨e,vs,n,ha _ h1,h4.step x,h5⟩
 |dict kvs ep=>
  obtain⟨e,o,es,n,h1,h2,h3,h4,h5⟩:=k;exact⟨e,o,es,n,ha _ h1,h2,h3,h4.step x,h5⟩
 |inst c fs=>
  obtain⟨e,mA,h1,h2,h3,h4⟩:=k;exact⟨e,mA,ha _ h1,h2.at hd,h3.step x,h4⟩
theorem HR.foot(x:HR W h io m)(f:dA io b):∃o,h.get? b=some o /\ ¬cQ o /\ (∀v,o.data≠.cell v) /\ (∀vs,o.data≠.fields vs) /\ (∀f,o.data≠.func f):=by
 refine e1a2 f λp hp e=>?_;refine e1a1 (List.getElem?_of_mem hp) λn hn=>?_;have hlt:n < m.length:=by rw[<- x.len];exact(List.getElem?_eq_some_iff.mp hn).1
 have hm:m[n]?=some m[n]:=List.getElem?_eq_getElem hlt;have k:=x.obj n p _ hn hm;have sd:∀o:Obj,o.ExactDict->∀es ep,o.data=.dict es ep->¬cQ o:=by
  rintro o hx es ep hd (⟨hc,vs,n,hs⟩ | ⟨C,vs,hc,hs⟩)
  ·rw[hd]at hs;injection hs
  ·rw[hd]at hs;injection hs
 cases hq:m[n]with
 |list xs=>
  rw[hq]at k;obtain⟨e',vs,n',h1,y_⟩:=k;refine⟨eZ vs n',?_,?_,?_,?_,?_⟩
  ·rcases e with e | e
   ·rw[e];exact h1
   ·rw[e,<- e'];exact h1
  ·rintro(⟨hc,y_⟩ | ⟨C,ws,hc,hs⟩)
   ·simp at hc
   ·injection hs
  all_goals (intro v q;injection q)
 |dict kvs ep=>
  rw[hq]at k;obtain⟨e',o,es,n',h1,h2,h3,y_⟩:=k;refine⟨o,?_,sd o h2 _ _ h3,?_,?_,?_⟩
  ·rcases e with e | e
   ·rw[e];exact h1
   ·rw[e,<- e'];exact h1
  ·intro v q;rw[h3]at q;injection q
  ·intro v q;rw[h3]at q;injection q
  ·intro v q;rw[h3]at q;injection q
 |inst c fs=>
  rw[hq]at k;obtain⟨e',mA,h1,⟨od,es,n',h2,h3,y_⟩,y_⟩:=k;rcases e with e | e
  ·refine⟨_,by rw[e];exact h1,?_,?_,?_,?_⟩
   ·rintro(⟨hc,y_⟩ | ⟨C,ws,hc,hs⟩)
    ·injection hc
    ·injection hs
   all_goals (intro v q;injection q)
  ·refine⟨_,by rw[e];exact h2,?_,?_,?_,?_⟩
   ·rintro(⟨y_,vs,n,hs⟩ | ⟨C,vs,hc,hs⟩)
    ·rw[h3]at hs;injection hs
    ·rw[h3]at hs;injection hs
   all_goals (intro v q;rw[h3]at q;injection q)
theorem HR.nofoot_of_solid(x:HR W h io m)(hb:h.get? b=some o)(hs:cQ o):¬dA io b:=λf=>by
 refine e1a3 (x.foot f) λo' h1 h2 y_=>?_;rw[hb]at h1;(refine aF h1 λz1=>?_;clear h1;subst z1);exact h2 hs
theorem HR.nofoot_of_cell{v:Option Value}(x:HR W h io m)(hb:h.get? b=some o)(hs:o.data=.cell v):¬dA io b:=λf=>by
 refine e1a4 (x.foot f) λo' h1 y_ h2 y_=>?_;rw[hb]at h1;(refine aF h1 λz1=>?_;clear h1;subst z1);exact h2 _ hs
theorem HR.there{p:Addr×Addr}(x:HR W h io m)(hn:io[n]?=some p):∃o,h.get? p.1=some o:=by
 refine e1a2 (x.foot ⟨p,List.mem_of_getElem? hn,.inl rfl⟩) λo ho y_=>?_;exact⟨o,ho⟩
theorem Step.of_keeps(x:HR W h io m)(hk:∀b o,h.get? b=some o->h'.get? b=some o):Step own fr h io m h' io m where
 alive:=λb o e=>⟨o,hk b o e⟩
 solid:=λb o e y_=>hk b o e
 keep:=λb o e y_ y_ y_=>hk b o e
 slots:=λb o e y_ y_=>⟨o.slots,hk b o e⟩
 grow:=⟨[],by simp,λy_ hp=>nomatch hp⟩
 dicts:=λn p kvs e hi hm=>⟨kvs,e,hm,Nat.le_refl _,λy_=>⟨by
  refine e1a1 (x.there hi) λo ho=>?_;rw[ho];exact hk _ _ ho,rfl⟩⟩
theorem HR.of_keeps(x:HR W h io m)(hk:∀b o,h.get? b=some o->h'.get? b=some o):HR W h' io m where
 keep:=λb o e=>hk b o (x.keep b o e)
 len:=x.len
 obj:=λn p o hi hm=>(x.obj n p o hi hm).step_same (Step.of_keeps (own:=[]) (fr:=[]) x hk) (hk _) (hk _)
 fresh:=x.fresh
 apart:=x.apart
theorem HR.of_foot(x:HR W h io m)(st:Step own fr h io m h' io m)(hf:∀b o,dA io b->h.get? b=some o->h'.get? b=some o)(hb:W.base.StaysIn h'):HR W h' io m where
 keep:=hb
 len:=x.len
 obj:=λn p o hi hm=>(x.obj n p o hi hm).step_same st (λo e=>hf _ o ⟨p,List.mem_of_getElem? hi,.inl rfl⟩ e) (λo e=>hf _ o ⟨p,List.mem_of_getElem? hi,.inr rfl⟩ e)
 fresh:=x.fresh
 apart:=x.apart
theorem fP(x:HR W h io m)(hL:L∈own)(hk:∀b o,b≠L->h.get? b=some o->h'.get? b=some o)(hs:∀o,h.get? L=some o->¬cQ o /\ ∃o',h'.get? L=some o')(hf:¬dA io L):
  Step own fr h io m h' io m where
 alive:=λb o e=>by
  by_cases q:b=L
  ·subst q;exact(hs o e).2
  ·exact⟨o,hk b o q e⟩
 solid:=λb o e so=>by
  by_cases q:b=L
  ·subst q;exact absurd so (hs o e).1
  ·exact hk b o q e
 keep:=λb o e y_ ho y_=>hk b o (λq=>ho (q▸hL)) e
 slots:=λb o e y_ ho=>⟨o.slots,hk b o (λq=>ho (q▸hL)) e⟩
 grow:=⟨[],by simp,λy_ hp=>nomatch hp⟩
 dicts:=λn p kvs e hi hm=>⟨kvs,e,hm,Nat.le_refl _,λy_=>⟨by
  refine e1a1 (x.there hi) λo ho=>?_;rw[ho];exact hk _ _ (λq=>hf ⟨p,List.mem_of_getElem? hi,.inl q.symm⟩) ho,rfl⟩⟩
theorem HR.ofOwn(x:HR W h io m)(hL:L∈own)(hk:∀b o,b≠L->h.get? b=some o->h'.get? b=some o)(hs:∀o,h.get? L=some o->¬cQ o /\ ∃o',h'.get? L=some o')(hf:¬dA io L)(hb:W.base.get? L=none):
  HR W h' io m:=x.of_foot (fr:=[]) (fP x hL hk hs hf) (λb o f e=>hk b o (λq=>hf (q▸f)) e) λb o e=>hk b o (λq=>by rw[q,hb]at e;injection e) (x.keep b o e)
theorem eB(x:HR W h io m){a d:Addr}{o:MObj}(hk:∀b o,h.get? b=some o->h'.get? b=some o)(ha:h.get? a=none)(hd:h.get? d=none):
  Step own fr h io m h' (io++[(a,d)]) (m++[o]) where
 alive:=λb o e=>⟨o,hk b o e⟩
 solid:=λb o e y_=>hk b o e
 keep:=λb o e y_ y_ y_=>hk b o e
 slots:=λb o e y_ y_=>⟨o.slots,hk b o e⟩
 grow:=⟨[(a,d)],rfl,λp hp=>by rw[List.mem_singleton.mp hp];exact⟨ha,hd⟩⟩
 dicts:=λn p kvs e hi hm=>⟨kvs,e,by rw[List.getElem?_append_left (List.getElem?_eq_some_iff.mp hm).1];exact hm,Nat.le_refl _,λy_=>⟨by
  refine e1a1 (x.there hi) λo ho=>?_;rw[ho];exact hk _ _ ho,rfl⟩⟩
theorem HR.alloc(x:HR W h io m){a d:Addr}{o:MObj}(hk:∀b o,h.get? b=some o->h'.get? b=some o)(ha:h.get? a=none)(hd:h.get? d=none)(k:OR W h' (io++[(a,d)]) a d o):HR W h' (io++[(a,d)]) (m++[o]) where
 keep:=λb o e=>hk b o (x.keep b o e)
 len:=by simp[x.len]
 obj:=λn p o' hi hm=>by
  by_cases q:n < io.length
  ·rw[List.getElem?_append_left q]at hi
   rw[List.getElem?_append_left (x.len▸q)]at hm;exact(x.obj n p o' hi hm).step_same (eB (own:=[]) (fr:=[]) (o:=o) x hk ha hd) (hk _) (hk _)
  ·have q1:n=io.length:=by
    have:=(List.getElem?_eq_some_iff.mp hi).1;simp at this;lia
   subst q1;rw[List.getElem?_append_right (Nat.le_refl _)]at hi;rw[x.len,List.getElem?_append_right (Nat.le_refl _)]at hm;simp at hi hm;subst hi hm;exact k
 fresh:=λb f=>by
  rcases fY f with f | ⟨p,hp,e⟩
  ·exact x.fresh b f
  ·rw[List.mem_singleton.mp hp]at e
   cases q:W.base.get? b with
   |none=>rfl
   |some o=>
    have:=x.keep b o q;rcases e with e | e <;> subst e
    ·rw[ha]at this;injection this
    ·rw[hd]at this;injection this
 apart:=λi j p q hij hi hj=>by
  have lo:∀(n:Nat) (p:Addr×Addr),(io++[(a,d)])[n]?=some p->(n < io.length /\ io[n]?=some p) \/ (n=io.length /\ p=(a,d)):=λn p hn=>by
   by_cases q:n < io.length
   ·rw[List.getElem?_append_left q]at hn;exact .inl ⟨q,hn⟩
   ·have q1:n=io.length:=by
     have:=(List.getElem?_eq_some_iff.mp hn).1;simp at this;lia
    subst q1;rw[List.getElem?_append_right (Nat.le_refl _)]at hn;simp at hn;exact .inr ⟨rfl,hn.symm⟩
  have off:∀(n:Nat) (p:Addr×Addr),io[n]?=some p->p.1≠a /\ p.1≠d /\ p.2≠a /\ p.2≠d:=λn p hn=>by
   refine hide λG_ g_=>?_;refine e1a2 (x.foot ⟨p,List.mem_of_getElem? hn,.inl rfl⟩) λo1 h1 y_=>?_;refine e1a2 (x.foot ⟨p,List.mem_of_getElem? hn,.inr rfl⟩) λo2 h2 y_=>?_;refine g_ ?_;clear g_ G_;refine⟨λe=>?_,λe=>?_,λe=>?_,λe=>?_⟩
   ·rw[e,ha]at h1;injection h1
   ·rw[e,hd]at h1;injection h1
   ·rw[e,ha]at h2;injection h2
   ·rw[e,hd]at h2;injection h2
  rcases lo i p hi with⟨_,hi⟩ | ⟨ei,rfl⟩ <;> rcases lo j q hj with⟨_,hj⟩ | ⟨ej,rfl⟩
  ·exact x.apart i j p q hij hi hj
  ·refine e0a4 (off i p hi) λh1 h2 h3 h4=>?_
   exact⟨h1,h2,h4⟩
  ·refine e0a4 (off j q hj) λh1 h2 h3 h4=>?_
   exact⟨Ne.symm h1,Ne.symm h3,Ne.symm h4⟩
  ·exact absurd (ei.trans ej.symm) hij
theorem aG1(x:HR W h io m){n:Nat}{p:Addr×Addr}{o o1:MObj}(hi:io[n]?=some p)(hm:m[n]?=some o)(hk:∀b o,b≠p.1->b≠p.2->h.get? b=some o->h'.get? b=some o)(h1:∃o',h'.get? p.1=some o')(h2:∃o',h'.get? p.2=some o')(hd:∀kvs e,o=.dict kvs e->∃kvs' e',o1=.dict kvs' e' /\ e < e'):Step own fr h io m h' io (m.set n o1) where
 alive:=λb o e=>by
  by_cases q:b=p.1
  ·rw[q];exact h1
  ·by_cases q2:b=p.2
   ·rw[q2];exact h2
   ·exact⟨o,hk b o q q2 e⟩
 solid:=λb o e s=>hk b o (λq=>x.nofoot_of_solid e s ⟨p,List.mem_of_getElem? hi,.inl q⟩) (λq=>x.nofoot_of_solid e s ⟨p,List.mem_of_getElem? hi,.inr q⟩) e
 keep:=λb o e f y_ y_=>hk b o (λq=>f ⟨p,List.mem_of_getElem? hi,.inl q⟩) (λq=>f ⟨p,List.mem_of_getElem? hi,.inr q⟩) e
 slots:=λb o e f y_=>⟨o.slots,hk b o (λq=>f ⟨p,List.mem_of_getElem? hi,.inl q⟩) (λq=>f ⟨p,List.mem_of_getElem? hi,.inr q⟩) e⟩
 grow:=⟨[],by simp,λy_ hp=>nomatch hp⟩
 dicts:=λk q kvs e hq hmk=>by
  by_cases z:k=n
  ·subst z
   rw[hm]at hmk;(refine aF hmk λz1=>?_;clear hmk;subst z1);refine e2a2 (hd kvs e rfl) λkvs' e' zz1=>?_;subst zz1;intro hlt;refine⟨kvs',e',List.getElem?_set_self (List.getElem?_eq_some_iff.mp hm).1,Nat.le_of_lt hlt,λw=>absurd w (Nat.ne_of_gt hlt)⟩
  ·refine⟨kvs,e,by rw[List.getElem?_set_ne (Ne.symm z)];exact hmk,Nat.le_refl _,λy_=>⟨?_,rfl⟩⟩
   refine e1a1 (x.there hq) λo ho=>?_;refine e0a3 (x.apart k n q p z hq hi) λa1 a2 a3=>?_;rw[ho];exact hk _ _ a1 a2 ho
theorem HR.set(x:HR W h io m){n:Nat}{p:Addr×Addr}{o o1:MObj}(hi:io[n]?=some p)(hm:m[n]?=some o)(hk:∀b o,b≠p.1->b≠p.2->h.get? b=some o->h'.get? b=some o)(hd:∀kvs e,o=.dict kvs e->∃kvs' e',o1=.dict kvs' e' /\ e < e')(h1:∃o',h'.get? p.1=some o')(h2:∃o',h'.get? p.2=some o')(k:OR W h' io p.1 p.2 o1):HR W h' io (m.set n o1) where
 keep:=λb o e=>hk b o (λq=>by rw[x.fresh b ⟨p,List.mem_of_getElem? hi,.inl q⟩]at e;injection e) (λq=>by rw[x.fresh b ⟨p,List.mem_of_getElem? hi,.inr q⟩]at e;injection e) (x.keep b o e)
 len:=by simp[x.len]
 obj:=λj q o' hj hmj=>by
  by_cases z:j=n
  ·subst z
   rw[hi]at hj;(refine aF hj λz1=>?_;clear hj;subst z1);rw[List.getElem?_set_self (List.getElem?_eq_some_iff.mp hm).1]at hmj;(refine aF hmj λz1=>?_;clear hmj;subst z1);exact k
  ·rw[List.getElem?_set_ne (Ne.symm z)]at hmj
   refine hide λG_ g_=>?_;refine e0a3 (x.apart j n q p z hj hi) λa1 a2 a3=>?_;refine e0a3 (x.apart n j p q (Ne.symm z) hi hj) λb1 b2 b3=>?_;refine g_ ?_;clear g_ G_;exact(x.obj j q o' hj hmj).step_same (aG1 (own:=[]) (fr:=[]) x hi hm hk h1 h2 hd) (λo e=>hk _ o a1 a2 e) (λo e=>hk _ o (Ne.symm b2) a3 e)
 fresh:=x.fresh
 apart:=x.apart
end
end Mini.Internal
variable{b:Value}
namespace Mini.Internal
open PySem PySem.Calls
theorem bA6{k:Int}{v:Value}(h1:s.heap.get? l=some (eZ ws c))(h0:0 <= k)(hf:k < 2 ^ 63)(hn:k < ws.size)(hQ:Q () { s with heap:=s.heap.update l (Obj.mapSeq (·.setIfInBounds k.toNat v)) }):wpAny (model prog w) A (setItem (.ref l) (.int k t) v) Q E s:=by
 have hT:s.TypeIs (.ref l) "list":=⟨_,h1,rfl⟩
 unfold setItem;refine wpAny_holding ?_;refine wpAny_bind (wpAny_sequenceKey hT (by decide) ?_);refine wpAny_bind (wpAny_callSpecial?_slot (name:=Str.ofString "__setitem__") hT slot_list_setitem (wpAny_call_entry slot_list_setitem hT entry_list_setitem ?_ (args_list_setitem _ _ _)));show wpAny _ _ (Builtin.List.listSubscript? (.int k t) >>= _) _ _ s;refine wpAny_bind (wpAny_listSubscript_int (fitsIndex_of h0 hf) ?_);clear hf;refine e1a1 (Int.eq_ofNat_of_zero_le h0) λj zz1=>?_;subst zz1;have hj:j < ws.size:=by lia
 refine wpAny_bind (wpAny_bind (wpAny_seqItemAt h1 rfl (wpAny_pure ?_)));rw[Array.getElem?_eq_getElem hj];refine wpAny_bind (wpAny_setSeqItemAt h1 rfl ?_);exact wpAny_pure ⟨.none,rfl,wpAny_pure hQ⟩
theorem bA5{k:Int}{v:Value}(h1:s.heap.get? l=some (eZ ws c))(h0:k < 0)(hf:-(2 ^ 63) <= k)(hn:0 <= k+ws.size)(hQ:Q () { s with heap:=s.heap.update l (Obj.mapSeq (·.setIfInBounds (k+ws.size).toNat v)) }):wpAny (model prog w) A (setItem (.ref l) (.int k t) v) Q E s:=by
 have hT:s.TypeIs (.ref l) "list":=⟨_,h1,rfl⟩
 unfold setItem;refine wpAny_holding ?_;refine wpAny_bind (wpAny_sequenceKey hT (by decide) ?_);refine wpAny_bind (wpAny_callSpecial?_slot (name:=Str.ofString "__setitem__") hT slot_list_setitem (wpAny_call_entry slot_list_setitem hT entry_list_setitem ?_ (args_list_setitem _ _ _)));show wpAny _ _ (Builtin.List.listSubscript? (.int k t) >>= _) _ _ s;refine wpAny_bind (wpAny_listSubscript_int (fitsIndex_neg h0 hf) ?_);clear hf;have hidx:=seqIndex_neg (n:=ws.size) h0 (by lia);have hj:(k+ws.size).toNat < ws.size:=by lia
 obtain⟨j,rfl⟩:∃j:Nat,k=Int.negSucc j:=by
  cases k with
  |ofNat n=>exact absurd h0 (Int.not_lt.mpr (Int.ofNat_nonneg n))
  |negSucc n=>exact⟨n,rfl⟩
 refine wpAny_bind (wpAny_bind ?_);refine wpAny_bind (wpAny_seqItems h1 rfl (wpAny_pure (wpAny_pure ?_)));rw[hidx];simp only[Option.bind_some,Array.getElem?_eq_getElem hj,Option.map_some];show wpAny _ _ (setSeqItemAt l _ v >>= _) _ _ s;refine wpAny_bind (wpAny_setSeqItemAt h1 rfl ?_);exact wpAny_pure ⟨.none,rfl,wpAny_pure hQ⟩
end Mini.Internal
variable{t:Sem Value}
namespace Mini.Internal
open PySem
noncomputable def frs(fs:List Env):List Addr:=fs.filterMap (·.frame)
structure FR(W:Wd)(h:Heap)(io:Io)(env:Env)(vis:List (Option Str))(r:Lo):Prop where
 kind:env.scope.kind=.function
 glob:env.globals=mainGlobals
 blt:env.builtins=builtinsNs
 nofoot:¬dA io env.locals
 fresh:W.base.get? env.locals=none
 loc:∃mp,h.Ns env.locals mp /\ ∀(i:Nat) (x:Str) (v:V),vis[i]?=some (some x)->r[i]?=some (some v)->env.kindOf x=some .local->∃u,mp x=some u /\ VR W h io v u
 cel:∀(i:Nat) (x:Str) (v:V),vis[i]?=some (some x)->r[i]?=some (some v)->(env.kindOf x=some .cell \/ env.kindOf x=some .free)->∃c u,env.cells.lookup x=some c /\ h.IsCell c (some u) /\ VR W h io v u
 cells:∀(x:Str) (c:Addr),env.cells.lookup x=some c->(∃o,h.IsCell c o) /\ W.base.get? c=none /\ c≠env.locals
 celex:∀(i:Nat) (x:Str),vis[i]?=some (some x)->(env.kindOf x=some .cell \/ env.kindOf x=some .free)->∃c,env.cells.lookup x=some c
 apart:∀(x y:Str) (c:Addr),env.cells.lookup x=some c->env.cells.lookup y=some c->x=y
 inj:∀(i j:Nat) (x:Str),vis[i]?=some (some x)->vis[j]?=some (some x)->i=j
 len:r.length=vis.length
noncomputable def FF(W:Wd)(h:Heap)(io:Io)(fs:List Env):Prop:=
 ∀env∈fs,env.scope.kind≠.module /\ ∃L o es n,env.frame=some L /\ W.base.get? L=none /\ ¬dA io L /\ h.get? L=some o /\ o.data=.dict es n
structure AR(A:Around)(fs:List Env)(n:Nat):Prop where
 frames:A.frames=some fs
 depth:A.depth+4 * n <= 900
 units:A.units+40 * n+400 <= 9000
noncomputable def Same(s s':Shared):Prop:=s'.gens=s.gens /\ s'.os=s.os
theorem Same.refl(s:Shared):Same s s:=⟨rfl,rfl⟩
theorem Same.trans{a b c:Shared}(x:Same a b)(y:Same b c):Same a c:=⟨y.1.trans x.1,y.2.trans x.2⟩
inductive NP(W:Wd)(own fr:List Addr)(s:Shared)(io:Io)(m:MH){α β:Type}(P:Heap->Io->α->β->Prop)(R:Res α)(u:β)(s':Shared):Prop
 |mk (v:α) (m':MH) (io':Io) (e:R=.ok v m') (st:Step own fr s.heap io m s'.heap io' m') (hr:HR W s'.heap io' m') (p:P s'.heap io' v u) (sm:Same s s')
noncomputable def Kp(W:Wd)(h0:Heap)(io:Io)(fs:List Env)(g B:Heap):Prop:=
 ∀b o,g.get? b=some o->(dA io b \/ cQ o \/ W.base.get? b=some o \/ ((∃o',h0.get? b=some o') /\ b∉frs fs))->B.get? b=some o
noncomputable def Fly(W:Wd)(fs:List Env)(h0:Heap)(io:Io)(g:Heap)(a:Addr)(c:Nat)(h':Heap):Prop:=
 ∃B,Kp W h0 io fs g B /\ ((∃a0,Heap.FlyingW B fs a (.ref (W.ca c)) a0 h' /\ g.UpToSlots h') \/ (∃a0 L env,fs.head?=some env /\ env.frame=some L /\ Heap.HeldW B fs a (.ref (W.ca c)) a0 L h' /\ g.UpToSlots h') \/ (∃args,B.StaysIn g /\ g.FunFrames B fs /\ Heap.MadeExcOf g h' a (.ref (W.ca c)) args))
inductive XP(W:Wd)(own:List Addr)(fs:List Env)(s:Shared)(io:Io)(m:MH){α:Type}(R:Res α)(e:Value)(s':Shared):Prop
 |mk (c:Nat) (m':MH) (io':Io) (a:Addr) (g:Heap) (er:R=.exc c m') (ee:e=.ref a) (st:Step own (frs fs) s.heap io m g io' m') (hr:HR W g io' m') (fl:Fly W fs s.heap io' g a c s'.heap) (sm:Same s s')
noncomputable abbrev VP(W:Wd):Heap->Io->V->Value->Prop:=λh io v u=>VR W h io v u
noncomputable abbrev VsP(W:Wd):Heap->Io->List V->List Value->Prop:=λh io v u=>VRs W h io v u
noncomputable abbrev BP:Heap->Io->Bool->Bool->Prop:=λy_ y_ b c=>b=c
section
variable{own:List Addr}
theorem cH1{mp:Str->Option Value}(x:h.Ns L mp)(k:∀o,h.get? L=some o->∃sl,h'.get? L=some { o with slots:=sl }):h'.Ns L mp:=by
 refine e3a3 x λo es ep ho hd r=>?_;refine e1a1 (k o ho) λsl e=>?_;exact⟨_,es,ep,e,hd,r⟩
theorem aP3{c:Addr}{v:Option Value}(x:h.IsCell c v)(k:∀o,h.get? c=some o->∃sl,h'.get? c=some { o with slots:=sl }):h'.IsCell c v:=by
 refine e1a2 x λo ho hd=>?_;refine e1a1 (k o ho) λsl e=>?_;exact⟨_,e,hd⟩
theorem FR.step(F:FR W h io env vis r)(H:HR W h io m)(x:Step own fr h io m h' io' m')(hL:env.locals∉own)(hc:∀y c,env.cells.lookup y=some c->c∉own):FR W h' io' env vis r:=by
 have sc:∀y c,env.cells.lookup y=some c->∀o,h.get? c=some o->∃sl,h'.get? c=some { o with slots:=sl }:=λy c hy o ho=>by
  obtain⟨⟨v,oc,hoc,hd⟩,y_⟩:=F.cells y c hy;refine x.slots c o ho ?_ (hc y c hy);exact H.nofoot_of_cell hoc hd
 refine hide λG_ g_=>?_;refine e1a2 F.loc λmp hn hl=>?_;refine e3a2 (id hn) λoL y_ y_ hoL y_=>?_;refine g_ ?_;clear g_ G_;refine⟨F.kind,F.glob,F.blt,x.nofoot hoL F.nofoot,F.fresh,⟨mp,cH1 hn λo ho=>x.slots _ o ho F.nofoot hL,λi y v h1 h2 h3=>?_⟩,λi y v h1 h2 h3=>?_,λy c hy=>?_,F.celex,F.apart,F.inj,F.len⟩
 ·refine e1a2 (hl i y v h1 h2 h3) λu e k=>?_
  exact⟨u,e,k.step x⟩
 ·refine e2a3 (F.cel i y v h1 h2 h3) λc u e k1 k2=>?_
  exact⟨c,u,e,aP3 k1 (sc y c e),k2.step x⟩
 ·obtain⟨⟨o,k1⟩,k2,k3⟩:=F.cells y c hy
  exact⟨⟨o,aP3 k1 (sc y c hy)⟩,k2,k3⟩
theorem FR.step0(F:FR W h io env vis r)(H:HR W h io m)(x:Step [] fr h io m h' io' m'):FR W h' io' env vis r:=F.step H x (λq=>nomatch q) λy_ y_ y_ q=>nomatch q
theorem FF.step(F:FF W h io fs)(x:Step own fr h io m h' io' m')(ho:∀L∈frs fs,L∉own):FF W h' io' fs:=by
 intro env he;obtain⟨hk,L,o,es,n,h1,h2,h3,h4,h5⟩:=F env he;refine e1a1 (x.slots L o h4 h3 (ho L (List.mem_filterMap.mpr ⟨env,he,h1⟩))) λsl e=>?_;exact⟨hk,L,_,es,n,h1,h2,x.nofoot h4 h3,e,h5⟩
theorem FF.step0(F:FF W h io fs)(x:Step [] fr h io m h' io' m'):FF W h' io' fs:=F.step x λy_ y_ q=>nomatch q
theorem FF.funFrames(F:FF W h io fs):h.FunFrames W.base fs:=by
 induction fs with
 |nil=>trivial
 |cons env fs ih=>
  obtain⟨hk,L,o,es,n,h1,h2,h3,h4,h5⟩:=F env (.head _);exact⟨hk,⟨L,o,h1,h2,h4,λvs q=>by rw[h5]at q;cases q⟩,ih λe he=>F e (.tail _ he)⟩
theorem AR.cline(x:AR A fs n):A.units+400 < cLine:=Nat.lt_of_le_of_lt (Nat.le_trans (Nat.add_le_add_right (Nat.le_add_right _ _) 400) x.units) (by decide)
theorem XP.bind{R:Res α}{f:α->Mn β}{m₁:MH}(x:XP W own fs s₁ io₁ m₁ R e s')(st:Step own (frs fs) s.heap io m s₁.heap io₁ m₁)(sm:Same s s₁):XP W own fs s io m (R.bind f) e s':=by
 obtain⟨c,m',io',a,g,rfl,h2,h3,h4,⟨B,h5,h6⟩,h7⟩:=x;exact⟨c,m',io',a,g,rfl,h2,st.trans h3,h4,⟨B,λb o e q=>h5 b o e (q.imp id (Or.imp id (Or.imp id λ⟨⟨o',e'⟩,q⟩=>⟨st.alive b o' e',q⟩))),h6⟩,sm.trans h7⟩
theorem XP.mono{R:Res α}{m₁:MH}(x:XP W own fs s₁ io₁ m₁ R e s')(st:Step own (frs fs) s.heap io m s₁.heap io₁ m₁)(sm:Same s s₁):XP W own fs s io m R e s':=by
 obtain⟨c,m',io',a,g,rfl,h2,h3,h4,⟨B,h5,h6⟩,h7⟩:=x;exact⟨c,m',io',a,g,rfl,h2,st.trans h3,h4,⟨B,λb o e q=>h5 b o e (q.imp id (Or.imp id (Or.imp id λ⟨⟨o',e'⟩,q⟩=>⟨st.alive b o' e',q⟩))),h6⟩,sm.trans h7⟩
theorem NP.mono{P:Heap->Io->α->β->Prop}{R:Res α}{u:β}{m₁:MH}(x:NP W own fr s₁ io₁ m₁ P R u s')(st:Step own fr s.heap io m s₁.heap io₁ m₁)(sm:Same s s₁):NP W own fr s io m P R u s':=by
 obtain⟨v,m',io',rfl,h2,h3,h4,h5⟩:=x;exact⟨v,m',io',rfl,st.trans h2,h3,h4,sm.trans h5⟩
noncomputable def Si(W:Wd)(own:List Addr)(A:Around)(fs:List Env){α β:Type}(P:Heap->Io->α->β->Prop)(t:Sem β)(s:Shared)(io:Io)(m:MH)(R:Res α):Prop:=
 R≠.bad->wpAny (model W.prog W.w) A t (NP W own (frs fs) s io m P R) (XP W own fs s io m R) s
section
variable{α' β' γ:Type}{P:Heap->Io->α->β->Prop}{P':Heap->Io->α'->β'->Prop}
theorem Res.bind_ne{R:Res α}{f:α->Mn α'}(h:R.bind f≠.bad):R≠.bad:=λq=>h (by rw[q];rfl)
theorem Si.bind{t:Sem β}{k:β->Sem β'}{R:Res α}{f:α->Mn α'}(x:Si W own A fs P t s io m R)(y:∀u s₁ io₁ m₁ v,R=.ok v m₁->Step own (frs fs) s.heap io m s₁.heap io₁ m₁->HR W s₁.heap io₁ m₁->P s₁.heap io₁ v u->Same s s₁->Si W own A fs P' (k u) s₁ io₁ m₁ (f v m₁)):
  Si W own A fs P' (t >>= k) s io m (R.bind f):=by
 intro hne;refine wpAny_bind (wpAny_mono (x (Res.bind_ne hne)) (λu s₁ hp=>?_) λe s₁ hp=>hp.bind .refl (.refl _));obtain⟨v,m₁,io₁,rfl,st,hr,hp,sm⟩:=hp;exact wpAny_mono (y u s₁ io₁ m₁ v rfl st hr hp sm hne) (λy_ y_ z=>z.mono st sm) λy_ y_ z=>z.mono st sm
theorem Si.pure{u:β}{v:α}(H:HR W s.heap io m)(p:P s.heap io v u):Si W own A fs P (Pure.pure u) s io m (.ok v m):=
 λy_=>wpAny_pure ⟨v,m,io,rfl,.refl,H,p,.refl _⟩
theorem Si.bad{t:Sem β}:Si W own A fs P t s io m .bad:=λh=>absurd rfl h
theorem Si.standAt{k:Unit->Sem β}{R:Res α}(x:Si W own A fs P (k ()) s io m R):Si W own A fs P (PySem.standAt pos >>= k) s io m R:=
 λh=>wpAny_bind (wpAny_standAt (x h))
theorem Si.holding{t:Sem β}{R:Res α}(x:Si W own A fs P t s io m R):Si W own A fs P (holding vs t) s io m R:=λh=>wpAny_holding (x h)
theorem aP7{Q:Value->Shared->Prop}(h:wpAny M A t Q E s):wpAny M A (operate vs t) Q E s:=
 λΓ p hΓ=>by rw[Sem.wp_operate];exact h Γ p hΓ
theorem Si.operate{P:Heap->Io->α->Value->Prop}{R:Res α}(x:Si W own A fs P t s io m R):Si W own A fs P (operate vs t) s io m R:=λh=>aP7 (x h)
end
end
theorem bK8{base:Heap}{outer:List Env}{e:Addr}{cls:Value}{args:List Value}(hfr:A.frames=some (env::outer))(hf:env.frame=some L)(hkb:base.StaysIn h)(hl:h.FunFrames base (env::outer))(hx:Heap.MadeExcOf h s.heap e cls args)(hQ:∀h' t,Heap.HeldW base (env::outer) e cls (.ref t) L h'->s.heap.UpToSlots h'->Q () { s with heap:=h' }):wpAny M A (noteFrame (.ref e) env) Q E s:=by
 refine e1a3 hx.there λt he htn ht=>?_;have fresh:∀b,h.get? b=none->base.get? b=none:=λb hb=>by
  cases hq:base.get? b with
  |none=>rfl
  |some o'=>have:=hkb b o' hq;rw[hb]at this;injection this
 unfold noteFrame;simp only[hf];refine wpAny_bind (wpAny_field (x:=.none) he rfl rfl ?_);rw[if_neg (by decide)];refine wpAny_entryW (a0:=.ref t) hfr (hl.of_keeps λb o hb y_=>⟨o,hx.keeps b o hb,rfl⟩) hf he (λb o hb=>hx.keeps b o (hkb b o hb)) (fresh e hx.new) rfl (show 1 < 6 by decide) rfl λh' hN=>?_;refine e0a4 hN λk1 k2 k3 k4=>?_;exact hQ h' t ⟨k1,fresh e hx.new,k2,k3⟩ k4
theorem aM0{base:Heap}{l:List Env}{e L':Addr}{cls a0:Value}(R:Heap.HeldW base l e cls a0 L' s.heap)(h:∀h',Heap.HeldW base l e cls a0 L h'->s.heap.UpToSlots h'->Q () { s with heap:=h' }):wpAny M A (setFlight (.ref e) (some L)) Q E s:=by
 obtain⟨hkb,hen,hl,oe,vs,T,oT,ts,he,hcls,hd,h1,hnT,hTe,hT,hdT,h3⟩:=R;have hsz3:3 < ts.size:=(Array.getElem?_eq_some_iff.mp h3).1;have other:∀b,b≠T->(s.heap.update T (Obj.mapFields (·.setIfInBounds 3 ((some L).elim Value.none λf=>rawInt f)))).get? b=s.heap.get? b:=
  λb hb=>Heap.get?_update_other _ _ (Ne.symm hb)
 have noRecord:∀b o,s.heap.get? b=some o->(∀vs,o.data≠.fields vs)->b≠T:=λb o hb hnf q=>by
  rw[q,hT]at hb;injection hb with hb;subst hb;exact hnf ts hdT
 refine wpAny_bind (wpAny_field he hd h1 ?_);rw[if_pos (show(Value.ref T != Value.none)=true from by simp)];refine wpAny_setField hT hdT hsz3 (h _ ⟨λb o hbo=>(other b λq=>by rw[q,hnT]at hbo;injection hbo).trans (hkb b o hbo),hen,
  hl.of_keeps λb o hb hnf=>⟨o,(other b (noRecord b o hb hnf)).trans hb,rfl⟩,?_⟩ λb o hb hnf=>⟨o.slots,(other b (noRecord b o hb hnf)).trans hb⟩)
 exact⟨oe,vs,T,_,_,(other e (Ne.symm hTe)).trans he,hcls,hd,h1,hnT,hTe,Heap.get?_update_self _ hT (Obj.isFreed_of_fields (Obj.data_mapFields hdT _)),Obj.data_mapFields hdT _,by simp[hsz3]⟩
theorem bG1{h0:Heap}{g:Heap}{a:Nat}(hA:A.frames=some (env::fs))(hf:env.frame=some L)(x:Fly W (env::fs) h0 io g a c s.heap)(k:∀B h' a0,Kp W h0 io (env::fs) g B->Heap.HeldW B (env::fs) a (.ref (W.ca c)) a0 L h'->g.UpToSlots h'->Q () { s with heap:=h' }):wpAny M A (noteFrame (.ref a) env) Q E s:=by
 refine e1a2 x λB kp fly=>?_;rcases fly with⟨a0,f1,f2⟩ | ⟨a0,L',env',f0,f0',f1,f2⟩ | ⟨args,f1,f2,f3⟩
 ·exact wpAny_looks_onW hA hf f1 λh' q1 q2=>k B h' a0 kp q1 (f2.trans q2)
 ·(refine aF f0 λz1=>?_;clear f0;subst z1)
  rw[hf]at f0';(refine aF f0' λz1=>?_;clear f0';subst z1);exact wpAny_noteFrame_againW hf f1.2.2.2 (k B _ a0 kp f1 f2)
 ·exact bK8 hA hf f1 f2 f3 λh' t q1 q2=>k B h' _ kp q1 ((Heap.UpToSlots.of_keeps f3.keeps).trans q2)
theorem aO1{own:List Addr}{R:Res α}(hA:A.frames=some (env::fs))(hf:env.frame=some L)(x:XP W own (env::fs) s₀ io m R e s):
  notedBy M A env (cameBackBy M A env (XP W own (env::fs) s₀ io m R)) e s:=by
 obtain⟨c,m',io',a,g,h1,rfl,st,Hg,fly,sm⟩:=x;refine bG1 hA hf fly λB h' a0 kp hh up=>?_;obtain⟨oe,vs,T,oT,ts,he,hcls,hd,hv,y_⟩:=id hh.2.2.2;refine wpAny_bind (wpAny_field he hd hv ?_);rw[if_neg (show ¬((Value.ref T == Value.none)=true)from by simp)];rw[hf]
 first
  |refine wpAny_bind (wpAny_pure ?_)
  |skip
 refine aM0 (L:=L) hh λh₂ hh₂ up₂=>?_;exact⟨c,m',io',a,g,h1,rfl,st,Hg,⟨B,kp,.inr (.inl ⟨a0,L,env,rfl,hf,hh₂,up.trans up₂⟩)⟩,sm⟩
end Mini.Internal
variable{L:List V}{Q:Value->Shared->Prop}{e:Expr}
namespace Mini.Internal
open PySem
theorem bG6:lid=4194304:=rfl
section
variable{own:List Addr}
theorem aL2{g:α->Option β}{x:α}{xs:List α}{ds:List β}(h:d7 g (x::xs)=some ds):∃d r,ds=d::r /\ g x=some d /\ d7 g xs=some r:=by
 have h:(match g x,d7 g xs with | some d,some ds=>some (d::ds) | _,_=>none)=some ds:=h
 cases h1:g x with
 |none=>rw[h1]at h;injection h
 |some d=>
  cases h2:d7 g xs with
  |none=>rw[h1,h2]at h;injection h
  |some r=>rw[h1,h2]at h;(refine aF h λz1=>?_;clear h;rw[<- z1]);exact⟨d,r,rfl,rfl,rfl⟩
theorem dI{f:Nat}(one:∀(v:V) (u:Value) (d:PyData),rd f m v=some d->VR W s.heap io v u->(∃as,Reads s.heap u d as) /\ d.canLay0=true /\ d.depth <= f):∀(xs:List V) (us:List Value) (ds:List PyData),d7 (rd f m) xs=some ds->VRs W s.heap io xs us->(∃as,ReadsAll s.heap us ds as) /\ PyData.canLayAll0 ds=true /\ PyData.depthAll ds <= f
 |[],us,ds,h,k=>by
  rw[k];have h:some []=some ds:=h
  (refine aF h λz1=>?_;clear h;rw[<- z1])
  exact⟨⟨_,.nil⟩,rfl,by simp[PyData.depthAll]⟩
 |x::xs,us,ds,h,k=>by
  refine e2a3 (aL2 h) λd r zz1=>?_;subst zz1;intro h1 h2;refine VRs.dCons k λy_ y_ k1 k2=>?_
  ·
   refine hide λG_ g_=>?_;obtain⟨⟨as,r1⟩,c1,d1⟩:=one x _ d h1 k1;obtain⟨⟨bs,r2⟩,c2,d2⟩:=dI one xs _ r h2 k2;refine g_ ?_;clear g_ G_;exact⟨⟨_,.cons r1 r2⟩,by simp[PyData.canLayAll0,c1,c2],by simp only[PyData.depthAll];exact Nat.max_le.mpr ⟨d1,d2⟩⟩
set_option tactic.hygienic true in
theorem bG(H:HR W s.heap io m):∀(f:Nat) (v:V) (u:Value) (d:PyData),rd f m v=some d->VR W s.heap io v u->(∃as,Reads s.heap u d as) /\ d.canLay0=true /\ d.depth <= f
 |0,_,_,_,h,_=>nomatch (show none=some _ from h)
 |f+1,v,u,d,h,k=>by
  induction k using VR.elim with
  |none=>have h:some PyData.none=some d:=h;(refine aF h λz1=>?_;clear h;subst z1);exact⟨⟨_,.none⟩,rfl,by simp[PyData.depth]⟩
  |bool b=>have h:some (PyData.bool b)=some d:=h;(refine aF h λz1=>?_;clear h;rw[<- z1]);exact⟨⟨_,.bool b⟩,rfl,by simp[PyData.depth]⟩
  |int i t=>have h:some (PyData.int i)=some d:=h;(refine aF h λz1=>?_;clear h;rw[<- z1]);exact⟨⟨_,.int i t⟩,rfl,by simp[PyData.depth]⟩
  |str x t ok=>have h:some (PyData.str x)=some d:=h;(refine aF h λz1=>?_;clear h;rw[<- z1]);exact⟨⟨_,.str x t⟩,by simpa [PyData.canLay0]using ok,by simp[PyData.depth]⟩
  |tup h1 h4=>
   have h:=Option.map_eq_some_iff.mp (show(d7 (rd f m) _).map PyData.tuple=some d from h);refine hide λG_ g_=>?_;refine e1a2 h λds hds zz1=>?_;subst zz1;obtain⟨⟨as,hr⟩,hc,hd⟩:=dI (bG H f) _ _ ds hds h4;refine g_ ?_;clear g_ G_;exact⟨⟨_,.tuple h1 rfl rfl hr⟩,by simpa [PyData.canLay0]using hc,by simp only[PyData.depth];lia⟩
  |ref h1=>
   rename_i k a d';have h:(match m[k]? with | some (.list xs)=>(d7 (rd f m) xs).map PyData.list | _=>none)=some d:=h
   cases hx:m[k]? with
   |none=>rw[hx]at h;injection h
   |some ob=>
    rw[hx]at h
    cases ob with
    |list xs=>
     have h:=Option.map_eq_some_iff.mp (show(d7 (rd f m) xs).map PyData.list=some d from h);refine hide λG_ g_=>?_;refine e1a2 h λds hds zz1=>?_;subst zz1;obtain⟨y_,vs,n',g1,g4,y_⟩:=H.obj _ _ _ h1 hx;obtain⟨⟨as,hr⟩,hc,hd⟩:=dI (bG H f) _ _ ds hds g4;refine g_ ?_;clear g_ G_;exact⟨⟨_,.list g1 rfl rfl hr⟩,by simpa [PyData.canLay0]using hc,by simp only[PyData.depth];lia⟩
    |_=>injection h
  |fn k=>exact nomatch (show none=some d from h)
  |exc y_ y_ y_=>exact nomatch (show none=some d from h)
  |scr y_ y_ y_ y_ y_=>exact nomatch (show none=some d from h)
noncomputable abbrev BV:Heap->Io->Bool->Value->Prop:=λy_ y_ b u=>u=.bool b
theorem bB0(k:Nat):((k:Int) != 0)=(k != 0):=by
 rw[Bool.eq_iff_iff];simp
theorem bH9{vs:Array Value}(e:vs.toList.length=xs.length):(!vs.isEmpty)=!xs.isEmpty:=by
 rw[Array.length_toList]at e
 cases xs with
 |nil=>have:vs=#[]:=Array.eq_empty_of_size_eq_zero e;rw[this];rfl
 |cons x xs=>
  have:vs.isEmpty=false:=by
   rw[Array.isEmpty_eq_false_iff];intro q;subst q;simp at e
  rw[this];rfl
set_option tactic.hygienic true in
theorem aH9(H:HR W s.heap io m){v:V}{u:Value}(k:VR W s.heap io v u):Si W own A fs BP (truthy u) s io m (eY v m):=by
 induction k using VR.elim with
 |none=>exact λy_=>wpAny_pure (a:=false) ⟨false,m,io,rfl,.refl,H,rfl,.refl _⟩
 |bool b=>exact λy_=>wpAny_truthy_bool ⟨b,m,io,rfl,.refl,H,rfl,.refl _⟩
 |int i t=>exact λy_=>P.truthy_int ⟨_,m,io,rfl,.refl,H,rfl,.refl _⟩
 |str x t ok=>
  simp only[eY]
  split
  ·rename_i hl
   exact λy_=>P.truthy_str (by rw[bG6]at hl;lia) ⟨_,m,io,rfl,.refl,H,(bB0 _).symm,rfl,rfl⟩
  ·exact Si.bad
 |tup h1 h4=>
  simp only[eY]
  split
  ·rename_i hl
   have e:=h4.length;exact λy_=>PyProof.Rows.truthy_tuple ⟨_,h1,rfl,_,rfl⟩ (by rw[bG6]at hl;rw[Array.length_toList]at e;lia) ⟨_,m,io,rfl,.refl,H,(bH9 e).symm,rfl,rfl⟩
  ·exact Si.bad
 |ref h1=>
  simp only[eY]
  split
  ·rename_i xs hx
   obtain⟨y_,vs,n',g1,g4,g5⟩:=H.obj _ _ _ h1 hx;have e:=g4.length;exact λy_=>wpAny_truthy_list ⟨_,g1,rfl,_,rfl⟩ (by rw[bG6]at g5;rw[Array.length_toList]at e;lia) ⟨_,m,io,rfl,.refl,H,(bH9 e).symm,rfl,rfl⟩
  ·exact Si.bad
 |fn k=>exact Si.bad
 |exc y_ y_ y_=>exact Si.bad
 |scr y_ y_ y_ y_ y_=>exact Si.bad
theorem aM(o:Obj):∀b o',h.get? b=some o'->(h.push o).get? b=some o':=λy_ y_ e=>Heap.get?_push_of_some o e
theorem aO(h:Heap):h.get? h.objs.size=none:=by
 cases q:h.get? h.objs.size with
 |none=>rfl
 |some o=>exact absurd (Heap.lt_size q) (Nat.lt_irrefl _)
theorem aR3(H:HR W s.heap io m){vs:Array Value}{xs:List V}{k tk:Nat}(hv:VRs W s.heap io xs vs.toList)(hl:xs.length <= lid):
  NP W own fr s io m (VP W) (alloc (.list xs) m) (.ref s.heap.objs.size) { s with heap:=s.heap.push (eZ vs k),toks:=tk }:=by
 have st:Step own fr s.heap io m (s.heap.push (eZ vs k)) (io++[(s.heap.objs.size,s.heap.objs.size)]) (m++[.list xs]):=eB H (aM _) (aO _) (aO _);refine⟨_,_,_,rfl,st,H.alloc (aM _) (aO _) (aO _) ⟨rfl,vs,k,Heap.get?_push_size _ rfl,hv.step st,hl⟩,.ref (d:=s.heap.objs.size) ?_,rfl,rfl⟩;rw[<- H.len];simp
theorem dI1(H:HR W s.heap io m){vs:Array Value}{xs:List V}{k tk:Nat}(hv:VRs W s.heap io xs vs.toList):
  NP W own fr s io m (VP W) (.ok (.tup xs) m) (.ref s.heap.objs.size) { s with heap:=s.heap.push (dD0 vs k),toks:=tk }:=by
 have st:Step own fr s.heap io m (s.heap.push (dD0 vs k)) io m:=.of_keeps H (aM _);exact⟨_,_,_,rfl,st,H.of_keeps (aM _),.tup (Heap.get?_push_size _ rfl) (hv.step st),rfl,rfl⟩
theorem bR(H:HR W s.heap io m){v:V}{u:Value}{tk:Nat}(hv:VR W s.heap io v u):NP W own fr s io m (VP W) (.ok v m) u { s with toks:=tk }:=
 ⟨v,m,io,rfl,.refl,H,hv,rfl,rfl⟩
theorem cW4(H:HR W s.heap io m){k tk:Nat}:
  NP W own fr s io m (VP W) (alloc (.dict [] 0) m) (.ref s.heap.objs.size) { s with heap:=s.heap.push (dL8 [] k),toks:=tk }:=by
 have st:Step own fr s.heap io m (s.heap.push (dL8 [] k)) (io++[(s.heap.objs.size,s.heap.objs.size)]) (m++[.dict [] 0]):=eB H (aM _) (aO _) (aO _);refine⟨_,_,_,rfl,st,H.alloc (aM _) (aO _) (aO _) ⟨rfl,_,_,k,Heap.get?_push_size _ rfl,⟨rfl,rfl,rfl⟩,rfl,.nil,.nil,by simp[lid]⟩,.ref (d:=s.heap.objs.size) ?_,rfl,rfl⟩;rw[<- H.len];simp
theorem fB{x y:Str}(hx:PyData.strOk x=true)(hy:PyData.strOk y=true):PyData.strOk (x++y)=true:=by
 unfold PyData.strOk at *;rw[Str.cps_append];simp only[Array.all_append,hx,hy,Bool.and_self]
theorem aL{k:Nat}(h:k <= lid):k <= sizeLine:=by rw[bG6]at h;show k <= 2 ^ 24;lia
set_option tactic.hygienic true in
theorem aP4(h:i.natAbs < 1073741824):Builtin.Int.intBits i <= 64:=by
 unfold Builtin.Int.intBits
 split
 ·lia
 ·rename_i h0
  have h1:i.natAbs≠0:=by
   intro q;have:i=0:=by lia
   subst this;simp at h0
  have:=(Nat.log2_lt h1 (k:=30)).mpr (by lia);lia
theorem cA7{Pr:Operator->V->V->Prop}(a1:∀i j,Pr .Add (.int i) (.int j))(a2:∀i j,Pr .Sub (.int i) (.int j))(a3:∀i j,Pr .Mult (.int i) (.int j))(a4:∀i j,Pr .FloorDiv (.int i) (.int j))(a5:∀i j,Pr .Mod (.int i) (.int j))(a6:∀x y,Pr .Add (.str x) (.str y))(a8:∀p q,Pr .Add (.ref p) (.ref q))(bad:∀op a b,cA8 op a b=(λy_=>.bad)->Pr op a b)(op:Operator)(a b:V):Pr op a b:=by
 cases (op) <;> first | (exact bad _ _ _ rfl) | skip
 all_goals cases (a) <;> first | (exact bad _ _ _ rfl) | skip
 all_goals cases (b) <;> first | (exact a1 _ _) | (exact a2 _ _) | (exact a3 _ _) | (exact a4 _ _) | (exact a5 _ _) | (exact a6 _ _) | (exact a8 _ _) | (exact bad _ _ _ rfl)
set_option tactic.hygienic true in
theorem dB8(H:HR W s.heap io m){op:Operator}{v x:V}{u y:Value}(k:VR W s.heap io v u)(l:VR W s.heap io x y):
  Si W own A fs (VP W) (binaryOp op u y) s io m (cA8 op v x m):=by
 revert k l
 refine cA7 (Pr:=λop v x=>VR W s.heap io v u->VR W s.heap io x y->Si W own A fs (VP W) (binaryOp op u y) s io m (cA8 op v x m)) ?_ ?_ ?_ ?_ ?_ ?_ ?_ ?_ op v x
 ·intro i j k l;refine VR.dInt k λy_=>?_;refine VR.dInt l λy_=>?_;exact λy_=>P.add_int (bR H (.int _ _))
 ·intro i j k l;refine VR.dInt k λy_=>?_;refine VR.dInt l λy_=>?_;exact λy_=>P.sub_int (bR H (.int _ _))
 ·intro i j k l;refine VR.dInt k λy_=>?_;refine VR.dInt l λy_=>?_
  show Si W own A fs (VP W) _ s io m (if i.natAbs < 1073741824 \/ j.natAbs < 1073741824 then .ok (.int (i * j)) m else .bad)
  split
  ·rename_i hc
   intro y_;refine P.mul_int (bR H (.int _ _)) ?_;rcases hc with hc | hc
   ·exact IntMulOk.of_left (aP4 hc)
   ·exact IntMulOk.of_right (aP4 hc)
  ·exact Si.bad
 ·intro i j k l;refine VR.dInt k λy_=>?_;refine VR.dInt l λy_=>?_
  show Si W own A fs (VP W) _ s io m (if 0 < j /\ j.natAbs < 1073741824 then .ok (.int (i / j)) m else .bad)
  split
  ·rename_i hj
   rw[<- Int.fdiv_eq_ediv_of_nonneg _ (Int.le_of_lt hj.1)];exact λy_=>PyProof.Rows.floordiv_int (Int.ne_of_gt hj.1) (bR H (.int _ _)) (.inl (PyProof.noPylong_small hj.2))
  ·exact Si.bad
 ·intro i j k l;refine VR.dInt k λy_=>?_;refine VR.dInt l λy_=>?_
  show Si W own A fs (VP W) _ s io m (if 0 < j then .ok (.int (i % j)) m else .bad)
  split
  ·rename_i hj
   rw[<- Int.fmod_eq_emod_of_nonneg _ (Int.le_of_lt hj)];exact λy_=>PyProof.Rows.mod_int (Int.ne_of_gt hj) (bR H (.int _ _))
  ·exact Si.bad
 ·intro x y k l
  refine VR.dStr k λy_ k1=>?_;refine VR.dStr l λy_ l1=>?_;show Si W own A fs (VP W) _ s io m (if x.length+y.length <= lid then .ok (.str (x++y)) m else .bad)
  split
  ·rename_i hl
   exact λy_=>PyProof.Rows.add_str (λt' tk=>bR H (.str _ _ (fB k1 l1))) (aL hl)
  ·exact Si.bad
 ·intro p q k l
  refine VR.dRef k λy_ y_ h1=>?_;refine VR.dRef l λy_ y_ g1=>?_;show Si W own A fs (VP W) _ s io m (match m[p]?,m[q]? with | some (.list x),some (.list y)=>if x.length+y.length <= lid then alloc (.list (x++y)) m else .bad | _,_=>.bad)
  split
  ·rename_i x y hx hy
   refine hide λG_ g_=>?_;obtain⟨y_,vs,n',a1,a4,a5⟩:=H.obj _ _ _ h1 hx;obtain⟨y_,ws,n2,b1,b4,b5⟩:=H.obj _ _ _ g1 hy;refine g_ ?_;clear g_ G_
   split
   ·rename_i hl
    have e1:=a4.length;have e2:=b4.length;rw[Array.length_toList]at e1 e2;exact λy_=>P.add_list a1 b1 (aR3 H (by rw[Array.toList_append];exact a4.append b4) (by simpa using hl)) (aL (by lia))
   ·exact Si.bad
  ·exact Si.bad
 ·intro op a b e k l;rw[e];exact Si.bad
theorem aB1(H:HR W s.heap io m){b:Bool}{tk:Nat}:NP W own fr s io m BV (.ok b m) (.bool b) { s with toks:=tk }:=⟨b,m,io,rfl,.refl,H,rfl,rfl,rfl⟩
theorem bA9{a:Value}(h:wpAny M A (compareOp .In a b) (λv s'=>∃c,v=.bool c /\ Q (.bool (!c)) s') E s):
  wpAny M A (compareOp .NotIn a b) Q E s:=by
 intro Γ p hΓ;have h1:=h Γ p hΓ;show Sem.wp M Γ (contains b a >>= λc=>pure (Value.bool (!c))) _ _ p s;have h2:Sem.wp M Γ (contains b a >>= λc=>pure (Value.bool c)) (λv y_ s'=>∃c,v=.bool c /\ Q (.bool (!c)) s') (λe y_ s'=>E e s') p s:=h1;rw[Sem.wp_bind']at h2 ⊢;refine Sem.wp_mono M Γ _ (λc p' s' h'=>?_) (λy_ y_ y_ x=>x) p s h2;refine e1a2 h' λc' e q=>?_
 cases (e)
 exact q
theorem bB6{a:Value}(h:wpAny M A (compareOp .Is a b) (λv s'=>∃c,v=.bool c /\ Q (.bool (!c)) s') E s):
  wpAny M A (compareOp .IsNot a b) Q E s:=by
 intro Γ p hΓ;have h1:=h Γ p hΓ;show Sem.wp M Γ (isSame a b >>= λc=>pure (Value.bool (!c))) _ _ p s;have h2:Sem.wp M Γ (isSame a b >>= λc=>pure (Value.bool c)) (λv y_ s'=>∃c,v=.bool c /\ Q (.bool (!c)) s') (λe y_ s'=>E e s') p s:=h1;rw[Sem.wp_bind']at h2 ⊢;refine Sem.wp_mono M Γ _ (λc p' s' h'=>?_) (λy_ y_ y_ x=>x) p s h2;refine e1a2 h' λc' e q=>?_
 cases (e)
 exact q
theorem Si.not{t':Sem Value}{R:Res Bool}(x:Si W own A fs BV t s io m R)(k:∀(E:Value->Shared->Prop) (Q:Value->Shared->Prop),wpAny (model W.prog W.w) A t (λv s'=>∃c,v=.bool c /\ Q (.bool (!c)) s') E s->wpAny (model W.prog W.w) A t' Q E s):Si W own A fs BV t' s io m (R.bind λc=>ret (!c)):=by
 intro hne;refine k _ _ (wpAny_mono (x (Res.bind_ne hne)) (λu s' p=>?_) λe s' p=>p.bind .refl (.refl _));obtain⟨v,m',io',rfl,a1,a2,a3,a4⟩:=p;exact⟨v,a3,_,m',io',rfl,a1,a2,rfl,a4⟩
theorem cS0{v:V}:VR W h io v u->(u == .none)=(match v with | .none=>true | _=>false):=λk=>by
 induction k using VR.elim <;> rfl
theorem bO3{v:V}(b:Bool):VR W h io v u->isSame u (.bool b)=pure (u == .bool b) /\ (u == .bool b)=(match v with | .bool d=>d == b | _=>false):=λk=>by
 induction k using VR.elim with
 |bool c=>cases (c) <;> cases (b) <;> exact⟨rfl,rfl⟩
 |_=>exact⟨rfl,rfl⟩
set_option tactic.hygienic true in
theorem cO4(H:HR W s.heap io m){v x:V}{u y:Value}(k:VR W s.heap io v u)(l:VR W s.heap io x y):Si W own A fs BV (compareOp .Is u y) s io m (isV v x m):=by
 unfold isV
 split
 ·subst l
  intro y_;show wpAny _ _ (isSame u .none >>= λc=>pure (Value.bool c)) _ _ s;rw[isSame_none];refine wpAny_pure ?_;exact⟨_,m,io,rfl,.refl,H,congrArg Value.bool (cS0 k),rfl,rfl⟩
 ·rename_i b
  subst l;intro y_;show wpAny _ _ (isSame u (.bool b) >>= λc=>pure (Value.bool c)) _ _ s;rw[(bO3 b k).1];refine wpAny_pure ?_;exact⟨_,m,io,rfl,.refl,H,congrArg Value.bool (bO3 b k).2,rfl,rfl⟩
 ·exact Si.bad
end
end Mini.Internal
variable{b:Bool}
namespace Mini.Internal
open PySem
noncomputable def aF5:Sum Int Str->Value->Bool
 |.inl i,v=>Value.isInt i v
 |.inr x,v=>Value.isStrOf x v
theorem bZ{k:Sum Int Str}{v:Value}(h:aF5 k v=true):(∃i t,k=.inl i /\ v=.int i t) \/ (∃x t,k=.inr x /\ v=.str x t):=by
 cases k with
 |inl j=>refine e1a1 (Value.isInt_shape (k:=j) (v:=v) h) λu e=>?_;exact .inl ⟨j,u,rfl,e⟩
 |inr x=>refine e1a1 (Value.isStrOf_shape (x:=x) (v:=v) h) λu e=>?_;exact .inr ⟨x,u,rfl,e⟩
theorem bK6{a b:Sum Int Str}{v:Value}{Q:Bool->Shared->Prop}(hu:aF5 a u=true)(hv:aF5 b v=true)(h:Q (decide (a=b)) s):
  wpAny (model prog w) A (PySem.eqBool u v) Q E s:=by
 rcases bZ hu with⟨i,t,rfl,rfl⟩ | ⟨x,t,rfl,rfl⟩ <;> rcases bZ hv with⟨j,t',rfl,rfl⟩ | ⟨y,t',rfl,rfl⟩
 ·have e:decide (Sum.inl (β:=Str) i=.inl j)=(i == j):=by
   by_cases q:i=j <;> simp[q]
  rw[e]at h;exact wpAny_eqBool_int h
 ·have e:decide (Sum.inl (β:=Str) i=.inr y)=false:=by simp
  rw[e]at h;exact wpAny_bind (EqMixed.eq_int_str (wpAny_truthy_bool h))
 ·have e:decide (Sum.inr (α:=Int) x=.inl j)=false:=by simp
  rw[e]at h;exact wpAny_bind (EqMixed.eq_str_int (wpAny_truthy_bool h))
 ·have e:decide (Sum.inr (α:=Int) x=.inr y)=decide (x=y):=by
   by_cases q:x=y <;> simp[q]
  rw[e]at h;exact wpAny_eqBool_str h
theorem cH8{k:Sum Int Str}{v:Value}{Q:Int->Shared->Prop}(hv:aF5 k v=true)(h:Q (cB8 w k) { s with toks:=s.toks+1 }):
  wpAny (model prog w) A (PySem.pyHash v) Q E s:=by
 rcases bZ hv with⟨i,t,rfl,rfl⟩ | ⟨x,t,rfl,rfl⟩
 ·exact wpAny_pyHash_int h
 ·exact wpAny_pyHash_str h
theorem cX1(v:Value)(a b:Sum Int Str)(ha:aF5 a v=true)(hb:aF5 b v=true):a=b:=by
 rcases bZ ha with⟨i,t,rfl,rfl⟩ | ⟨x,t,rfl,rfl⟩ <;> rcases bZ hb with⟨j,u,rfl,e⟩ | ⟨y,u,rfl,e⟩ <;> (first|(injection e;done)|cases (e)) <;> rfl
theorem bB1(k:Sum Int Str)(v:Value)(h:aF5 k v=true):carriedByValue v=true:=by
 rcases bZ h with⟨i,t,rfl,rfl⟩ | ⟨x,t,rfl,rfl⟩ <;> rfl
theorem cH7(k:Sum Int Str)(x:Str)(t:Tok)(v:Value)(h:aF5 k (.str x t)=true):aF5 k v=v.isStr x:=by
 rcases bZ h with⟨i,u,rfl,e⟩ | ⟨y,u,rfl,e⟩
 ·injection e
 ·cases (e);cases (v) <;> rfl
noncomputable def aJ1(prog:Program)(w:World):KeyKind prog w (Sum Int Str) where
 is:=aF5
 hash:=cB8 w
 inj:=cX1
 byValue:=bB1
 pyHash:=cH8
 eqBool:=bK6
 «strs»:=cH7
section
theorem bB5(x:VRs W h io (ks.map λx=>match x with | .inl i=>V.int i | .inr s=>V.str s) vs):ItemsAre (aJ1 W.prog W.w) ks vs:=by
 induction ks generalizing vs with
 |nil=>rw[x];exact .nil
 |cons k ks ih=>
  refine VRs.dCons x λy_ y_ h1 r=>?_
  ·
   refine .cons ?_ (ih r)
   cases k with
   |inl i=>refine VR.dInt h1 λy_=>?_;simp[aJ1,aF5,Value.isInt]
   |inr s=>refine VR.dStr h1 λy_ y_=>?_;simp[aJ1,aF5,Value.isStrOf]
theorem aB7(x:VR W h io (Ky.tup ks).val u):∃a,u=.ref a /\ IsTupleKey (aJ1 W.prog W.w) h ks a:=by
 refine VR.dTup x λy_ y_ y_ h1 h2=>?_
 ·exact⟨_,rfl,_,_,_,h1,rfl,rfl,bB5 h2⟩
section
variable{K:Type}[DecidableEq K](knd:KeyKind W.prog W.w K)(emb:K->Ky)
structure Emb:Prop where
 inj:∀a b,emb a=emb b->a=b
 is:∀{h:Heap} {io:Io} k u,VR W h io (emb k).val u->knd.is k u=true
 hash:∀k,bG8 W.w (emb k)=knd.hash k
 back:∀{h h':Heap} {io:Io} k u,VR W h io (emb k).val u->VR W h' io (emb k).val u
variable{knd emb}
theorem ERs.keysOf(E:Emb knd emb){kvs:List (Ky×V)}{es:List DictEntry}(x:ERs W h io kvs es)(hk:∀p∈kvs,∃k,p.1=emb k):∀e∈es,∃k,knd.is k e.key=true /\ e.hash=knd.hash k:=by
 induction x using ERs.ind with
 |nil=>intro e he;cases (he)
 |cons h1 h2 y_ ih=>
  intro e he
  cases he with
  |head=>
   refine e1a1 (hk _ (.head _)) λk e=>?_;simp only at e;subst e;exact⟨k,E.is k _ h1,E.hash k⟩
  |tail y_ he=>exact ih (λp hp=>hk p (.tail _ hp)) e he
theorem ERs.find(E:Emb knd emb){kvs:List (Ky×V)}{es:List DictEntry}(x:ERs W h io kvs es)(hk:∀p∈kvs,∃k,p.1=emb k)(k:K):
  (∃v u,look (emb k) kvs=some v /\ (es.find? λe=>knd.is k e.key).map (·.val)=some u /\ VR W h io v u) \/ (look (emb k) kvs=none /\ (es.find? λe=>knd.is k e.key).map (·.val)=none):=by
 induction x using ERs.ind with
 |nil=>exact .inr ⟨rfl,rfl⟩
 | @cons k' v key u kvs es h1 h2 y_ ih=>
  refine e1a1 (hk _ (.head _)) λj e=>?_;simp only at e;subst e;have hj:=E.is j _ h1;by_cases q:j=k
  ·rw[<- q]
   exact .inl ⟨v,u,by simp[look],by simp[List.find?,hj],h2⟩
  ·have n1:¬emb j=emb k:=λz=>q (E.inj _ _ z)
   have n2:knd.is k key=false:=by
    cases z:knd.is k key with
    |false=>rfl
    |true=>exact absurd (knd.inj _ _ _ hj z) q
   simp only[look,n1,if_false,List.find?_cons,n2];exact ih λp hp=>hk p (.tail _ hp)
theorem ERs.mapOf(E:Emb knd emb){kvs:List (Ky×V)}{a:Addr}{o:Obj}{es:Array DictEntry}{n:Nat}(h1:h.get? a=some o)(h2:o.ExactDict)(h3:o.data=.dict es n)(x:ERs W h io kvs es.toList)(hk:∀p∈kvs,∃k,p.1=emb k):
  h.MapOf knd a (findBy knd.is es):=⟨o,es,n,h1,h2,h3,λe he=>x.keysOf E hk e (Array.mem_toList_iff.mpr he),λy_=>rfl⟩
theorem ERs.findBy(E:Emb knd emb){kvs:List (Ky×V)}{es:Array DictEntry}(x:ERs W h io kvs es.toList)(hk:∀p∈kvs,∃k,p.1=emb k)(k:K):
  (∃v u,look (emb k) kvs=some v /\ findBy knd.is es k=some u /\ VR W h io v u) \/ (look (emb k) kvs=none /\ PySem.findBy knd.is es k=none):=by
 have:=x.find E hk k;unfold PySem.findBy;rcases es with⟨l⟩
 rw[List.find?_toArray];exact this
theorem ERs.pairs(E:Emb knd emb){kvs:List (Ky×V)}{es:List DictEntry}(x:ERs W h io kvs es)(hk:∀p∈kvs,∃k,p.1=emb k):
  ∃l:List (K×Value),Pairs knd es l /\ l.map (λp=>emb p.1)=kvs.map (·.1) /\ VRs W h io (kvs.map (·.2)) (l.map (·.2)):=by
 induction x using ERs.ind with
 |nil=>exact⟨[],.nil,rfl,.nil⟩
 | @cons k' v key u kvs es h1 h2 y_ ih=>
  refine e1a1 (hk _ (.head _)) λj e=>?_;simp only at e;subst e;refine e1a3 (ih λp hp=>hk p (.tail _ hp)) λl p1 p2 p3=>?_;exact⟨(j,u)::l,.cons (E.is j _ h1) rfl p1,by simp[p2],.cons h2 p3⟩
end
set_option tactic.hygienic true in
theorem c9{v:V}:∀{kvs:List (Ky×V)},look k kvs=none->put k v kvs=kvs++[(k,v)]
 |[],_=>rfl
 |(k',v')::r,h=>by
  simp only[look]at h
  split at h
  ·injection h
  ·rename_i q
   simp only[put,q,if_false,List.cons_append,c9 h]
set_option tactic.hygienic true in
theorem aW1:∀{kvs:List (Ky×V)},look k kvs=none->∀p∈kvs,p.1≠k
 |[],_,_,hp=>nomatch hp
 |(k',v')::r,h,p,hp=>by
  simp only[look]at h
  split at h
  ·injection h
  ·rename_i q
   cases hp with
   |head=>exact q
   |tail y_ hp=>exact aW1 h p hp
set_option tactic.hygienic true in
theorem cZ{v:V}:∀{kvs:List (Ky×V)} {u:V},look k kvs=some u->(kvs.map (·.1)).Nodup->put k v kvs=kvs.map λp=>if p.1=k then(p.1,v)else p
 |[],_,h,_=>by simp[look]at h
 |(k',v')::r,u,h,hn=>by
  simp only[List.map_cons,List.nodup_cons]at hn;simp only[look]at h
  split at h
  ·rename_i q
   subst q;simp only[put,if_true,List.map_cons]
   congr 1
   have e:∀p∈r,(if p.1=k' then(p.1,v)else p)=p:=λp hp=>by
    rw[if_neg];intro z;exact hn.1 (z▸List.mem_map_of_mem hp)
   rw[List.map_congr_left e,List.map_id']
  ·rename_i q
   simp only[put,q,if_false,List.map_cons,cZ h hn.2]
theorem aR1{v:V}(hn:(kvs.map (·.1)).Nodup):((put k v kvs).map (·.1)).Nodup:=by
 cases h:look k kvs with
 |none=>
  rw[c9 h,List.map_append];refine List.nodup_append.mpr ⟨hn,by simp,?_⟩;intro x hx y hy e;refine e1a2 (List.mem_map.mp hx) λp hp zz1=>?_;subst zz1;simp at hy;subst hy;exact aW1 h p hp e
 |some u=>
  rw[cZ h hn,List.map_map];have e:((λx:Ky×V=>x.1) ∘ λp:Ky×V=>if p.1=k then(p.1,v)else p)=λp=>p.1:=by
   funext p;simp only[Function.comp];split <;> rfl
  rw[e];exact hn
theorem aN8{v:V}:∀(kvs:List (Ky×V)),(put k v kvs).length <= kvs.length+1
 |[]=>by simp[put]
 |(k',v')::r=>by
  simp only[put]
  split
  ·simp
  ·simpa using aN8 r
theorem aI0(h:dP x=some k):k.val=x:=by
 cases x with
 |int i=>simp[dP]at h;subst h;rfl
 |str i=>simp[dP]at h;subst h;rfl
 |tup xs=>
  simp only[dP,Option.map_eq_some_iff]at h;obtain⟨ks,hks,rfl⟩:=h;refine congrArg V.tup ?_
  induction xs generalizing ks with
  |nil=>have hks:some []=some _:=hks;(refine aF hks λz1=>?_;clear hks;subst z1);rfl
  |cons x xs ih=>
   refine e2a3 (aL2 hks) λd r zz1=>?_;subst zz1;intro h1 h2;simp only[List.map_cons,List.cons.injEq];refine⟨?_,ih r h2⟩
   cases (x) <;> simp[atom]at h1 <;> rw[<- h1] <;> rfl
 |_=>simp[dP]at h
theorem aA5(h:aN k kvs=true):∀p∈kvs,p.1.sort=k.sort:=λp hp=>by
 have:=List.all_eq_true.mp h p hp;simpa using this
theorem intEmb:Emb (W:=W) (intKind W.prog W.w) Ky.int where
 inj:=λa b e=>dD2 e
 is:=λk u x=>by refine VR.dInt x λy_=>?_;simp[intKind,Value.isInt]
 hash:=λy_=>rfl
 back:=λk u x=>by refine VR.dInt x λy_=>?_;exact .int _ _
theorem strEmb:Emb (W:=W) (strKind W.prog W.w) Ky.str where
 inj:=λa b e=>ky_s e
 is:=λk u x=>by refine VR.dStr x λy_ y_=>?_;simp[strKind,Value.isStrOf]
 hash:=λy_=>rfl
 back:=λk u x=>by refine VR.dStr x λy_ ok=>?_;exact .str _ _ ok
theorem aB9(h:aN (.int i) kvs=true):∀p∈kvs,∃k,p.1=Ky.int k:=λp hp=>by
 have:=aA5 h p hp
 cases q:p.1 with
 |int k=>exact⟨k,rfl⟩
 |_=>rw[q]at this;simp[Ky.sort]at this
theorem aQ5{i:Str}(h:aN (.str i) kvs=true):∀p∈kvs,∃k,p.1=Ky.str k:=λp hp=>by
 have:=aA5 h p hp
 cases q:p.1 with
 |str k=>exact⟨k,rfl⟩
 |_=>rw[q]at this;simp[Ky.sort]at this
theorem aQ4{i:List (Sum Int Str)}(h:aN (.tup i) kvs=true):∀p∈kvs,∃k,p.1=Ky.tup k:=λp hp=>by
 have:=aA5 h p hp
 cases q:p.1 with
 |tup k=>exact⟨k,rfl⟩
 |_=>rw[q]at this;simp[Ky.sort]at this
noncomputable abbrev TK:=List (Sum Int Str)×Addr×Value
noncomputable abbrev tkd(W:Wd):=tupleKind (aJ1 W.prog W.w)
theorem ERs.heapKeys(x:ERs W h io kvs es)(hk:∀p∈kvs,∃k,p.1=Ky.tup k):
  ∃l:List TK,es=l.map (entryOfKey (tkd W)) /\ (∀y∈l,(tkd W).is h y.1 y.2.1) /\ l.map (λp=>Ky.tup p.1)=kvs.map (·.1) /\ VRs W h io (kvs.map (·.2)) (l.map (·.2.2)) /\ (∀y∈l,VR W h io (Ky.tup y.1).val (.ref y.2.1)):=by
 induction x using ERs.ind with
 |nil=>exact⟨[],rfl,(λy_ h=>nomatch h),rfl,.nil,λy_ h=>nomatch h⟩
 | @cons k' v key u kvs es h1 h2 y_ ih=>
  refine e1a1 (hk _ (.head _)) λj e=>?_;simp only at e;subst e;refine hide λG_ g_=>?_;refine e1a5 (ih λp hp=>hk p (.tail _ hp)) λl p1 p2 p3 p4 p5=>?_;refine e1a2 (aB7 h1) λa zz1=>?_;subst zz1;intro ka;refine g_ ?_;clear g_ G_;refine⟨(j,a,u)::l,by rw[p1];rfl,λy hy=>?_,by simp[p3],.cons h2 p4,λy hy=>?_⟩
  ·cases hy with
   |head=>exact ka
   |tail y_ hy=>exact p2 y hy
  ·cases hy with
   |head=>exact h1
   |tail y_ hy=>exact p5 y hy
theorem fS{k:List (Sum Int Str)}:∀{l:List TK} {kvs:List (Ky×V)},l.map (λp=>Ky.tup p.1)=kvs.map (·.1)->VRs W h io (kvs.map (·.2)) (l.map (·.2.2)) ->
  (∃v a u,look (.tup k) kvs=some v /\ atKey l k=some (a,u) /\ VR W h io v u) \/ (look (.tup k) kvs=none /\ atKey l k=none)
 |[],kvs,e,_=>by
  have:kvs=[]:=by cases kvs with | nil=>rfl | cons=>simp at e
  subst this;exact .inr ⟨rfl,rfl⟩
 |(j,a,u)::l,kvs,e,x=>by
  cases kvs with
  |nil=>simp at e
  |cons q kvs=>
   obtain⟨k',v⟩:=q;simp only[List.map_cons,List.cons.injEq]at e;refine e0a2 e λe1 e2=>?_;rw[<- e1];refine e0a2 (VRs.cc x) λx1 x2=>?_
   ·
    by_cases z:j=k
    ·subst z
     exact .inl ⟨v,a,u,by simp[look],by simp[atKey],x1⟩
    ·have z':¬Ky.tup j=Ky.tup k:=λw=>z (ky_t w)
     simp only[look,z',if_false];have:atKey ((j,a,u)::l) k=atKey l k:=by simp[atKey,z]
     rw[this];exact fS e2 x2
theorem fG{l:List TK}(e:l.map (λp=>Ky.tup p.1)=kvs.map (·.1))(hn:(kvs.map (·.1)).Nodup):(l.map (·.1)).Nodup:=by
 rw[<- e]at hn;have:(l.map (·.1)).map Ky.tup=l.map λp=>Ky.tup p.1:=by rw[List.map_map];rfl
 rw[<- this]at hn;exact List.Pairwise.of_map Ky.tup (λa b h e=>h (congrArg _ e)) hn
end
structure WOk(W:Wd):Prop where
 sys:∃o,W.base.get? sysModules=some o
 nolimit:W.base.NoLimit
section
variable{own:List Addr}
theorem HR.notSys(ok:WOk W)(H:HR W s.heap io m){b:Addr}(f:dA io b):(b == sysModules)=false:=by
 have h1:=H.fresh b f;refine e1a1 ok.sys λo ho=>?_
 cases q:b == sysModules with
 |false=>rfl
 |true=>rw[beq_iff_eq.mp q,ho]at h1;injection h1
theorem cY9(ok:WOk W)(H:HR W s.heap io m)(R:AR A fs n){i:Nat}{p:Addr×Addr}{kvs:List (Ky×V)}{e:Nat}(hi:io[i]?=some p)(hm:m[i]?=some (.dict kvs e)){x:V}{u:Value}(hx:VR W s.heap io x u){k:Ky}(hk:dP x=some k)(hs:aN k kvs=true)(h:∀tk,Q (.bool (look k kvs).isSome) { s with toks:=tk }):wpAny (model W.prog W.w) A (compareOp .In u (.ref p.1)) Q E s:=by
 obtain⟨y_,o,es,n',g1,g2,g3,g4,g5,y_⟩:=H.obj _ _ _ hi hm;have ns:=H.notSys ok ⟨p,List.mem_of_getElem? hi,.inl rfl⟩;have hv:=aI0 hk;subst hv
 cases k with
 |int j=>
  have hh:=aB9 hs;refine wpAny_in_of (intEmb.is j u hx) ns (g4.mapOf intEmb g1 g2 g3 hh) ?_;rcases g4.findBy intEmb hh j with⟨v,u',e1,e2,_⟩ | ⟨e1,e2⟩
  ·rw[e2];have:=h (s.toks+1);rw[e1]at this;exact this
  ·rw[e2];have:=h (s.toks+1);rw[e1]at this;exact this
 |str j=>
  have hh:=aQ5 hs;refine wpAny_in_of (strEmb.is j u hx) ns (g4.mapOf strEmb g1 g2 g3 hh) ?_;rcases g4.findBy strEmb hh j with⟨v,u',e1,e2,_⟩ | ⟨e1,e2⟩
  ·rw[e2];have:=h (s.toks+1);rw[e1]at this;exact this
  ·rw[e2];have:=h (s.toks+1);rw[e1]at this;exact this
 |tup j=>
  have hh:=aQ4 hs;refine hide λG_ g_=>?_;refine e1a5 (g4.heapKeys hh) λl p1 p2 p3 p4 p5=>?_;refine e1a2 (aB7 hx) λa zz1=>?_;subst zz1;intro ka;refine g_ ?_;clear g_ G_;refine wpAny_in_heap (knd:=tkd W) (xs:=l) (k:=j) (show A.in1.units < cLine by have:=R.cline;simp only[Around.in1_units];lia) ka ns ⟨o,es,n',g1,g2,g3,p1,p2,fG p3 g5⟩ ?_;rcases fS (k:=j) p3 p4 with⟨v,a',u',e1,e2,_⟩ | ⟨e1,e2⟩
  ·rw[e2];have:=h (s.toks+(tkd W).draws j);rw[e1]at this;exact this
  ·rw[e2];have:=h (s.toks+(tkd W).draws j);rw[e1]at this;exact this
theorem cK1(H:HR W s.heap io m)(R:AR A fs n){i:Nat}{p:Addr×Addr}{kvs:List (Ky×V)}{e:Nat}(hi:io[i]?=some p)(hm:m[i]?=some (.dict kvs e)){x:V}{u:Value}(hx:VR W s.heap io x u){k:Ky}(hk:dP x=some k)(hs:aN k kvs=true){v:V}(hl:look k kvs=some v)(h:∀u' tk,VR W s.heap io v u'->Q u' { s with toks:=tk }):wpAny (model W.prog W.w) A (getItem (.ref p.1) u) Q E s:=by
 obtain⟨y_,o,es,n',g1,g2,g3,g4,g5,y_⟩:=H.obj _ _ _ hi hm;have hv:=aI0 hk;subst hv
 cases k with
 |int j=>
  have hh:=aB9 hs;rcases g4.findBy intEmb hh j with⟨v',u',e1,e2,e3⟩ | ⟨e1,e2⟩
  ·rw[hl]at e1;(refine aF e1 λz1=>?_;clear e1;subst z1)
   exact wpAny_getItem_of (intEmb.is j u hx) (g4.mapOf intEmb g1 g2 g3 hh) e2 (h _ _ e3)
  ·rw[hl]at e1;injection e1
 |str j=>
  have hh:=aQ5 hs;rcases g4.findBy strEmb hh j with⟨v',u',e1,e2,e3⟩ | ⟨e1,e2⟩
  ·rw[hl]at e1;(refine aF e1 λz1=>?_;clear e1;subst z1)
   exact wpAny_getItem_of (strEmb.is j u hx) (g4.mapOf strEmb g1 g2 g3 hh) e2 (h _ _ e3)
  ·rw[hl]at e1;injection e1
 |tup j=>
  have hh:=aQ4 hs;refine hide λG_ g_=>?_;refine e1a5 (g4.heapKeys hh) λl p1 p2 p3 p4 p5=>?_;refine e1a2 (aB7 hx) λa zz1=>?_;subst zz1;intro ka;refine g_ ?_;clear g_ G_;rcases fS (k:=j) p3 p4 with⟨v',a',u',e1,e2,e3⟩ | ⟨e1,e2⟩
  ·rw[hl]at e1;(refine aF e1 λz1=>?_;clear e1;subst z1)
   exact wpAny_getItem_heap (knd:=tkd W) (xs:=l) (k:=j) (show A.in1.units < cLine by have:=R.cline;simp only[Around.in1_units];lia) ka ⟨o,es,n',g1,g2,g3,p1,p2,fG p3 g5⟩ e2 (h _ _ e3)
  ·rw[hl]at e1;injection e1
section
variable{K:Type}[DecidableEq K]{knd:KeyKind W.prog W.w K}{emb:K->Ky}
theorem ERs.of_pairs(E:Emb knd emb){es:List DictEntry}{l:List (K×Value)}{kvs:List (Ky×V)}(hk:∀e∈es,∃k,knd.is k e.key=true /\ e.hash=knd.hash k)(hp:Pairs knd es l)(e:kvs.map (·.1)=l.map (λp=>emb p.1))(x:VRs W h io (kvs.map (·.2)) (l.map (·.2)))(hv:∀k u,emb k∈kvs.map (·.1)->knd.is k u=true->VR W h io (emb k).val u):ERs W h io kvs es:=by
 induction hp generalizing kvs with
 |nil=>
  have:kvs=[]:=by cases kvs with | nil=>rfl | cons=>simp at e
  rw[this];exact .nil
 | @cons en kv es l p1 p2 p3 ih=>
  cases kvs with
  |nil=>simp at e
  |cons q kvs=>
   obtain⟨k',v⟩:=q;simp only[List.map_cons,List.cons.injEq]at e;refine e0a2 e λe1 e2=>?_;refine e1a2 (hk en (.head _)) λj j1 j2=>?_;have:j=kv.1:=knd.inj _ _ _ j1 p1;subst this;refine e0a2 (VRs.cc x) λx1 x2=>?_
   ·
    obtain⟨hs,ky,vl⟩:=en;simp only at j1 j2 p1 p2;subst j2 p2;subst e1;rw[<- E.hash];exact .cons (hv _ _ (by simp) p1) x1 (ih (λe he=>hk e (.tail _ he)) e2 x2 λk u hm hi=>hv k u (by simp only[List.map_cons,List.mem_cons];exact .inr hm) hi)
theorem dC4{l:List (K×Value)}(E:Emb knd emb)(e:kvs.map (·.1)=l.map λp=>emb p.1)(k:K):l.any (λkv=>decide (kv.1=k))=(look (emb k) kvs).isSome:=by
 induction l generalizing kvs with
 |nil=>
  have:kvs=[]:=by cases kvs with | nil=>rfl | cons=>simp at e
  rw[this];rfl
 |cons p l ih=>
  cases kvs with
  |nil=>simp at e
  |cons q kvs=>
   obtain⟨k',v⟩:=q;simp only[List.map_cons,List.cons.injEq]at e;refine e0a2 e λe1 e2=>?_;subst e1;by_cases z:p.1=k
   ·simp[z,look]
   ·have z':¬emb p.1=emb k:=λw=>z (E.inj _ _ w)
    simp only[List.any_cons,z,decide_false,Bool.false_or,look,z',if_false];exact ih e2
theorem aN2(E:Emb knd emb){l:List (K×Value)}{kvs:List (Ky×V)}(e:kvs.map (·.1)=l.map λp=>emb p.1)(x:VRs W h io (kvs.map (·.2)) (l.map (·.2)))(hn:(kvs.map (·.1)).Nodup)(k:K){v:V}{u:Value}(y:VR W h io v u):
  (put (emb k) v kvs).map (·.1)=(stored l k u).map (λp=>emb p.1) /\ VRs W h io ((put (emb k) v kvs).map (·.2)) ((stored l k u).map (·.2)):=by
 unfold stored;rw[dC4 E e k]
 cases q:look (emb k) kvs with
 |none=>
  rw[c9 q,if_neg (by simp)];exact⟨by simp[e],by simp only[List.map_append,List.map_cons,List.map_nil];exact x.snoc y⟩
 |some z=>
  rw[cZ q hn,if_pos (by rfl)];clear q hn
  induction l generalizing kvs with
  |nil=>
   have:kvs=[]:=by cases kvs with | nil=>rfl | cons=>simp at e
   rw[this];exact⟨rfl,.nil⟩
  |cons p l ih=>
   cases kvs with
   |nil=>simp at e
   |cons q kvs=>
    obtain⟨k',v'⟩:=q;simp only[List.map_cons,List.cons.injEq]at e;refine e0a2 e λe1 e2=>?_;rw[e1];refine e0a2 (VRs.cc x) λx1 x2=>?_
    ·
     refine e0a2 (ih e2 x2) λi1 i2=>?_;by_cases w:p.1=k
     ·have w':emb p.1=emb k:=by rw[w]
      simp only[List.map_cons,w,w',if_true];exact⟨by rw[i1],.cons y i2⟩
     ·have w':¬emb p.1=emb k:=λc=>w (E.inj _ _ c)
      simp only[List.map_cons,w,w',if_false];exact⟨by rw[i1],.cons x1 i2⟩
end
theorem eK{d:Addr}(hs:Heap.SameBut d h h'):∀b o,b≠d->h.get? b=some o->h'.get? b=some o:=λb y_ hb e=>(hs.2 b hb).trans e
theorem eH(H:HR W s.heap io m){i:Nat}{p:Addr×Addr}{kvs kvs':List (Ky×V)}{e:Nat}(hi:io[i]?=some p)(hm:m[i]?=some (.dict kvs e)){h':Heap}{tk:Nat}(hs:Heap.SameBut p.1 s.heap h'){o':Obj}{es':Array DictEntry}{n':Nat}(h1:h'.get? p.1=some o')(h2:o'.ExactDict)(h3:o'.data=.dict es' n')(h4:Step own fr s.heap io m h' io (m.set i (.dict kvs' (e+1)))->ERs W h' io kvs' es'.toList)(h5:(kvs'.map (·.1)).Nodup)(h6:kvs'.length <= lid):
  NP W own fr s io m (λy_ y_ (_ _:Unit)=>True) (.ok () (m.set i (.dict kvs' (e+1)))) () { s with heap:=h',toks:=tk }:=by
 obtain⟨hpp,y_⟩:=H.obj _ _ _ hi hm;have hk:∀b o,b≠p.1->b≠p.2->s.heap.get? b=some o->h'.get? b=some o:=λb o q y_ ho=>eK hs b o q ho;have hd:∀kv ep,MObj.dict kvs e=.dict kv ep->∃kvs2 e2,MObj.dict kvs' (e+1)=.dict kvs2 e2 /\ ep < e2:=λkv ep q=>by cases (q);exact⟨kvs',e+1,rfl,by lia⟩
 have st:Step own fr s.heap io m h' io (m.set i (.dict kvs' (e+1))):=aG1 H hi hm hk ⟨_,h1⟩ ⟨_,hpp▸h1⟩ hd;exact⟨(),_,io,rfl,st,H.set hi hm hk hd ⟨_,h1⟩ ⟨_,hpp▸h1⟩ ⟨hpp,o',es',n',h1,h2,h3,h4 st,h5,h6⟩,trivial,rfl,rfl⟩
theorem aU9{v:V}{k':Ky}(h:k'∈(put k v kvs).map (·.1)):k'=k \/ k'∈kvs.map (·.1):=by
 induction kvs with
 |nil=>simp[put]at h;exact .inl h
 |cons q r ih=>
  simp only[put]at h
  split at h
  ·exact .inr h
  ·simp only[List.map_cons,List.mem_cons]at h
   rcases h with h | h
   ·exact .inr (by simp[h])
   ·rcases ih h with h | h
    ·exact .inl h
    ·exact .inr (by simp only[List.map_cons,List.mem_cons];exact .inr h)
theorem ERs.key_ok(x:ERs W h io kvs es){k:Ky}(hk:k∈kvs.map (·.1)):∃u,VR W h io k.val u:=by
 induction x using ERs.ind with
 |nil=>cases (hk)
 |cons h1 y_ y_ ih=>
  simp only[List.map_cons,List.mem_cons]at hk;rcases hk with rfl | hk
  ·exact⟨_,h1⟩
  ·exact ih hk
theorem bO2{j:List (Sum Int Str)}{v:V}(hv:VR W h io v y):∀{l:List TK} {kvs:List (Ky×V)},l.map (λp=>Ky.tup p.1)=kvs.map (·.1)->VRs W h io (kvs.map (·.2)) (l.map (·.2.2)) ->
  VRs W h io ((kvs.map λp=>if p.1=Ky.tup j then(p.1,v)else p).map (·.2)) ((l.map (putAt j y)).map (·.2.2)):=by
 intro l
 induction l with
 |nil=>intro kvs p3 _;have:kvs=[]:=by { cases kvs with | nil=>rfl | cons=>simp at p3 };rw[this];exact .nil
 |cons q l ih=>
  intro kvs p3 p4
  cases kvs with
  |nil=>simp at p3
  |cons r kvs=>
   obtain⟨k',v'⟩:=r;simp only[List.map_cons,List.cons.injEq]at p3;refine e0a2 p3 λz1 z2=>?_;rw[<- z1];refine e0a2 (VRs.cc p4) λx1 x2=>?_
   ·
    simp only[List.map_cons];refine .cons ?_ (ih z2 x2);by_cases w:q.1=j
    ·simp only[w,if_true,putAt];exact hv
    ·have w':¬Ky.tup q.1=Ky.tup j:=λc=>w (ky_t c)
     simp only[w',if_false,putAt,w];exact x1
theorem cF8(H:HR W s.heap io m)(R:AR A fs n){i:Nat}{p:Addr×Addr}{kvs:List (Ky×V)}{e:Nat}(hi:io[i]?=some p)(hm:m[i]?=some (.dict kvs e)){x v:V}{u y:Value}(hx:VR W s.heap io x u)(hv:VR W s.heap io v y){k:Ky}(hk:dP x=some k)(hs:aN k kvs=true)(hl:kvs.length < lid):
  Si W own A fs (λy_ y_ (_ _:Unit)=>True) (setItem (.ref p.1) u y) s io m (.ok () (m.set i (.dict (put k v kvs) (e+1)))):=by
 obtain⟨y_,o,es,n',g1,g2,g3,g4,g5,g6⟩:=H.obj _ _ _ hi hm;have hv':=aI0 hk;subst hv';have hl':(put k v kvs).length <= lid:=Nat.le_trans (aN8 kvs) hl;intro y_
 cases k with
 |int j=>
  have hh:=aB9 hs;refine e1a3 (g4.pairs intEmb hh) λl l1 l2 l3=>?_;have ll:l.length=kvs.length:=by have:=congrArg List.length l2;simpa using this
  refine wpAny_setItem_pairs (kvs:=l) (intEmb.is j u hx) ⟨o,es,n',g1,g2,g3,λe he=>g4.keysOf intEmb hh e (Array.mem_toList_iff.mpr he),l1,?_⟩ (λh' hd hsb=>?_) (aL (by lia))
  ·refine List.Pairwise.of_map (S:=(·≠·)) Ky.int (λa b h e=>h (congrArg Ky.int e)) ?_
   rw[List.map_map];exact(by rw[<- l2]at g5;exact g5)
  ·refine e3a6 hd λo' es' n2 d1 d2 d3 d4 d5 d6=>?_
   refine eH H hi hm hsb d1 d2 d3 (λst=>?_) (aR1 g5) hl';refine e0a2 (aN2 (W:=W) intEmb l2.symm l3 g5 j hv) λa1 a2=>?_;exact ERs.of_pairs intEmb (λe he=>d4 e (Array.mem_toList_iff.mp he)) d5 a1 (a2.step st) λk u y_ hi=>by
    refine e1a1 (Value.isInt_shape (k:=k) (v:=u) hi) λt z71=>?_;rw[z71];exact .int _ _
 |str j=>
  have hh:=aQ5 hs;refine e1a3 (g4.pairs strEmb hh) λl l1 l2 l3=>?_;have ll:l.length=kvs.length:=by have:=congrArg List.length l2;simpa using this
  refine wpAny_setItem_pairs (kvs:=l) (strEmb.is j u hx) ⟨o,es,n',g1,g2,g3,λe he=>g4.keysOf strEmb hh e (Array.mem_toList_iff.mpr he),l1,?_⟩ (λh' hd hsb=>?_) (aL (by lia))
  ·refine List.Pairwise.of_map (S:=(·≠·)) Ky.str (λa b h e=>h (congrArg Ky.str e)) ?_
   rw[List.map_map];exact(by rw[<- l2]at g5;exact g5)
  ·refine e3a6 hd λo' es' n2 d1 d2 d3 d4 d5 d6=>?_
   refine eH H hi hm hsb d1 d2 d3 (λst=>?_) (aR1 g5) hl';refine e0a2 (aN2 (W:=W) strEmb l2.symm l3 g5 j hv) λa1 a2=>?_;exact ERs.of_pairs strEmb (λe he=>d4 e (Array.mem_toList_iff.mp he)) d5 a1 (a2.step st) λk u hm hi=>by
    refine e1a1 (Value.isStrOf_shape (x:=k) (v:=u) hi) λt zz1=>?_;subst zz1;have:∃u,VR W s.heap io (Ky.str k).val u:=by
     rcases aU9 hm with q | q
     ·cases (q);exact⟨_,hx⟩
     ·exact g4.key_ok q
    refine e1a1 this λu' hu=>?_;refine VR.dStr hu λy_ okk=>?_;exact .str _ _ okk
 |tup j=>
  have hh:=aQ4 hs;refine hide λG_ g_=>?_;refine e1a5 (g4.heapKeys hh) λl p1 p2 p3 p4 p5=>?_;refine e1a2 (aB7 hx) λa zz1=>?_;subst zz1;intro ka;refine g_ ?_;clear g_ G_;have ll:l.length=kvs.length:=by have:=congrArg List.length p3;simpa using this
  have lnd:=fG p3 g5;refine wpAny_setItem_heap (knd:=tkd W) (xs:=l) (k:=j) (show A.in1.units < cLine by have:=R.cline;show A.units+1 < cLine;lia) ka ⟨o,es,n',g1,g2,g3,p1,p2,lnd⟩ (λh' hd hsb=>?_) (aL (by lia));refine e3a6 hd λo' es' n2 d1 d2 d3 d4 d5 d6=>?_;refine eH H hi hm hsb d1 d2 d3 (λst=>?_) (aR1 g5) hl';rw[d4];have build:∀{l:List TK} {kvs:List (Ky×V)},l.map (λp=>Ky.tup p.1)=kvs.map (·.1)->VRs W h' io (kvs.map (·.2)) (l.map (·.2.2))->(∀y∈l,VR W h' io (Ky.tup y.1).val (.ref y.2.1))->ERs W h' io kvs (l.map (entryOfKey (tkd W))):=by
   intro l
   induction l with
   |nil=>intro kvs e x _;have:kvs=[]:=by { cases kvs with | nil=>rfl | cons=>simp at e };rw[this];exact .nil
   |cons q l ih=>
    intro kvs e x y
    cases kvs with
    |nil=>simp at e
    |cons r kvs=>
     obtain⟨k',v'⟩:=r;simp only[List.map_cons,List.cons.injEq]at e;refine e0a2 e λe1 e2=>?_;rw[<- e1];refine e0a2 (VRs.cc x) λx1 x2=>?_
     ·exact .cons (y q (.head _)) x1 (ih e2 x2 λz hz=>y z (.tail _ hz))
  rcases fS (k:=j) p3 p4 with⟨v',a',u',e1,e2,e3⟩ | ⟨e1,e2⟩
  ·rw[storedH_old e2,cZ e1 g5]
   refine build ?_ ?_ ?_
   ·rw[List.map_map,List.map_map]
    have f1:((λp:TK=>Ky.tup p.1) ∘ putAt j y)=λp:TK=>Ky.tup p.1:=by funext q;simp only[Function.comp,putAt];split <;> rfl
    have f2:((λp:Ky×V=>p.1) ∘ λp:Ky×V=>if p.1=Ky.tup j then(p.1,v)else p)=λp=>p.1:=by funext q;simp only[Function.comp];split <;> rfl
    rw[f1,f2];exact p3
   ·exact bO2 (hv.step st) p3 (p4.step st)
   ·intro y' hy'
    refine e1a2 (List.mem_map.mp hy') λz hz zz1=>?_;subst zz1;have:=(p5 z hz).step st;unfold putAt;split <;> exact this
  ·rw[storedH_new e2,c9 e1]
   refine build (by simp[p3]) ?_ ?_
   ·simp only[List.map_append,List.map_cons,List.map_nil]
    exact(p4.step st).snoc (hv.step st)
   ·intro y' hy'
    rcases List.mem_append.mp hy' with hy' | hy'
    ·exact(p5 y' hy').step st
    ·rw[List.mem_singleton.mp hy'];exact hx.step st
end
end Mini.Internal
variable{k:Int}{i:Nat}{ks:List (Int×Value)}
namespace Mini.Internal
open PySem PySem.W
theorem aD8{a:α}(h:(none:Option α)=some a):C:=by injection h
section
variable{own:List Addr}
theorem aY0{f:Nat}{v:V}(h:eqX (f+1) m v x=some b):(∃d e,rd cT m v=some d /\ rd cT m x=some e /\ b=PyData.eqv d e) \/ eqN m (eqX f m) v x=some b:=by
 have h:(match rd cT m v,rd cT m x with | some a,some c=>some (PyData.eqv a c) | _,_=>eqN m (eqX f m) v x)=some b:=h
 cases h1:rd cT m v with
 |none=>rw[h1]at h;exact .inr h
 |some d=>
  cases h2:rd cT m x with
  |none=>rw[h1,h2]at h;exact .inr h
  |some e=>rw[h1,h2]at h;(refine aF h λz1=>?_;clear h;rw[<- z1]);exact .inl ⟨d,e,rfl,rfl,rfl⟩
theorem cC4{y:V}(h:bM9 g (x::xs) (y::ys)=some b):∃c d,g x y=some c /\ bM9 g xs ys=some d /\ b=(c&&d):=by
 have h:(match g x y with | some a=>(match bM9 g xs ys with | some b=>some (a&&b) | none=>none) | none=>none)=some b:=h
 cases h1:g x y with
 |none=>rw[h1]at h;injection h
 |some c=>
  cases h2:bM9 g xs ys with
  |none=>rw[h1,h2]at h;injection h
  |some d=>rw[h1,h2]at h;(refine aF h λz1=>?_;clear h;rw[<- z1]);exact⟨c,d,rfl,rfl,rfl⟩
inductive EqN(m:MH)(g:V->V->Option Bool)(b:Bool):V->V->Prop
 |list {p q:Nat} {xs ys:List V}:m[p]?=some (.list xs)->m[q]?=some (.list ys)->p≠q->xs.length=ys.length->bM9 g xs ys=some b->EqN m g b (.ref p) (.ref q)
 |dict {p q e e':Nat} {ks ls:List (Ky×V)}:m[p]?=some (.dict ks e)->m[q]?=some (.dict ls e')->p≠q->ks.length=ls.length->aF8 ks=true->aF8 ls=true->aF9 m ls ks=some b->EqN m g b (.ref p) (.ref q)
theorem bH8{v:V}(h:eqN m g v x=some b):EqN m g b v x:=by
 cases v with
 |ref p=>
  cases x with
  |ref q=>
   have h:(match m[p]? with
    |some (.list xs)=>(match m[q]? with | some (.list ys)=>(if p≠q /\ xs.length=ys.length then bM9 g xs ys else none) | _=>none)
    |some (.dict ks _)=>(match m[q]? with | some (.dict ls _)=>(if p≠q /\ ks.length=ls.length /\ (aF8 ks&&aF8 ls)=true then aF9 m ls ks else none) | _=>none)
    |_=>none)=some b:=h
   cases mp:m[p]? with
   |none=>rw[mp]at h;injection h
   |some o=>
   cases mq:m[q]? with
   |none=>rw[mp,mq]at h;cases (o) <;> injection h
   |some o'=>
   rw[mp,mq]at h
   cases o with
   |inst y_ y_=>injection h
   |list xs=>
    cases o' with
    |inst y_ y_=>injection h
    |dict y_ y_=>injection h
    |list ys=>
     have h:(if p≠q /\ xs.length=ys.length then bM9 g xs ys else none)=some b:=h;by_cases e:p≠q /\ xs.length=ys.length
     ·rw[if_pos e]at h;exact .list mp mq e.1 e.2 h
     ·rw[if_neg e]at h;injection h
   |dict ks ep=>
    cases o' with
    |inst y_ y_=>injection h
    |list y_=>injection h
    |dict ls ep'=>
     have h:(if p≠q /\ ks.length=ls.length /\ (aF8 ks&&aF8 ls)=true then aF9 m ls ks else none)=some b:=h;by_cases e:p≠q /\ ks.length=ls.length /\ (aF8 ks&&aF8 ls)=true
     ·rw[if_pos e]at h;exact .dict mp mq e.1 e.2.1 (Bool.and_eq_true_iff.mp e.2.2).1 (Bool.and_eq_true_iff.mp e.2.2).2 h
     ·rw[if_neg e]at h;injection h
  |_=>exact aD8 h
 |_=>exact aD8 h
theorem bS8(H:HR W s.heap io m):∀(f:Nat) {v x:V} {u:Value} {b:Bool},VR W s.heap io v u->VR W s.heap io x u->eqX f m v x=some b->b=true
 |0,_,_,_,_,_,_,h=>aD8 h
 |f+1,v,x,u,b,k,l,h=>by
  have apart:∀{p q:Nat},p≠q->VR W s.heap io (.ref p) u->VR W s.heap io (.ref q) u->b=true:=λe k l=>by
   refine e2a2 k λy_ y_ zz1=>?_;subst zz1;intro hp;refine e2a2 l λy_ y_ e' hq=>?_;exact absurd (Value.ref.inj e') (H.apart _ _ _ _ e hp hq).1
  rcases aY0 h with⟨d,e,h1,h2,rfl⟩ | h
  ·obtain⟨⟨as,r1⟩,c1,y_⟩:=bG H _ _ _ _ h1 k
   obtain⟨⟨bs,r2⟩,c2,y_⟩:=bG H _ _ _ _ h2 l
   cases SeqAt.Reads.unique _ _ _ _ _ c1 r1 r2
   exact SeqAt.eqv_refl _ c1
  ·cases bH8 h with
   |list y_ y_ e y_ y_=>exact apart e k l
   |dict y_ y_ e y_ y_ y_ y_=>exact apart e k l
theorem dD4(hg:∀{x y:V} {u w:Value} {b:Bool},VR W s.heap io x u->VR W s.heap io y w->g x y=some b->SeqAt.EqAt A s u w b):∀{xs ys:List V} {us ws:List Value} {b:Bool},VRs W s.heap io xs us->VRs W s.heap io ys ws->bM9 g xs ys=some b ->
  ∃e:Nat->Bool,(∀j (h1:j < us.length) (h2:j < ws.length),SeqAt.EqAt A s us[j] ws[j] (e j)) /\ (List.range us.length).all e=b /\ us.length=ws.length:=by
 intro xs
 induction xs with
 |nil=>
  intro ys us ws b x1 x2 h;rw[x1]
  induction x2 using VRs.elim with
  |nil=>(refine aF h λz1=>?_;clear h;subst z1);exact⟨λy_=>true,λj h1=>absurd h1 (Nat.not_lt_zero _),rfl,rfl⟩
  |cons y_ y_=>exact aD8 h
 |cons x xs ih=>
  intro ys us ws b x1 x2 h;refine VRs.dCons x1 λy_ y_ h1 h2=>?_
  induction x2 using VRs.elim with
  |nil=>exact aD8 h
  |cons k1 k2=>
   refine e2a3 (cC4 h) λc d e1 e2 z71=>?_;rw[z71];refine e1a3 (ih h2 k2 e2) λe q1 q2 q3=>?_;refine⟨λj=>Nat.rec c (λj y_=>e j) j,λj j1 j2=>?_,?_,congrArg (·+1) q3⟩
   ·cases j with
    |zero=>exact hg h1 k1 e1
    |succ j=>exact q1 j (Nat.lt_of_succ_lt_succ j1) (Nat.lt_of_succ_lt_succ j2)
   ·rw[List.length_cons,List.range_succ_eq_map,List.all_cons,List.all_map,<- q2];rfl
theorem bJ8:∀{kb:List (Int×Value)},kb.map (λp=>Ky.int p.1)=ls.map (·.1)->VRs W s.heap io (ls.map (·.2)) (kb.map (·.2))->∀k:Int,
  (∃v u,look (.int k) ls=some v /\ valueAt kb k=some u /\ VR W s.heap io v u) \/ (look (.int k) ls=none /\ valueAt kb k=none):=by
 induction ls with
 |nil=>intro kb e x k;cases kb with
  |nil=>exact .inr ⟨rfl,rfl⟩
  |cons y_ y_=>injection e
 |cons q r ih=>
  intro kb e x k
  cases kb with
  |nil=>injection e
  |cons q' r'=>
   obtain⟨k1,v1⟩:=q;obtain⟨k2,u2⟩:=q';have e1:Ky.int k2=k1:=(List.cons.inj e).1;rw[<- e1];refine e0a2 (VRs.cc x) λx1 x2=>?_;by_cases hk:k2=k
   ·subst hk
    exact .inl ⟨v1,u2,by simp[look],by simp[valueAt],x1⟩
   ·have hk':¬Ky.int k2=Ky.int k:=λe=>hk (dD2 e)
    have a1:look (.int k) ((Ky.int k2,v1)::r)=look (.int k) r:=if_neg hk';have a2:valueAt ((k2,u2)::r') k=valueAt r' k:=by simp[valueAt,List.find?_cons,hk]
    rw[a1,a2];exact ih (List.cons.inj e).2 x2 k
theorem bZ6(H:HR W s.heap io m)(hu:A.units+cT < cLine){ls:List (Ky×V)}{kb:List (Int×Value)}(e:kb.map (λp=>Ky.int p.1)=ls.map (·.1))(hv:VRs W s.heap io (ls.map (·.2)) (kb.map (·.2))):
  ∀{ks:List (Ky×V)} {ka:List (Int×Value)} {b:Bool},ka.map (λp=>Ky.int p.1)=ks.map (·.1)->VRs W s.heap io (ks.map (·.2)) (ka.map (·.2))->aF9 m ls ks=some b->KeqHits A s kb ka b:=by
 intro ks
 induction ks with
 |nil=>intro ka b e1 x h;cases ka with
  |nil=>(refine aF h λz1=>?_;clear h;subst z1);exact .nil
  |cons y_ y_=>injection e1
 |cons q r ih=>
  intro ka b e1 x h
  cases ka with
  |nil=>injection e1
  |cons q' r'=>
   obtain⟨k1,v1⟩:=q;obtain⟨k2,u2⟩:=q';have e2:Ky.int k2=k1:=(List.cons.inj e1).1;subst e2;refine e0a2 (VRs.cc x) λx1 x2=>?_;have h:(match look (.int k2) ls with | none=>some false | some u=>(match rd cT m v1 with | some x=>(match rd cT m u with | some y=>(match aF9 m ls r with | some b=>some (PyData.eqv x y&&b) | none=>none) | none=>none) | none=>none))=some b:=h;rcases bJ8 e hv k2 with⟨v,u,l1,l2,l3⟩ | ⟨l1,l2⟩
   ·rw[l1]at h
    dsimp only at h
    cases h1:rd cT m v1 with
    |none=>rw[h1]at h;injection h
    |some d1=>
     cases h2:rd cT m v with
     |none=>rw[h1,h2]at h;injection h
     |some d2=>
      cases h3:aF9 m ls r with
      |none=>rw[h1,h2,h3]at h;injection h
      |some c=>
       rw[h1,h2,h3]at h;(refine aF h λz1=>?_;clear h;rw[<- z1]);obtain⟨⟨as,r1⟩,c1,p1⟩:=bG H _ _ _ _ h1 x1;obtain⟨⟨bs,r2⟩,c2,p2⟩:=bG H _ _ _ _ h2 l3;refine .hit l2 (SeqAt.eqAt_reads _ _ _ _ _ _ _ _ r1 r2 c1 c2 ?_) (ih (List.cons.inj e1).2 x2 h3);have:min d1.depth d2.depth <= cT:=Nat.le_trans (Nat.min_le_left _ _) p1;lia
   ·rw[l1]at h;(refine aF h λz1=>?_;clear h;rw[<- z1]);exact .miss l2
theorem bU9{p p':Program}{w':World}{l:List (Int×Value)}(h:Pairs (intKind p w) es l):Pairs (intKind p' w') es l:=by
 induction h with
 |nil=>exact .nil
 |cons h1 h2 y_ ih=>exact .cons h1 h2 ih
theorem aE0(H:HR W s.heap io m){k:Nat}{p:Addr×Addr}{kvs:List (Ky×V)}{e:Nat}(hi:io[k]?=some p)(hm:m[k]?=some (.dict kvs e))(hk:aF8 kvs=true):
  ∃l:List (Int×Value),(∀prog w,s.heap.DictOf (intKind prog w) p.1 l) /\ l.map (λp=>Ky.int p.1)=kvs.map (·.1) /\ VRs W s.heap io (kvs.map (·.2)) (l.map (·.2)):=by
 obtain⟨y_,o,es,c,h1,h2,h3,h4,h5,h6⟩:=H.obj _ _ _ hi hm;have hall:=aB9 (i:=0) hk;refine e1a3 (h4.pairs intEmb hall) λl p1 p2 p3=>?_;have nd:(l.map (·.1)).Nodup:=by
  have q:((l.map (·.1)).map Ky.int).Nodup:=by rw[List.map_map];exact(show List.map (λp=>Ky.int p.1) l=_ from p2)▸h5
  exact(List.pairwise_map.mp q).imp λh e=>h (congrArg Ky.int e)
 exact⟨l,λprog w=>⟨o,es,c,h1,h2,h3,λe he=>h4.keysOf intEmb hall e (Array.mem_toList_iff.mpr he),bU9 p1,nd⟩,p2,p3⟩
structure EqAll(A:Around)(s:Shared)(u y:Value)(b:Bool):Prop where
 eq:SeqAt.RcAt A s u y b
 ne:SeqAt.RcNeAt A s u y (!b)
theorem bZ0(ok:WOk W)(H:HR W s.heap io m)(hu:A.units+1+cT < cLine){g:V->V->Option Bool}(hg:∀{x y:V} {u w:Value} {b:Bool},VR W s.heap io x u->VR W s.heap io y w->g x y=some b->SeqAt.EqAt A.in1 s u w b){v x:V}{u y:Value}{b:Bool}(k:VR W s.heap io v u)(l:VR W s.heap io x y)(h:EqN m g b v x):EqAll A s u y b:=by
 have hA:A.units < cLine:=Nat.lt_of_le_of_lt (Nat.le_trans (Nat.le_succ _) (Nat.le_add_right _ _)) hu;have zips:∀{xs ys:List V} {vs vs':Array Value},VRs W s.heap io xs vs.toList->VRs W s.heap io ys vs'.toList->bM9 g xs ys=some b->∃e:Nat->Bool,(∀j (h1:j < vs.size) (h2:j < vs'.size),SeqAt.EqAt A.in1 s vs[j] vs'[j] (e j)) /\ (List.range vs.size).all e=b /\ vs.size=vs'.size:=λh4 g4 h=>by
  refine e1a3 (dD4 hg h4 g4 h) λe q1 q2 q3=>?_;exact⟨e,λj j1 j2=>q1 j j1 j2,q2,q3⟩
 cases h with
 |list mp mq e hl z=>
  refine VR.dRef k λa d hp=>?_;refine VR.dRef l λa' d' hq=>?_;refine hide λG_ g_=>?_;obtain⟨y_,vs,c,h1,h4,y_⟩:=H.obj _ _ _ hp mp;obtain⟨y_,vs',c',g1,g4,y_⟩:=H.obj _ _ _ hq mq;refine e1a3 (zips h4 g4 z) λe he q2 q3=>?_;have r1:=SeqAt.RcAt.lists (e:=e) ⟨_,h1,rfl,c,rfl⟩ ⟨_,g1,rfl,c',rfl⟩ q3 hA he;have r2:=SeqAt.RcNeAt.lists (e:=e) ⟨_,h1,rfl,c,rfl⟩ ⟨_,g1,rfl,c',rfl⟩ q3 hA he;rw[q2]at r1 r2;exact g_ ⟨r1,r2⟩
 |dict mp mq e hl i1 i2 z=>
  refine VR.dRef k λa d hp=>?_;refine VR.dRef l λa' d' hq=>?_;have n1:=H.notSys ok ⟨_,List.mem_of_getElem? hp,.inl rfl⟩;have n2:=H.notSys ok ⟨_,List.mem_of_getElem? hq,.inl rfl⟩;refine hide λG_ g_=>?_;refine e1a3 (aE0 H hp mp i1) λka d1 d2 d3=>?_;refine e1a3 (aE0 H hq mq i2) λkb e1 e2 e3=>?_;have la:ka.length=_:=(List.length_map (λp=>Ky.int p.1)).symm.trans ((congrArg List.length d2).trans (List.length_map _));have lb:kb.length=_:=(List.length_map (λp=>Ky.int p.1)).symm.trans ((congrArg List.length e2).trans (List.length_map _));have hits:=bZ6 (A:=A.in1) H hu e2 e3 d2 d3 z;have zz:(ka.length == kb.length&&b)=b:=by rw[la,lb,hl,beq_self_eq_true,Bool.true_and]
  exact g_ ⟨λprog w E Q hQ=>keq_eq n1 n2 (d1 prog w) (e1 prog w) hA (λy=>hits) (zz.symm▸hQ),λprog w E Q hQ=>keq_ne n1 n2 (d1 prog w) (e1 prog w) hA (λy=>hits) (zz.symm▸hQ)⟩
theorem bY9(ok:WOk W)(H:HR W s.heap io m):∀(f:Nat) {A:Around},A.units+f+cT+2 < cLine->∀{v x:V} {u y:Value} {b:Bool},VR W s.heap io v u->VR W s.heap io x y->eqX f m v x=some b->SeqAt.EqAt A s u y b
 |0,_,_,_,_,_,_,_,_,_,h=>aD8 h
 |f+1,A,hu,v,x,u,y,b,k,l,h=>by
  by_cases hs:u=y
  ·subst hs
   rw[bS8 H (f+1) k l h];exact SeqAt.EqAt.same u
  ·rcases aY0 h with⟨d,e,h1,h2,rfl⟩ | h
   ·obtain⟨⟨as,r1⟩,c1,p1⟩:=bG H _ _ _ _ h1 k
    obtain⟨⟨bs,r2⟩,c2,p2⟩:=bG H _ _ _ _ h2 l;refine SeqAt.eqAt_reads _ _ _ _ _ _ _ _ r1 r2 c1 c2 ?_;exact Nat.lt_of_le_of_lt (Nat.le_trans (Nat.add_le_add_left (Nat.le_trans (Nat.min_le_left _ _) p1) _) (Nat.le_trans (Nat.add_le_add_right (Nat.le_add_right _ _) cT) (Nat.le_add_right _ 2))) hu
   ·have h:=bH8 h
    have hq:=bZ0 (A:=A) ok H (Nat.lt_of_le_of_lt (Nat.le_trans (Nat.add_le_add_right (Nat.add_le_add_left (Nat.succ_le_succ (Nat.zero_le f)) _) cT) (Nat.le_add_right _ 2)) hu) (g:=eqX f m) (λa b c=>bY9 ok H f (A:=A.in1) (by show A.units+1+f+cT+2 < cLine;rw[Nat.add_assoc A.units 1 f,Nat.add_comm 1 f];exact hu) a b c) k l h;have rr:∀{a a':Addr},u=.ref a->y=.ref a'->SeqAt.EqAt A s u y b:=λe1 e2=>by
     subst e1;subst e2;exact SeqAt.EqAt.of_refs (λq=>hs (by rw[q])) hq.eq
    cases h with
    |list y_ y_ y_ y_ y_=>refine e2a2 k λy_ y_ e1 y_=>?_;refine e2a2 l λy_ y_ e2 y_=>?_;exact rr e1 e2
    |dict y_ y_ y_ y_ y_ y_ y_=>refine e2a2 k λy_ y_ e1 y_=>?_;refine e2a2 l λy_ y_ e2 y_=>?_;exact rr e1 e2
theorem aY1(v x:V):(∃d e,rd cT m v=some d /\ rd cT m x=some e /\ eqV v x m=.ok (PyData.eqv d e) m) \/ (∃c,eqN m (eqX 8 m) v x=some c /\ eqV v x m=.ok c m) \/ eqV v x m=.bad:=by
 have e:eqV v x m=(match rd cT m v,rd cT m x with | some a,some c=>.ok (PyData.eqv a c) m | _,_=>(match eqN m (eqX 8 m) v x with | some c=>.ok c m | none=>.bad)):=rfl;rw[e];have key:(∃c,eqN m (eqX 8 m) v x=some c /\ (match eqN m (eqX 8 m) v x with | some c=>(.ok c m:Res Bool) | none=>.bad)=.ok c m) \/ (match eqN m (eqX 8 m) v x with | some c=>(.ok c m:Res Bool) | none=>.bad)=.bad:=by
  cases eqN m (eqX 8 m) v x with
  |none=>exact .inr rfl
  |some c=>exact .inl ⟨c,rfl,rfl⟩
 cases h1:rd cT m v with
 |none=>exact .inr key
 |some d=>
  cases h2:rd cT m x with
  |none=>exact .inr key
  |some e=>exact .inl ⟨d,e,rfl,rfl,rfl⟩
theorem dL1(ok:WOk W)(H:HR W s.heap io m)(R:AR A fs n){v x:V}{u y:Value}(k:VR W s.heap io v u)(l:VR W s.heap io x y):
  Si W own A fs BV (compareOp .Eq u y) s io m (aF0 .Eq v x m):=by
 show Si W own A fs BV (compareOp .Eq u y) s io m (eqV v x m);have hc:=R.cline;rcases aY1 (m:=m) v x with⟨d,e,h1,h2,q⟩ | ⟨c,h1,q⟩ | q
 ·rw[q]
  obtain⟨⟨as,r1⟩,c1,d1⟩:=bG H _ _ _ _ h1 k;obtain⟨⟨bs,r2⟩,c2,d2⟩:=bG H _ _ _ _ h2 l;intro y_;refine SeqAt.compareEq_reads r1 r2 c1 c2 ?_ ⟨_,m,io,rfl,.refl,H,rfl,.refl _⟩;have h3:min d.depth e.depth <= 12:=Nat.le_trans (Nat.min_le_left _ _) d1;lia
 ·rw[q]
  intro y_;exact(bZ0 (A:=A) ok H (by show A.units+1+12 < cLine;lia) (λa b c=>bY9 ok H 8 (A:=A.in1) (by show A.units+1+8+12+2 < cLine;lia) a b c) k l (bH8 h1)).eq _ _ _ _ ⟨_,m,io,rfl,.refl,H,rfl,.refl _⟩
 ·rw[q];exact Si.bad
theorem dI4(ok:WOk W)(H:HR W s.heap io m)(R:AR A fs n){v x:V}{u y:Value}(k:VR W s.heap io v u)(l:VR W s.heap io x y):
  Si W own A fs BV (compareOp .NotEq u y) s io m (aF0 .NotEq v x m):=by
 show Si W own A fs BV (compareOp .NotEq u y) s io m ((eqV v x m).bind λc=>ret (!c));have hc:=R.cline;rcases aY1 (m:=m) v x with⟨d,e,h1,h2,q⟩ | ⟨c,h1,q⟩ | q
 ·rw[q]
  obtain⟨⟨as,r1⟩,c1,d1⟩:=bG H _ _ _ _ h1 k;obtain⟨⟨bs,r2⟩,c2,d2⟩:=bG H _ _ _ _ h2 l;intro y_;refine SeqAt.compareNe_reads r1 r2 c1 c2 ?_ ⟨_,m,io,rfl,.refl,H,rfl,.refl _⟩;have h3:min d.depth e.depth <= 12:=Nat.le_trans (Nat.min_le_left _ _) d1;lia
 ·rw[q]
  intro y_;exact(bZ0 (A:=A) ok H (by show A.units+1+12 < cLine;lia) (λa b c=>bY9 ok H 8 (A:=A.in1) (by show A.units+1+8+12+2 < cLine;lia) a b c) k l (bH8 h1)).ne _ _ _ _ ⟨_,m,io,rfl,.refl,H,rfl,.refl _⟩
 ·rw[q];exact Si.bad
end
end Mini.Internal
variable{b:Int}{es:List Expr}{g:Gd}
namespace Mini.Internal
open PySem
section
variable{own:List Addr}
theorem dJ0{a:Int}(h:Ky.int a=Ky.int b):a=b:=dD2 h
theorem aP0{j:Int}{v:V}:∀{l:List (Int×Value)} {kvs:List (Ky×V)},l.map (λp=>Ky.int p.1)=kvs.map (·.1)->VRs W h io (kvs.map (·.2)) (l.map (·.2))->(kvs.map (·.1)).Nodup->look (.int j) kvs=some v ->
  ∃u,valueAt l j=some u /\ VR W h io v u /\ (fL (.int j) kvs).map (·.1)=(without l j).map (λp=>Ky.int p.1) /\ VRs W h io ((fL (.int j) kvs).map (·.2)) ((without l j).map (·.2))
 |[],[],_,_,_,q=>by injection q
 |[],_::_,e,_,_,_=>by injection e
 |_::_,[],e,_,_,_=>by injection e
 |(i,u)::l,(k,w)::kvs,e,x,nd,q=>by
  simp only[List.map_cons,List.cons.injEq]at e;refine e0a2 e λe1 e2=>?_;subst e1;simp only[List.map_cons]at x nd;refine e0a2 (VRs.cc x) λx1 x2=>?_
  ·
   refine e0a2 (List.nodup_cons.mp nd) λn1 n2=>?_;have q':(if Ky.int i=Ky.int j then some w else look (.int j) kvs)=some v:=q;have ed:fL (.int j) ((Ky.int i,w)::kvs)=if Ky.int i=Ky.int j then kvs else(Ky.int i,w)::fL (.int j) kvs:=rfl
   by_cases z:i=j
   ·subst z
    rw[if_pos rfl]at q' ed
    (refine aF q' λz1=>?_;clear q';rw[<- z1])
    have nm:i∉l.map (·.1):=λhmem=>n1 (by
     rw[<- e2,List.mem_map];refine e1a2 (List.mem_map.mp hmem) λp hp z71=>?_;rw[<- z71];exact⟨p,hp,rfl⟩)
    have ew:without ((i,u)::l) i=l:=by
     unfold without;rw[List.filter_cons_of_neg (by simp)];exact without_of_not_mem l i nm
    rw[ed,ew];exact⟨u,by unfold valueAt;rw[List.find?_cons_of_pos (by simp)];rfl,x1,e2.symm,x2⟩
   ·have z':¬Ky.int i=Ky.int j:=λc=>z (dJ0 c)
    rw[if_neg z']at q' ed;refine e1a4 (aP0 e2 x2 n2 q') λu' a1 a2 a3 a4=>?_;have ew:without ((i,u)::l) j=(i,u)::without l j:=by
     unfold without;rw[List.filter_cons_of_pos (by simp[z])]
    rw[ed,ew];refine⟨u',?_,a2,?_,?_⟩
    ·unfold valueAt at a1 ⊢
     rw[List.find?_cons_of_neg (by simp[z])];exact a1
    ·rw[List.map_cons,List.map_cons,a3]
    ·exact .cons x1 a4
theorem bI0{k:Ky}:∀{kvs:List (Ky×V)},(fL k kvs).Sublist kvs
 |[]=>.slnil
 |(k',v')::r=>by
  show List.Sublist (if k'=k then r else(k',v')::fL k r) _;by_cases z:k'=k
  ·rw[if_pos z];exact List.sublist_cons_self _ _
  ·rw[if_neg z];exact(bI0 (kvs:=r)).cons_cons _
theorem cG4(H:HR W s.heap io m){i:Nat}{p:Addr×Addr}{kvs:List (Ky×V)}{e:Nat}(hi:io[i]?=some p)(hm:m[i]?=some (.dict kvs e)){j:Int}{t:Tok}{v:V}(hs:aN (.int j) kvs=true)(hl:look (.int j) kvs=some v):
    Si W own A fs (VP W) (call (.builtin "dict.pop") [.ref p.1,.int j t]) s io m (.ok v (m.set i (.dict (fL (.int j) kvs) (e+1)))):=by
  obtain⟨y_,o,es,n',g1,g2,g3,g4,g5,g6⟩:=H.obj _ _ _ hi hm;intro y_;have hh:=aB9 hs;refine e1a3 (g4.pairs intEmb hh) λl l1 l2 l3=>?_;have ll:l.length=kvs.length:=by have:=congrArg List.length l2;simpa using this
  refine e1a4 (aP0 l2 l3 g5 hl) λu a1 a2 a3 a4=>?_;have nd:(l.map (·.1)).Nodup:=by
    refine List.Pairwise.of_map (S:=(·≠·)) Ky.int (λa b h e=>h (congrArg Ky.int e)) ?_;rw[List.map_map];exact(by rw[<- l2]at g5;exact g5)
  refine call_meetsIn PySem.F.slot_dict_pop ⟨_,g1,g2.1⟩ PySem.F.entry_dict_pop (PySem.F.args_dict_pop_2 _ _) (meets_dict_pop_there (knd:=intKind W.prog W.w) (d:=p.1) (k:=j) (key:=.int j t) (hkey:=intEmb.is (io:=io) (h:=s.heap) j _ (.int j t)) (rest:=[]) (hrest:=.inl rfl) (hpart:=rfl)) ⟨l,u,⟨o,es,n',g1,g2,g3,λe he=>g4.keysOf intEmb hh e (Array.mem_toList_iff.mpr he),l1,nd⟩,aL (by lia),a1,λh' hd hsb=>?_⟩;refine e3a6 hd λo' es' n2 d1 d2 d3 d4 d5 d6=>?_;have sub:=bI0 (k:=.int j) (kvs:=kvs);have hk:(((fL (.int j) kvs)).map (·.1)).Nodup:=g5.sublist (sub.map _);obtain⟨y_,m2,io2,e2,st,H2,y_,sm⟩:=eH (own:=own) (fr:=frs fs) (tk:=s.toks+1) H hi hm hsb d1 d2 d3 (λst=>ERs.of_pairs intEmb (λe he=>d4 e (Array.mem_toList_iff.mp he)) d5 a3 (a4.step st) λk u y_ hi=>by
        obtain⟨t,z71⟩:=Value.isInt_shape (k:=k) (v:=u) hi;rw[z71];exact .int _ _) hk (Nat.le_trans sub.length_le g6)
  (refine aL5 e2 λz1 z2=>?_;clear e2;subst z1;rw[z2])
  exact⟨v,_,_,rfl,st,H2,a2.step st,sm⟩
theorem bM4(H:HR W s.heap io m){i:Nat}{p:Addr×Addr}{kvs:List (Ky×V)}{e:Nat}(hi:io[i]?=some p)(hm:m[i]?=some (.dict kvs e))(hk:aF8 kvs=true):
  Si W own A fs (VP W) (call (.builtin "dict.clear") [.ref p.1]) s io m (.ok .none (m.set i (.dict [] (e+1)))):=by
 refine hide λG_ g_=>?_;obtain⟨y_,o,es,n',g1,g2,y_⟩:=H.obj _ _ _ hi hm;obtain⟨y_,y_,y_,y_,y_,y_,y_,y_,y_,g6⟩:=H.obj _ _ _ hi hm;refine e1a3 (aE0 H hi hm hk) λl l1 l2 l3=>?_;refine g_ ?_;clear g_ G_;intro y_;have ll:l.length=kvs.length:=by have:=congrArg List.length l2;simpa using this
 refine call_meetsIn PySem.F.slot_dict_clear ⟨_,g1,g2.1⟩ PySem.F.entry_dict_clear (PySem.F.args_dict_clear_1 _) (meets_dict_clear (knd:=intKind W.prog W.w) (d:=p.1)) ⟨l,l1 _ _,aL (by lia),λh' hd hsb=>?_⟩;refine hide λG_ g_=>?_;refine e3a6 hd λo' es' n2 d1 d2 d3 d4 d5 d6=>?_;have e0:es'.toList=[]:=by cases h:es'.toList with
  |nil=>rfl
  |cons a r=>rw[h]at d5;cases (d5)
 obtain⟨y_,m2,io2,e2,st,H2,y_,sm⟩:=eH (own:=own) (fr:=frs fs) (tk:=s.toks) (kvs':=[]) H hi hm hsb d1 d2 d3 (λst=>by rw[e0];exact .nil) List.nodup_nil (Nat.zero_le _);refine g_ ?_
 (refine aL5 e2 λz1 z2=>?_;clear e2;subst z1;rw[z2])
 exact⟨.none,_,_,rfl,st,H2,.none,sm⟩
end
end Mini.Internal
namespace Mini.Internal
open PySem PySem.W PyProof.Rows
theorem bF3:entryFor table "dict.update.loop"=some Builtin.«dict.update.loop»:=entryFor_of_tree (by kernel_rfl)
theorem aG6:plainId "dict.update.loop"=true:=by decide +kernel
theorem cV4:typeLookup (.type "list") "keys"=pure none:=am_miss_of_fast (by kernel_rfl)
section
theorem cV2{Q:Option Value->Shared->Prop}(hx:s.heap.get? a=some (eZ ws c))(hA:A.handled=none)(h:∀h' tk,(∀b o,s.heap.get? b=some o->h'.get? b=some o)->Q none { s with heap:=h',toks:=tk }):wpAny (model prog w) A (getAttr? (.ref a) "keys") Q E s:=by
 obtain⟨hp,g,d,tk,os⟩:=s;have hT:∀tk',(⟨hp,g,d,tk',os⟩:Shared).TypeIs (.ref a) "list":=λy_=>⟨_,hx,rfl⟩
 have f1:=sub_AttributeError;have f3:=F.slot_list_getattribute.lookup;have f4:=F.slot_list_getattribute.bind (.ref a);have f5:=am_list_getattr_none;unfold getAttr? getAttrBy? getAttrBy
 repeat (any_goals (first | assumption | exact hT _ | ((with_reducible show wpAny _ _ (call (Value.builtin "list.__getattribute__") _ _) _ _ _);refine call_meets F.slot_list_getattribute (hT _) am_entry_list_getattribute (F.args_list_getattribute_2 _ _) (meets_getattribute_miss_list a ws c _ "keys" _ cV4 (by decide +kernel) (by decide)) ⟨hx,hA,λh' tk' e hx'=>?_⟩) | wp_step))
 refine e2a1 hx'.there λt' u' he=>?_;unfold getattributeRaised
 repeat (any_goals (first | assumption | wp_step))
 exact h _ _ hx'.keeps
theorem bU5{v:Value}(nd:(ks.map (·.1)).Nodup)(h:ks[i]?=some (k,v)):stored (ks.take i) k v=ks.take (i+1):=by
 have hlt:=(List.getElem?_eq_some_iff.mp h).1;have e:ks.take (i+1)=ks.take i++[(k,v)]:=by rw[List.take_add_one,h];rfl
 unfold stored;rw[if_neg,e];rw[List.any_eq_true];rintro⟨x,hx,hk⟩;have nd':((ks.take (i+1)).map (·.1)).Nodup:=nd.sublist ((List.take_sublist _ _).map _);rw[e,List.map_append,List.nodup_append]at nd';exact nd'.2.2 x.1 (List.mem_map.mpr ⟨x,hx,rfl⟩) k (.head _) (of_decide_eq_true hk)
noncomputable def PqT(h:Heap)(out:List Addr)(P:Nat->Value->Prop)(ks:List (Int×Value)):Prop:=∀i v,P i v->∃tp o c k t x,v=.ref tp /\ tp∉out /\ h.get? tp=some o /\ o.cls=.type "tuple" /\ o.data=.seq #[.int k t,x] c /\ ks[i]?=some (k,x)
theorem PqT.mono{out:List Addr}(x:PqT h out P ks)(k:∀b o,b∉out->h.get? b=some o->h'.get? b=some o):PqT h' out P ks:=λi v hv=>by
 refine e6a4 (x i v hv) λtp o c n t y h1 h2 h3 h4=>?_;exact⟨tp,o,c,n,t,y,h1,h2,k _ _ h2 h3,h4⟩
variable{fp:List Addr}{G:Array GenState->Array GenState->Prop}{St:Nat->Shared->Prop}
theorem cV3(W:WalksS prog w A.in1 I fp wr G n P St)(S:Addr)(hSf:S∉fp)(ks:List (Int×Value))(nd:(ks.map (·.1)).Nodup)(hn:ks.length=n)(hsz:n <= sizeLine):
  ∀(k i:Nat) (j:Int) (jt:Tok) (s:Shared),n - i=k->i <= n->St i s->s.heap.DictOf (intKind prog w) S (ks.take i)->PqT s.heap (S::wr) P ks ->
   (∀s',Moved (S::wr) G s s'->s'.heap.DictOf (intKind prog w) S ks->R (.ok (.ret .none)) s') ->
   codeAny (model prog w) A (.builtin "dict.update.loop" ⟨[.ref S,.ref I,.int j jt,.none],[]⟩) R s:=by
 have hSw:S∉wr:=λh=>hSf (W.sub _ h);have hsub:∀b∈wr,b∈S::wr:=λb hb=>List.mem_cons_of_mem _ hb;have keepD:∀{s s':Shared} {l:List (Int×Value)},Moved wr G s s'->s.heap.DictOf (intKind prog w) S l->s'.heap.DictOf (intKind prog w) S l:=λhm ⟨o,es,ep,ho,rest⟩=>⟨o,es,ep,hm.heap S _ hSw ho,rest⟩
 intro k
 induction k with
 |zero=>
  intro i j jt s hk hi hst hD hT hR;have hin:i=n:=Nat.le_antisymm hi (Nat.le_of_sub_eq_zero hk);subst hin;refine codeAny_builtin bF3 ?_;rw[Around.under_plainId aG6 _];refine wpAny_bind (W.done s _ _ hst λs' hm=>?_);exact wpAny_pure (hR s' (hm.mono hsub) (by rw[<- hn,List.take_length]at hD;exact keepD hm hD))
 |succ k ih=>
  intro i j jt s hk hi hst hD hT hR;have hlt:i < n:=Nat.lt_of_sub_eq_succ hk;refine codeAny_builtin bF3 ?_;rw[Around.under_plainId aG6 _];refine wpAny_bind (W.item i s _ _ hlt hst λv s' hP hst' hm=>?_);have hD':=keepD hm hD;have hT':=hT.mono λb o hb e=>hm.heap b o (λz=>hb (hsub b z)) e;obtain⟨tp,o,c,kn,t,x,z71,ho,ht,hc,hd,hks⟩:=hT' i v hP;rw[z71];refine wpAny_bind (wpAny_holding (wpAny_bind (wpAny_tryCatch ?_)));refine wpAny_bind (wpAny_typeOf (T:="tuple") ⟨o,ht,hc⟩ ?_);rw[if_pos (by decide)];refine wpAny_bind (wpAny_seqItems ht hd (wpAny_pure ?_));refine wpAny_holding ?_;refine wpAny_holding ?_;refine wpAny_bind ((intKind prog w).pyHash (k:=kn) (intKind_is _ _ _ _) ?_);have hlen:(ks.take i).length <= sizeLine:=by rw[List.length_take];exact Nat.le_trans (Nat.min_le_right _ _) (Nat.le_trans (Nat.le_of_eq hn) hsz)
  refine wpAny_dictSetHashed_pairs (knd:=intKind prog w) (s:={ s' with toks:=s'.toks+1 }) (hsz:=hlen) (intKind_is _ _ _ _) hD' λh' hD2 hsb=>?_;rw[bU5 nd hks]at hD2;refine wpAny_pure ⟨plainId_quiet aG6 _,ih (i+1) _ _ _ (by rw[Nat.sub_succ,hk];rfl) hlt (W.frame _ s' _ _ hst' (Nat.le_succ _) λb hb o e=>?_) hD2 (hT'.mono λb o hb e=>?_) λs'' hm'' hD''=>?_⟩
  ·rw[hsb.2 b (λh:b=S=>hSf (by rw[<- h];exact hb))];exact e
  ·rw[hsb.2 b (λh:b=S=>hb (by rw[h];exact List.mem_cons_self))];exact e
  ·refine hR s'' (Moved.trans W.gtrans ((hm.mono hsub).then_heap (Nat.le_succ _) λb o hb e=>?_) hm'') hD''
   rw[hsb.2 b (λh:b=S=>hb (by rw[h];exact List.mem_cons_self))];exact e
theorem cV5(hh:A.handled=none)(hl:s.heap.get? l=some (eZ ws c))(hT:PqT s.heap [] (λi v=>ws[i]?=some v) ks)(hn:ks.length=ws.size)(nd:(ks.map (·.1)).Nodup)(hsz:ws.size <= sizeLine)(h:∀h' tk,h'.DictOf (intKind prog w) s.heap.objs.size ks->(∀b o,s.heap.get? b=some o->h'.get? b=some o)->Q (.ref s.heap.objs.size) { s with heap:=h',toks:=tk }):wpAny (model prog w) A (call (.type "dict") [.ref l]) Q E s:=by
 refine callType_codes (Q₁:=λobj s₁=>obj=.ref s.heap.objs.size /\ s₁={ s with heap:=s.heap.push { cls:=.type "dict",data:=.dict #[] } }) F.kt_called_dict (F.kt_typeCall_dict_1 _) F.entry_dict_init (kt_code_dict_new _ ⟨rfl,rfl⟩) ?_;rintro obj s₁ ⟨rfl,rfl⟩;have hnew:(s.heap.push { cls:=.type "dict",data:=.dict #[] }).DictOf (intKind prog w) s.heap.objs.size []:=Heap.DictOf.new s.heap;have hl':(s.heap.push { cls:=.type "dict",data:=.dict #[] }).get? l=some (eZ ws c):=Heap.get?_push_of_some _ hl;have lt:=Heap.lt_size hl;refine⟨hnew.typeIs,F.args_dict_init_2 _ _,?_⟩;unfold Builtin.«dict.__init__»;refine wpAny_bind ?_;refine wpAny_bind (wpAny_notOrdered_dict hnew.typeIs ?_);refine wpAny_pure ?_;show wpAny _ _ (Builtin.Dict.updateFrom "dict.__init__" s.heap.objs.size (.ref l) [] .none) _ _ _;refine wpAny_bind (wpAny_typeOf (T:="list") ⟨_,hl',rfl⟩ ?_);rw[if_pos (by decide)];refine wpAny_bind (cV2 hl' (by simp[hh]) λh1 tk1 k1=>?_);rw[if_pos (show(none:Option Value).isNone=true from rfl)];refine wpAny_bind (wpAny_rule ?_);have hl1:h1.IsList l ws:=⟨_,k1 _ _ hl',rfl,c,rfl⟩
 refine wpAny_bind (wpAny_pyIter_list hl1 ?_);have hS1:s.heap.objs.size < h1.objs.size:=by
  refine e3a2 hnew λo es ep ho rest=>?_;exact Heap.lt_size (k1 _ _ ho)
 have hl2:=Heap.lt_size (k1 _ _ hl');refine wpAny_pure ⟨plainId_quiet aG6 _,?_⟩;have hh2:A.in1.in1.handled=none:=by simp[hh]
 refine cV3 ((Walks.list hh2 h1.objs.size l (Nat.ne_of_lt hl2) ws).toS) s.heap.objs.size ?_ ks nd hn hsz ws.size 0 _ _ _ rfl (Nat.zero_le _) ⟨⟨_,Heap.get?_push_size _ rfl,rfl,rfl⟩,hl1.push _⟩ ?_ ?_ λs' hm hD=>?_
 ·intro z
  rcases List.mem_cons.mp z with z | z
  ·exact Nat.ne_of_lt hS1 z
  ·exact Nat.ne_of_gt lt (List.mem_singleton.mp z)
 ·refine e3a2 hnew λo es ep ho rest=>?_
  exact⟨o,es,ep,Heap.get?_push_of_some _ (k1 _ _ ho),rest⟩
 ·intro i v hv
  refine e6a4 (hT i v hv) λtp o c k t x h1' y_ h3 h4=>?_;have ltp:=Heap.lt_size h3;refine⟨tp,o,c,k,t,x,h1',λz=>?_,Heap.get?_push_of_some _ (k1 _ _ (Heap.get?_push_of_some _ h3)),h4⟩;rcases List.mem_cons.mp z with z | z
  ·exact Nat.ne_of_lt ltp z
  ·exact Nat.ne_of_lt (Nat.lt_trans ltp hS1) (List.mem_singleton.mp z)
 ·obtain⟨h',g',d',tk',os'⟩:=s'
  have eg:g'=s.gens:=hm.gens;have ed:d'=s.drawn:=hm.drawn;have eo:os'=s.os:=hm.os;rw[eg];rw[ed];rw[eo];refine⟨rfl,h _ _ hD λb o e=>hm.heap b o (λz=>?_) (Heap.get?_push_of_some _ (k1 _ _ (Heap.get?_push_of_some _ e)))⟩;have ltb:=Heap.lt_size e;rcases List.mem_cons.mp z with z | z
  ·exact Nat.ne_of_lt ltb z
  ·exact Nat.ne_of_lt (Nat.lt_trans ltb hS1) (List.mem_singleton.mp z)
end
end Mini.Internal
variable{ks:List Str}
namespace Mini.Internal
open PySem PySem.W PyProof.Rows
theorem cG8{v:V}{y:Int×V}(h:cW0 v=some y):v=.tup [.int y.1,y.2]:=by
 cases v with
 |tup ys=>
  cases ys with
  |nil=>injection h
  |cons a r=>
   cases a with
   |int i=>
    cases r with
    |nil=>injection h
    |cons b r'=>
     cases r' with
     |nil=>rw[<- Option.some.inj (show some (i,b)=some y from h)]
     |cons y_ y_=>injection h
   |_=>injection h
 |_=>injection h
theorem dH6:∀{xs:List V} {us:List Value} {l:List (Int×V)},VRs W h io xs us->d7 cW0 xs=some l->∃ks:List (Int×Value),ks.map (·.1)=l.map (·.1) /\ VRs W h io (l.map (·.2)) (ks.map (·.2)) /\ ks.length=us.length /\ PqT h [] (λi v=>us[i]?=some v) ks
 |[],us,l,hv,hp=>by
  refine VRs.dNil hv ?_
  (refine aF hp λz1=>?_;clear hp;subst z1)
  exact⟨[],rfl,rfl,rfl,λi v q=>nomatch q⟩
 |x::xs,us,l,hv,hp=>by
  refine e2a3 (aL2 hp) λy ys z71 hx hxs=>?_;rw[z71];have ex:=cG8 hx;subst ex;refine VRs.dCons hv λu us k1 k2=>?_;refine e1a4 (dH6 k2 hxs) λks h1 h2 h3 h4=>?_;refine e3a3 k1 λa vs n z71 ha hvs=>?_;rw[z71];rcases vs with⟨vs⟩
  have hvs:VRs W h io [.int y.1,y.2] vs:=hvs;obtain⟨v1,y_,z71,⟨t,z72⟩,v2,y_,z73,q2,z74⟩:=hvs;subst z71;subst z72;subst z73;subst z74;refine⟨(y.1,v2)::ks,by rw[List.map_cons,List.map_cons,h1],⟨v2,_,rfl,q2,h2⟩,by rw[List.length_cons,List.length_cons,h3],λi v hv=>?_⟩
  cases i with
  |zero=>
   have e:Value.ref a=v:=Option.some.inj hv;exact⟨a,_,n,y.1,t,v2,e.symm,List.not_mem_nil,ha,rfl,rfl,rfl⟩
  |succ i=>exact h4 i v hv
theorem bM0(ok:WOk W)(hh:A.handled=none)(H:HR W s.heap io m){i:Nat}{p:Addr×Addr}{xs:List V}{l:List (Int×V)}(hi:io[i]?=some p)(hm:m[i]?=some (.list xs))(hp:aO0 xs=some l)(nd:(l.map (·.1)).Nodup):
  Si W [] A fs (VP W) (call (.type "dict") [.ref p.1]) s io m (alloc (.dict (l.map λx=>(.int x.1,x.2)) 0) m):=by
 refine hide λG_ g_=>?_;obtain⟨y_,ws,c,h1,h2,h3⟩:=H.obj _ _ _ hi hm;refine e1a4 (dH6 h2 hp) λks q1 q2 q3 q4=>?_;refine g_ ?_;clear g_ G_;intro y_;have hs:ws.size=xs.length:=by rw[<- h2.length,Array.length_toList]
 have kl:ks.length=ws.size:=by rw[q3];simp
 have ll:l.length=ks.length:=by have:=congrArg List.length q1;rw[List.length_map,List.length_map]at this;exact this.symm
 refine cV5 (prog:=W.prog) (w:=W.w) hh h1 (λi v hv=>q4 i v ((Array.getElem?_toList).trans hv)) kl (q1▸nd) (aL (by rw[hs];exact h3)) λh' tk hd hkeep=>?_;refine e3a6 hd λo' es' n2 d1 d2 d3 d4 d5 d6=>?_;have st:Step [] (frs fs) s.heap io m h' (io++[(s.heap.objs.size,s.heap.objs.size)]) (m++[.dict (l.map λx=>(.int x.1,x.2)) 0]):=eB H hkeep (aO _) (aO _);refine⟨_,_,_,rfl,st,H.alloc hkeep (aO _) (aO _) ⟨rfl,o',es',n2,d1,d2,d3,?_,?_,?_⟩,.ref (d:=s.heap.objs.size) ?_,rfl,rfl⟩
 ·refine ERs.of_pairs intEmb (λe he=>d4 e (Array.mem_toList_iff.mp he)) d5 ?_ ?_ λk u y_ hi=>by
   refine e1a1 (Value.isInt_shape (k:=k) (v:=u) hi) λt zz1=>?_;subst zz1;exact .int _ _
  ·have:=congrArg (List.map Ky.int) q1
   rw[List.map_map,List.map_map]at this;rw[List.map_map];exact this.symm
  ·rw[List.map_map]
   exact q2.step st
 ·have e:(l.map λx=>(Ky.int x.1,x.2)).map (·.1)=(l.map (·.1)).map Ky.int:=by rw[List.map_map,List.map_map];rfl
  rw[e];exact List.pairwise_map.mpr (List.Pairwise.imp (λq c=>q (dD2 c)) nd)
 ·rw[List.length_map,ll,kl,hs];exact h3
 ·rw[<- H.len];simp
end Mini.Internal
namespace Mini.Internal
open PySem
section
variable{own:List Addr}
theorem Si.res0'{P:Heap->Io->α->β->Prop}{t:Sem β}{R R':Res α}(e:R'=R)(x:Si W own A fs P t s io m R):Si W own A fs P t s io m R':=e▸x
theorem dK0{v:V}{o:Option MObj}(h:m[q]?=o):inV v (.ref q) m=(match (generalizing:=false) o with
  |some (.list ys)=>match d7 (rd cT m) ys,rd cT m v with
   |some ds,some d=>.ok (ds.any λe=>PyData.eqv e d) m
   |_,_=>.bad
  |some (.dict kvs _)=>match dP v with
   |some k=>if aN k kvs then .ok (look k kvs).isSome m else .bad
   |Option.none=>.bad
  |_=>.bad):=by subst h;rfl
theorem cN2{o1:Option (List PyData)}{o2:Option PyData}{f:List PyData->PyData->Res Bool}(h:∀a b,o1=some a->o2=some b->Si W own A fs BV t s io m (f a b)):Si W own A fs BV t s io m (match (generalizing:=false) o1,o2 with | some a,some b=>f a b | _,_=>.bad):=by
 cases o1 with
 |none=>exact Si.bad
 |some a=>
  cases o2 with
  |none=>exact Si.bad
  |some b=>exact h a b rfl rfl
theorem cO8(ok:WOk W)(H:HR W s.heap io m)(R:AR A fs n){v x:V}{u y:Value}(k:VR W s.heap io v u)(l:VR W s.heap io x y):
  Si W own A fs BV (compareOp .In u y) s io m (inV v x m):=by
 have hc:=R.cline
 induction l using VR.elim with
 | @tup a vs c xs g1 g2=>
  refine cN2 (o1:=d7 (rd cT m) xs) (o2:=rd cT m v) (f:=λds d=>.ok (ds.any λe=>PyData.eqv e d) m) λds d h1 h2=>?_;refine hide λG_ g_=>?_;obtain⟨⟨as,r1⟩,c1,d1⟩:=dI (bG H _) _ _ _ h1 g2;obtain⟨⟨bs,r2⟩,c2,d2⟩:=bG H _ _ _ _ h2 k;refine g_ ?_;clear g_ G_;intro y_;refine SeqAt.in_tuple_reads (.tuple g1 rfl rfl r1) r2 c1 c2 ?_ ⟨_,m,io,rfl,.refl,H,rfl,.refl _⟩;have h3:min (PyData.depthAll ds) d.depth <= 12:=Nat.le_trans (Nat.min_le_left _ _) d1;lia
 | @str x t okk=>
  induction k using VR.elim with
  | @str z t' okz=>
   show Si W own A fs BV _ s io m (match z.cps.toList with | [c]=>.ok (decide (c∈x.cps.toList)) m | _=>.bad)
   cases hz:z.cps.toList with
   |nil=>exact Si.bad
   |cons c r=>
    cases r with
    |cons d r=>exact Si.bad
    |nil=>
     have e:z=⟨#[c]⟩:=by
      rcases z with⟨⟨z'⟩⟩
      have hz:z'=[c]:=hz;subst hz;rfl
     rw[e];intro y_;refine P.in_str ?_;rw[StrLaws.found_one];exact⟨_,m,io,rfl,.refl,H,rfl,.refl _⟩
  |_=>exact Si.bad
 | @ref q a d g1=>
  cases hy:m[q]? with
  |none=>rw[dK0 hy];exact Si.bad
  |some ob=>
   rw[dK0 hy]
   cases ob with
   |list ys=>
    obtain⟨y_,vs,n',a1,a2,y_⟩:=H.obj _ _ _ g1 hy;refine cN2 (o1:=d7 (rd cT m) ys) (o2:=rd cT m v) (f:=λds d=>.ok (ds.any λe=>PyData.eqv e d) m) λds d h1 h2=>?_;refine hide λG_ g_=>?_;obtain⟨⟨as,r1⟩,c1,d1⟩:=dI (bG H _) _ _ _ h1 a2;obtain⟨⟨bs,r2⟩,c2,d2⟩:=bG H _ _ _ _ h2 k;refine g_ ?_;clear g_ G_;intro y_;refine SeqAt.in_list_reads (.list a1 rfl rfl r1) r2 c1 c2 ?_ ⟨_,m,io,rfl,.refl,H,rfl,.refl _⟩;have h3:min (PyData.depthAll ds) d.depth <= 12:=Nat.le_trans (Nat.min_le_left _ _) d1;lia
   |dict kvs e=>
    show Si W own A fs BV _ s io m (match dP v with | some k=>if aN k kvs then .ok (look k kvs).isSome m else .bad | Option.none=>.bad)
    cases hk:dP v with
    |none=>exact Si.bad
    |some ky=>
     by_cases hs:aN ky kvs=true
     ·exact .res0' (if_pos hs) λy_=>cY9 ok H R g1 hy k hk hs λtk=>⟨_,m,io,rfl,.refl,H,rfl,rfl,rfl⟩
     ·exact .res0' (if_neg hs) Si.bad
   |_=>exact Si.bad
 |_=>exact Si.bad
theorem aQ8{v:V}{f:Int->Int->Bool}(k:VR W s.heap io v u)(l:VR W s.heap io x y)(h:∀i j a b,u=.int i a->y=.int j b->Si W own A fs BV t s io m (.ok (f i j) m)):Si W own A fs BV t s io m ((match v,x with | .int i,.int j=>ret (f i j) | _,_=>bad) m):=by
 induction k using VR.elim with
 |int i a=>
  induction l using VR.elim with
  |int j b=>exact h i j a b rfl rfl
  |_=>exact Si.bad
 |_=>exact Si.bad
theorem aT3(ok:WOk W)(H:HR W s.heap io m)(R:AR A fs n){op:CmpOp}{v x:V}{u y:Value}(k:VR W s.heap io v u)(l:VR W s.heap io x y):
  Si W own A fs BV (compareOp op u y) s io m (aF0 op v x m):=by
 cases op with
 |Eq=>exact dL1 ok H R k l
 |NotEq=>exact dI4 ok H R k l
 |In=>exact cO8 ok H R k l
 |NotIn=>exact(cO8 ok H R k l).not λy_ y_ h=>bA9 h
 |Is=>exact cO4 H k l
 |IsNot=>exact(cO4 H k l).not λy_ y_ h=>bB6 h
 |Lt=>exact aQ8 k l λi j a b e1 e2=>by subst e1 e2;exact λy_=>P.lt_int ⟨_,m,io,rfl,.refl,H,rfl,rfl,rfl⟩
 |LtE=>exact aQ8 k l λi j a b e1 e2=>by subst e1 e2;exact λy_=>P.le_int ⟨_,m,io,rfl,.refl,H,rfl,rfl,rfl⟩
 |Gt=>exact aQ8 k l λi j a b e1 e2=>by subst e1 e2;exact λy_=>P.gt_int ⟨_,m,io,rfl,.refl,H,rfl,rfl,rfl⟩
 |GtE=>exact aQ8 k l λi j a b e1 e2=>by subst e1 e2;exact λy_=>P.ge_int ⟨_,m,io,rfl,.refl,H,rfl,rfl,rfl⟩
theorem cJ0(h:k.natAbs < 2 ^ 60):k < 2 ^ 63:=Int.lt_of_le_of_lt Int.le_natAbs (Int.lt_trans (Int.ofNat_lt.mpr h) (by decide))
theorem dJ3(h:k.natAbs < 2 ^ 60):-(2 ^ 63) <= k:=by
 have:=cJ0 (k:=-k) (by rw[Int.natAbs_neg];exact h);exact Int.neg_le_of_neg_le (Int.le_of_lt this)
theorem cQ5{xs:List α}{i:Int}{v:α}(h:at_ xs i=some v):∃k,seqIndex? i xs.length=some k /\ xs[k]?=some v:=by
 unfold at_ at h;by_cases h0:0 <= i
 ·rw[if_pos h0]at h
  have hlt:=(List.getElem?_eq_some_iff.mp h).1;refine⟨i.toNat,?_,h⟩;unfold seqIndex?;have h1:¬i < 0:=Int.not_lt.mpr h0;dsimp only;rw[if_neg h1,if_pos];rw[decide_eq_true h0,decide_eq_true ((Int.toNat_lt h0).mp hlt)];rfl
 ·rw[if_neg h0]at h;injection h
set_option tactic.hygienic true in
theorem bA1(slice:Expr)(o i:Value):∃ops,subscripted slice false o i=operate ops (getItem o i):=by
 cases (slice) <;> first | (exact⟨_,rfl⟩) | skip
 rename_i st _
 cases (st) <;> exact⟨_,rfl⟩
theorem aD5{value slice:Expr}{id:String}{P:Heap->Io->α->Value->Prop}{R:Res α}(x:Si W own A fs P (getItem u y) s io m R)(hT:s.TypeIs u T)(hl:typeLookup (.type T) "__getitem__"=pure (some (.builtin id))):
  Si W own A fs P (PyProof.Rows.subscriptTail value slice u y) s io m R:=by
 intro hne;refine e1a1 (bA1 slice u y) λops e=>?_;exact PyProof.Rows.tail_any hT hl (x hne) e
theorem VRs.get_arr{vs:Array Value}(x:VRs W h io xs vs.toList){k:Nat}{v:V}(hk:xs[k]?=some v):∃u,vs[k]?=some u /\ VR W h io v u:=by
 refine e1a2 (x.get hk) λu e r=>?_;exact⟨u,by rw[<- Array.getElem?_toList];exact e,r⟩
theorem VRs.size{vs:Array Value}(x:VRs W h io xs vs.toList):vs.size=xs.length:=by
 have:=x.length;rw[Array.length_toList]at this;exact this
theorem aU6{x:Str}{k:Nat}(ok:PyData.strOk x=true)(h:x.cps[k]?=some c):PyData.strOk ⟨#[c]⟩=true:=by
 unfold PyData.strOk at *;have:=Array.all_eq_true.mp ok k (Array.getElem?_eq_some_iff.mp h).1;rw[(Array.getElem?_eq_some_iff.mp h).2]at this;simpa using this
theorem cO9{o:Option MObj}(h:m[q]?=o):aO6 (.ref q) x m=(match (generalizing:=false) o with
  |some (.list xs)=>match x with
   |.int k=>if k.natAbs < 2 ^ 60 then ofO (at_ xs k) m else .bad
   |_=>.bad
  |some (.dict kvs _)=>match dP x with
   |some k=>if aN k kvs then ofO (look k kvs) m else .bad
   |Option.none=>.bad
  |_=>.bad):=by subst h;rfl
theorem bS5{P:Heap->Io->α->β->Prop}{t:Sem β}{c:Prop}[Decidable c]{R:Res α}(h:c->Si W own A fs P t s io m R):Si W own A fs P t s io m (if c then R else .bad):=by
 by_cases q:c
 ·rw[if_pos q];exact h q
 ·rw[if_neg q];exact Si.bad
theorem cF7{P:Heap->Io->α->β->Prop}{t:Sem β}{o:Option α}(h:∀a,o=some a->Si W own A fs P t s io m (.ok a m)):Si W own A fs P t s io m (ofO o m):=by
 cases o with
 |none=>exact Si.bad
 |some a=>exact h a rfl
set_option tactic.hygienic true in
theorem cZ1(H:HR W s.heap io m)(R:AR A fs n){value slice:Expr}{v x:V}{u y:Value}(k:VR W s.heap io v u)(l:VR W s.heap io x y):
  Si W own A fs (VP W) (PyProof.Rows.subscriptTail value slice u y) s io m (aO6 v x m):=by
 induction k using VR.elim with
 | @tup a vs n' xs g1 g2=>
  induction l using VR.elim with
  |int k t=>
   refine bS5 λhk=>cF7 λz q=>?_;refine hide λG_ g_=>?_;refine e1a2 (cQ5 q) λj e1 e2=>?_;refine e1a2 (g2.get_arr e2) λz' f1 f2=>?_;refine g_ ?_;clear g_ G_;refine aD5 (T:="tuple") (λy_=>P.getItem_tuple g1 (dJ3 hk) (cJ0 hk) (by rw[g2.size];exact e1) f1 (bR (tk:=s.toks) H f2)) ⟨_,g1,rfl⟩ F.slot_tuple_getitem.lookup
  |_=>exact Si.bad
 |str z t okz=>
  induction l using VR.elim with
  |int k t=>
   refine bS5 λhk=>?_
   cases q:at_ z.cps.toList k with
   |none=>exact Si.bad
   |some c=>
    refine e1a2 (cQ5 q) λj e1 e2=>?_;rw[Array.getElem?_toList]at e2;refine aD5 (T:="str") (λy_=>P.getItem_str (c:=c) (by rw[decide_eq_false (Int.not_lt.mpr (dJ3 hk)),decide_eq_false (Int.not_le.mpr (cJ0 hk))];rfl) ?_ (bR H (.str _ _ (aU6 okz e2)))) rfl F.slot_str_getitem.lookup;rw[Array.length_toList]at e1;rw[e1];exact e2
  |_=>exact Si.bad
 | @ref p a d g1=>
  cases hx:m[p]? with
  |none=>rw[cO9 hx];exact Si.bad
  |some ob=>
   rw[cO9 hx]
   cases ob with
   |list xs=>
    obtain⟨y_,vs,n',a1,a2,a3⟩:=H.obj _ _ _ g1 hx
    induction l using VR.elim with
    |int k t=>
     refine bS5 λhk=>cF7 λz q=>?_;refine aD5 (T:="list") (λy_=>?_) ⟨_,a1,rfl⟩ slot_list_getitem.lookup;unfold at_ at q
     split at q
     ·rename_i h0
      refine e1a2 (a2.get_arr q) λz' f1 f2=>?_;exact wpAny_getItem_list ⟨_,a1,rfl,_,rfl⟩ h0 (cJ0 hk) f1 (bR (tk:=s.toks) H f2)
     ·injection q
    |_=>exact Si.bad
   |dict kvs e=>
    obtain⟨y_,o,es,n',a1,a2,a3,y_⟩:=H.obj _ _ _ g1 hx
    cases hk:dP x with
    |none=>exact Si.bad
    |some ky=>exact bS5 λhs=>cF7 λz q=>aD5 (T:="dict") (λy_=>cK1 H R g1 hx l hk hs q λu' tk hu=>bR H hu) ⟨_,a1,a2.1⟩ slot_dict_getitem.lookup
   |_=>exact Si.bad
 | @scr ns l' o vs n' h1 h2 h3 h4 h5=>
  induction l using VR.elim with
  |int k t=>
   refine bS5 λhk=>cF7 λz q=>?_;have q':(ns.map V.int)[k.toNat]?=some z:=by rw[List.getElem?_map];exact q
   refine e1a2 ((h4.vrs (W:=W) (h:=s.heap) (io:=io)).get_arr q') λz' f1 f2=>?_;have hlt:k.toNat < ns.length:=by have:=(List.getElem?_eq_some_iff.mp q').1;simpa using this
   refine aD5 (T:="list") (λy_=>wpAny_getItem_list ⟨_,H.keep _ _ h1,h2,_,h3⟩ hk (Int.lt_of_lt_of_le ((Int.toNat_lt hk).mp hlt) (Int.ofNat_le.mpr (Nat.le_trans h5 (by decide:lid <= 2 ^ 63)))) f1 (bR (tk:=s.toks) H f2)) ⟨_,H.keep _ _ h1,h2⟩ slot_list_getitem.lookup
  |_=>exact Si.bad
 |_=>exact Si.bad
end
end Mini.Internal
variable{c:Bool}{x:Str}{k:Nat}{t:CT}
namespace Mini.Internal
open PySem
theorem bZ7{h l:Nat}(e:h - l=n)(k:h <= n):l=0 /\ h=n \/ n=0:=by
 cases l with
 |zero=>exact .inl ⟨rfl,e⟩
 |succ l=>
  cases h with
  |zero=>exact .inr (e.symm.trans (Nat.zero_sub _))
  |succ h=>exact absurd (e.symm▸k:h+1 <= h+1 - (l+1)) (Nat.not_le.mpr (Nat.lt_succ_of_le (by rw[Nat.succ_sub_succ];exact Nat.sub_le h l)))
theorem cG6(xs:List α)(a:Nat):∀c,(List.range c).filterMap (λk=>xs[a+k]?)=(xs.drop a).take c:=by
 intro c
 induction c with
 |zero=>simp
 |succ c ih=>
  rw[List.range_succ,List.filterMap_append,ih,List.take_add_one]
  congr 1
  rw[List.getElem?_drop,List.filterMap_cons,List.filterMap_nil]
  cases xs[a+c]? <;> rfl
theorem bT2(xs:List α){a b:Nat}(hb:b <= xs.length):(List.range (b - a)).filterMap (λk=>xs[a+k]?)=(xs.take b).drop a:=by
 rw[cG6,List.drop_take]
noncomputable def cO0(n:Nat)(lo:Option Int):Nat:=match lo with | some i=>eX n i | Option.none=>0
noncomputable def aW7(n:Nat)(hi:Option Int):Nat:=match hi with | some i=>eX n i | Option.none=>n
theorem aE9(xs:List α)(lo hi:Option Int):cut xs lo hi=(xs.take (aW7 xs.length hi)).drop (cO0 xs.length lo):=rfl
theorem aS4(n:Nat)(hi:Option Int):aW7 n hi <= n:=by
 cases hi with
 |none=>exact Nat.le_refl _
 |some i=>
  show eX n i <= n;unfold eX;by_cases h:0 <= i
  ·rw[if_pos h];exact Nat.min_le_right _ _
  ·rw[if_neg h]
   exact Int.toNat_le.mpr (Int.add_le_of_le_sub_right (by rw[Int.sub_self];exact Int.le_of_lt (Int.not_le.mp h)))
theorem dB6(n:Nat)(i:Int):(max 0 (min (if i < 0 then i+n else i) (n:Int)))=(eX n i:Int):=by
 unfold eX;by_cases h:0 <= i
 ·rw[if_neg (Int.not_lt.mpr h),if_pos h]
  rcases Int.le_total i (n:Int)with z | z
  ·rw[Int.min_eq_left z,Int.max_eq_right h,Nat.min_eq_left (Int.toNat_le.mpr z),Int.toNat_of_nonneg h]
  ·rw[Int.min_eq_right z,Int.max_eq_right (Int.natCast_nonneg n),Nat.min_eq_right ((Int.le_toNat h).mpr z)]
 ·have h':i < 0:=Int.not_le.mp h
  rw[if_pos h',if_neg h,Int.min_eq_left (Int.le_of_lt (by have:=Int.add_lt_add_right h' (n:Int);rwa [Int.zero_add]at this)),Int.toNat_eq_max,Int.max_comm]
theorem aY4(lo hi:Option Int)(n:Nat):sliceBounds lo hi none n=((cO0 n lo:Int),(aW7 n hi:Int),1):=by
 unfold sliceBounds cO0 aW7
 cases (lo) <;> cases (hi) <;> simp[dB6]
theorem aU8(a b:Nat):sliceRange (a:Int) (b:Int) 1=(List.range (b - a)).map λk=>a+k:=by
 unfold sliceRange;have e:(if (1:Int) > 0 then(if (a:Int) < b then((b:Int) - a+1 - 1) / 1 else 0)else(if (a:Int) > b then((a:Int) - b - 1 - 1) / (-1)else 0)).toNat=b - a:=by
  rw[if_pos (by decide)];by_cases h:(a:Int) < b
  ·rw[if_pos h,Int.ediv_one,Int.add_sub_cancel];exact Int.toNat_sub b a
  ·rw[if_neg h];exact(Nat.sub_eq_zero_of_le (Int.ofNat_le.mp (Int.not_lt.mp h))).symm
 simp only[e];refine List.map_congr_left λk y_=>by rw[Int.one_mul];exact Int.toNat_natCast (a+k)
theorem bF5(items:Array Value)(lo hi:Option Int):(slicePick items lo hi none).toList=cut items.toList lo hi:=by
 unfold slicePick;rw[aY4,aE9];simp only[aU8,List.filterMap_map];rw[Array.length_toList];rw[<- bT2 items.toList (b:=aW7 items.size hi) (a:=cO0 items.size lo) (by rw[Array.length_toList];exact aS4 _ _)]
 congr 1
 funext k
 simp only[Function.comp,Array.getElem?_toList]
set_option tactic.hygienic true in
theorem cT5(x:Str)(t:Tok)(l u:Option (Int×Tok)){Q:Value->Shared->Prop}{s:Shared}(h:∀t' tk,Q (.str ⟨(cut x.cps.toList (l.map (·.1)) (u.map (·.1))).toArray⟩ t') { s with toks:=tk })(hsz:x.length <= sizeLine):(sliceMade x t l u none).post Q s:=by
 have e1:slicePicked x l u none=(List.range (aW7 x.length (u.map (·.1)) - cO0 x.length (l.map (·.1)))).map λk=>cO0 x.length (l.map (·.1))+k:=by
  unfold slicePicked;have:Builtin.Str.strSliceIndices (l.map (·.1)) (u.map (·.1)) ((Option.map (·.1) (none:Option (Int×Tok))).getD 1) x.length=sliceRange (sliceBounds (l.map (·.1)) (u.map (·.1)) none x.length).1 (sliceBounds (l.map (·.1)) (u.map (·.1)) none x.length).2.1 1:=by
   cases (l) <;> cases (u) <;> rfl
  rw[this,aY4];exact aU8 _ _
 have e2:(slicePicked x l u none).filterMap (x.cps[·]?)=cut x.cps.toList (l.map (·.1)) (u.map (·.1)):=by
  rw[e1,List.filterMap_map,aE9,Array.length_toList];rw[<- bT2 x.cps.toList (b:=aW7 x.cps.size (u.map (·.1))) (a:=cO0 x.cps.size (l.map (·.1))) (by rw[Array.length_toList];exact aS4 _ _)]at ⊢;refine congrArg (λf=>List.filterMap f _) ?_
  funext k
  simp only[Function.comp,Array.getElem?_toList];rfl
 unfold sliceMade
 split
 ·rename_i hc
  have hlen:(slicePicked x l u none).length=x.length:=by simpa using hc
  have:cut x.cps.toList (l.map (·.1)) (u.map (·.1))=x.cps.toList:=by
   rw[aE9,Array.length_toList];rw[e1]at hlen;simp only[List.length_map,List.length_range]at hlen;have h1:=aS4 x.length (u.map (·.1));have h2:cO0 x.cps.size (l.map (·.1))=0 /\ aW7 x.cps.size (u.map (·.1))=x.cps.size \/ x.cps.size=0:=by
    exact bZ7 hlen h1
   rcases h2 with⟨h2,h3⟩ | h2
   ·rw[h2,h3,<- Array.length_toList,List.drop_zero,List.take_length]
   ·have:x.cps.toList=[]:=List.eq_nil_of_length_eq_zero (by rw[Array.length_toList];exact h2)
    rw[this];simp
  have h':=h t s.toks;rw[this]at h';exact h'
 ·rw[e2]
  refine⟨?_,h _ _⟩;show(cut x.cps.toList (l.map (·.1)) (u.map (·.1))).toArray.size <= sizeLine;rw[List.size_toArray,aE9,List.length_drop,List.length_take,Array.length_toList];exact Nat.le_trans (Nat.sub_le _ _) (Nat.le_trans (Nat.min_le_right _ _) hsz)
section
variable{own:List Addr}
theorem VRs.cut(x:VRs W h io xs vs)(lo hi:Option Int):VRs W h io (Mini.Internal.cut xs lo hi) (Mini.Internal.cut vs lo hi):=by
 rw[aE9,aE9,x.length];exact(x.take _).drop _
theorem aP1(xs:List α)(lo hi:Option Int):(Mini.Internal.cut xs lo hi).length <= xs.length:=by
 rw[aE9,List.length_drop,List.length_take];exact Nat.le_trans (Nat.sub_le _ _) (Nat.min_le_right _ _)
theorem bR3(ok:PyData.strOk x=true)(lo hi:Option Int):PyData.strOk ⟨(Mini.Internal.cut x.cps.toList lo hi).toArray⟩=true:=by
 unfold PyData.strOk at *;rw[List.all_toArray,List.all_eq_true];intro c hc;rw[aE9]at hc;have:=List.mem_of_mem_take (List.mem_of_mem_drop hc);exact Array.all_eq_true_iff_forall_mem.mp ok c (Array.mem_toList_iff.mp this)
theorem aJ0{v:V}{o:Option Int}(k:VR W s.heap io v u)(h:aK8 v=some o):IsPart u o:=by
 induction k using VR.elim with
 |none=>(refine aF h λz1=>?_;clear h;subst z1);exact .none
 |int i t=>
  by_cases q:i.natAbs < 2 ^ 60
  ·have h:some (some i)=some o:=(if_pos q).symm.trans h
   (refine aF h λz1=>?_;clear h;rw[<- z1]);exact .int _ _
  ·exact nomatch (show Option.none=some o from(if_neg q).symm.trans h)
 |_=>injection h
theorem aD6{value slice:Expr}{id:String}{P:Heap->Io->α->Value->Prop}{R:Res α}(hT:s.TypeIs u T)(hl:typeLookup (.type T) "__getitem__"=pure (some (.builtin id)))(x:wpAny (model W.prog W.w) A (getItem u y) (NP W own (frs fs) s io m P R) (XP W own fs s io m R) s):Si W own A fs P (PyProof.Rows.subscriptTail value slice u y) s io m R:=aD5 (λy=>x) hT hl
theorem aV6{v:V}{o:Option Int}(k:VR W s.heap io v u)(h:aK8 v=some o):∃q:Option (Int×Tok),u=partValue q /\ q.map (·.1)=o:=by
 cases aJ0 k h with
 |none=>exact⟨none,rfl,rfl⟩
 |int i t=>exact⟨some (i,t),rfl,rfl⟩
theorem aA7{xs l:List α}{lo hi:V}(h:dH xs lo hi .none=some l):∃a b,aK8 lo=some a /\ aK8 hi=some b /\ l=Mini.Internal.cut xs a b:=by
 have h:(match aK8 lo,aK8 hi with | some a,some b=>some (cut xs a b) | _,_=>none)=some l:=h
 cases h1:aK8 lo with
 |none=>rw[h1]at h;injection h
 |some a=>
  cases h2:aK8 hi with
  |none=>rw[h1,h2]at h;injection h
  |some b=>rw[h1,h2]at h;(refine aF h λz1=>?_;clear h;rw[<- z1]);exact⟨a,b,rfl,rfl,rfl⟩
set_option tactic.hygienic true in
theorem bS3(H:HR W s.heap io m){value slice:Expr}{v lo hi st:V}{u ul uh us:Value}{sl:Addr}(k:VR W s.heap io v u)(kl:VR W s.heap io lo ul)(kh:VR W s.heap io hi uh)(ks:VR W s.heap io st us)(hs:s.heap.IsSliceOf sl ul uh us):
  Si W own A fs (VP W) (PyProof.Rows.subscriptTail value slice u (.ref sl)) s io m (fW v lo hi st m):=by
 unfold fW
 split
 ·rename_i z
  refine VR.dStr k λt okz=>?_
  split
  ·subst ks
   split
   ·rename_i hl
    cases q:dH z.cps.toList lo hi .none with
    |none=>exact Si.bad
    |some l=>
     refine hide λG_ g_=>?_;refine e2a3 (aA7 q) λa b h1 h2 zz1=>?_;subst zz1;refine e1a2 (aV6 kl h1) λql zz1=>?_;subst zz1;intro zz2;subst zz2;refine e1a2 (aV6 kh h2) λqh zz1=>?_;subst zz1;intro zz2;subst zz2;refine g_ ?_;clear g_ G_;refine aD6 (T:="str") rfl F.slot_str_getitem.lookup ?_;refine e1a3 hs λo ho hc hd=>?_;refine wpAny_getItem_str_slice (l:=ql) (u:=qh) (st:=none) ⟨o,ho,hc,hd⟩ (by decide) ?_;exact cT5 z t ql qh (λt' tk=>bR H (.str _ _ (bR3 okz _ _))) (aL hl)
   ·exact Si.bad
  ·exact Si.bad
 ·refine VR.dRef k λy_ y_ g1=>?_
  split
  ·rename_i xs hx
   obtain⟨y_,vs,n',a1,a2,a3⟩:=H.obj _ _ _ g1 hx;have ll:=a2.size
   split
   ·subst ks
    cases q:dH xs lo hi .none with
    |none=>exact Si.bad
    |some l=>
     refine e2a3 (aA7 q) λa b h1 h2 zz1=>?_;subst zz1;refine aD6 (T:="list") ⟨_,a1,rfl⟩ slot_list_getitem.lookup ?_;refine wpAny_getItem_list_slice ⟨_,a1,rfl,_,rfl⟩ hs (aJ0 kl h1) (aJ0 kh h2) .none (by simp) (aR3 H ?_ ?_) (aL (by lia))
     ·rw[bF5];exact a2.cut _ _
     ·exact Nat.le_trans (aP1 _ _ _) a3
   ·exact Si.bad
  ·exact Si.bad
 ·rename_i ns
  refine VR.dScr k λl' o vs n' h1 h2 h3 h4 h5=>?_
  split
  ·subst ks
   cases q:dH (ns.map V.int) lo hi .none with
   |none=>exact Si.bad
   |some l=>
    refine e2a3 (aA7 q) λa b e1 e2 zz1=>?_;subst zz1;have ll:vs.size=ns.length:=by have:=h4.length;rw[Array.length_toList]at this;exact this
    refine aD6 (T:="list") ⟨_,H.keep _ _ h1,h2⟩ slot_list_getitem.lookup ?_;refine wpAny_getItem_list_slice ⟨_,H.keep _ _ h1,h2,_,h3⟩ hs (aJ0 kl e1) (aJ0 kh e2) .none (by simp) (aR3 H ?_ ?_) (aL (by lia))
    ·rw[bF5];exact h4.vrs.cut _ _
    ·exact Nat.le_trans (aP1 _ _ _) (by simpa using h5)
  ·exact Si.bad
 ·exact Si.bad
end
end Mini.Internal
variable{vs:List V}{y:Str}
namespace Mini.Internal
open PySem PySem.W
structure Sit(W:Wd)(fs:List Env)(env:Env)(vis:List (Option Str))(s:Shared)(io:Io)(m:MH)(r:Lo):Prop where
 H:HR W s.heap io m
 F:FR W s.heap io env vis r
 G:FF W s.heap io fs
section
theorem Sit.step(Z:Sit W fs env vis s io m r)(H:HR W s'.heap io' m')(st:Step [] fr s.heap io m s'.heap io' m'):Sit W fs env vis s' io' m' r:=⟨H,Z.F.step0 Z.H st,Z.G.step0 st⟩
noncomputable def SiE(W:Wd)(A:Around)(fs:List Env)(env:Env)(vis:List (Option Str))(t:Sem Value)(c:Lo->Mn V):Prop:=
 ∀(s:Shared) (io:Io) (m:MH) (r:Lo),Sit W fs env vis s io m r->Si W [] A fs (VP W) t s io m (c r m)
noncomputable def SiB(W:Wd)(A:Around)(fs:List Env)(env:Env)(vis:List (Option Str))(t:Sem Bool)(c:Lo->Mn Bool):Prop:=
 ∀(s:Shared) (io:Io) (m:MH) (r:Lo),Sit W fs env vis s io m r->Si W [] A fs BP t s io m (c r m)
noncomputable def SiL(W:Wd)(A:Around)(fs:List Env)(env:Env)(vis:List (Option Str))(t:Sem (List Value))(c:Lo->Mn (List V)):Prop:=
 ∀(s:Shared) (io:Io) (m:MH) (r:Lo),Sit W fs env vis s io m r->Si W [] A fs (VsP W) t s io m (c r m)
variable{a b c:Expr}{cc:Lo->Mn V}
theorem bZ5{v:Lt}{k:Const}(h:(match v,k with | .none,.none=>true | .bool b,.bool d=>b == d | .int i,.int j=>i == j | .str x,.str y=>x == y&&PyData.strOk x | _,_=>false)=true):SiE W A fs env vis (eval (.Constant k j pos) env) (λy_=>ret v.val):=by
 intro s io m r Z
 cases (v) <;> cases (k) <;> first | (exact absurd h Bool.false_ne_true) | skip
 ·exact λy_=>wpAny_Constant_none (bR (tk:=s.toks) Z.H .none)
 ·rw[beq_iff_eq.mp h]
  exact λy_=>wpAny_Constant_bool (bR (tk:=s.toks) Z.H (.bool _))
 ·rw[beq_iff_eq.mp h]
  exact λy_=>wpAny_Constant_int (bR Z.H (.int _ _))
 ·simp only[Bool.and_eq_true,beq_iff_eq]at h
  rw[<- h.1];exact λy_=>wpAny_Constant_str (bR Z.H (.str _ _ h.2))
theorem e_var(hv:vis[i]?=some (some x))(hk:env.kindOf x=some .local \/ env.kindOf x=some .cell \/ env.kindOf x=some .free)(hd:(x == ("__debug__":Str))=false)(hc:(x == ("__classdict__":Str))=false):
    SiE W A fs env vis (eval (.Name x pos) env) (λr=>match r[i]? with | some (some v)=>ret v | _=>bad):=by
  intro s io m r Z;have key:∀o:Option (Option V),r[i]?=o->Si W [] A fs (VP W) (eval (.Name x pos) env) s io m ((match o with | some (some v)=>ret v | _=>bad:Mn V) m):=by
   intro o hr
   match o,hr with
   |none,_=>exact .bad
   |some none,_=>exact .bad
   |some (some v),hr=>
    intro y_;refine wpAny_Name ?_ hd;rcases hk with hk | hk | hk
    · refine hide λG_ g_=>?_
      refine e1a2 Z.F.loc λmp hn hl=>?_;refine e1a2 (hl i x v hv hr hk) λu e k=>?_;refine g_ ?_;clear g_ G_;exact wpAny_loadName_local Z.F.kind hk hn e (bR (tk:=s.toks) Z.H k)
    · refine e2a3 (Z.F.cel i x v hv hr (.inl hk)) λc u e k1 k2=>?_
      exact wpAny_loadName_cell Z.F.kind hk e k1 (bR (tk:=s.toks) Z.H k2)
    · refine e2a3 (Z.F.cel i x v hv hr (.inr hk)) λc u e k1 k2=>?_
      exact wpAny_loadName_free Z.F.kind hk e k1 (bR (tk:=s.toks) Z.H k2) hc
  exact key _ rfl
theorem e_bin{op:Operator}(ha:SiE W A fs env vis (eval a env) ca)(hb:SiE W A fs env vis (eval b env) cb):
  SiE W A fs env vis (eval (.BinOp a op b pos) env) (λr=>bnd (ca r) λx=>bnd (cb r) λy=>cA8 op x y):=by
 intro s io m r Z;rw[eval_BinOp];refine Si.bind (ha s io m r Z) λu s₁ io₁ m₁ v y_ st H₁ k sm=>?_;refine Si.bind (Si.holding (hb _ _ _ r (Z.step H₁ st))) λu' s₂ io₂ m₂ v' y_ st₂ H₂ k₂ sm₂=>?_;exact .standAt (.operate (dB8 H₂ (VR.step st₂ k) k₂))
theorem e_not(ha:SiE W A fs env vis (eval a env) ca):SiE W A fs env vis (eval (.UnaryOp .Not a pos) env) (λr=>bnd (ca r) λx=>bnd (eY x) λb=>ret (.bool (!b))):=by
 intro s io m r Z;rw[arm_eval_UnaryOp];refine Si.bind (ha s io m r Z) λu s₁ io₁ m₁ v y_ st H₁ k sm=>.standAt (.holding ?_);refine Si.holding (t:=truthy u >>= λb=>Pure.pure (Value.bool (!b))) ?_;refine Si.bind (aH9 H₁ k) λb s₂ io₂ m₂ b' y_ y_ H₂ k₂ y_=>?_;subst k₂;exact .pure H₂ (.bool _)
theorem e_ite{test:Expr}(ht:SiB W A fs env vis (isTrue test env (eval test env)) ct)(ha:SiE W A fs env vis (eval a env) ca)(hb:SiE W A fs env vis (eval b env) cb):
  SiE W A fs env vis (eval (.IfExp test a b pos) env) (λr=>bnd (ct r) λt=>if t then ca r else cb r):=by
 intro s io m r Z;rw[arm_eval_IfExp];refine Si.bind (ht s io m r Z) λu s₁ io₁ m₁ v y_ st H₁ k sm=>?_;subst k
 cases (v)
 ·exact hb _ _ _ r (Z.step H₁ st)
 ·exact ha _ _ _ r (Z.step H₁ st)
theorem e_idx(R:AR A fs n)(ha:SiE W A fs env vis (eval a env) ca)(hb:SiE W A fs env vis (eval b env) cb):
  SiE W A fs env vis (eval (.Subscript a b pos) env) (λr=>bnd (ca r) λx=>bnd (cb r) λy=>aO6 x y):=by
 intro s io m r Z;rw[arm_eval_Subscript];refine Si.bind (ha s io m r Z) λu s₁ io₁ m₁ v y_ st H₁ k sm=>?_;refine Si.bind (Si.holding (hb _ _ _ r (Z.step H₁ st))) λu' s₂ io₂ m₂ v' y_ st₂ H₂ k₂ sm₂=>?_;exact .standAt (cZ1 H₂ R (VR.step st₂ k) k₂)
theorem bX{γ:Type}(x:Mn α)(f:α->Mn β)(g:β->Mn γ):bnd (bnd x f) g=bnd x λa=>bnd (f a) g:=by
 funext m
 show((x m).bind f).bind g=(x m).bind λa m=>(f a m).bind g
 cases x m <;> rfl
theorem l_nil:SiL W A fs env vis (spliced (backTo pos (starEach [] env))) (λy_=>ret []):=λy_ y_ y_ y_ Z=>.pure Z.H .nil
theorem dI9(ha:SiE W A fs env vis (eval a env) ca)(hl:SiL W A fs env vis (spliced (backTo pos (starEach rest env))) cl)(he:starEach (a::rest) env=(false,eval a env)::starEach rest env):
  SiL W A fs env vis (spliced (backTo pos (starEach (a::rest) env))) (λr=>bnd (ca r) λx=>bnd (cl r) λxs=>ret (x::xs)):=by
 intro s io m r Z;rw[he];show Si W [] A fs (VsP W) (eval a env >>= λv=>(PySem.holding [v] (spliced (backTo pos (starEach rest env)))) >>= λvs=>Pure.pure (v::vs)) s io m _;refine Si.bind (ha s io m r Z) λu s₁ io₁ m₁ v y_ st H₁ k sm=>?_;refine Si.bind (Si.holding (hl _ _ _ r (Z.step H₁ st))) λu' s₂ io₂ m₂ v' y_ st₂ H₂ k₂ sm₂=>?_;exact .pure H₂ (.cons (VR.step st₂ k) k₂)
theorem e_tup(hl:SiL W A fs env vis (spliced (backTo pos (starEach es env))) cl)(hn:∀r m vs m',cl r m=.ok vs m'->vs.length <= lid):SiE W A fs env vis (eval (.Tuple es j pos) env) (λr=>bnd (cl r) λvs=>ret (.tup vs)):=by
 intro s io m r Z;rw[arm_eval_Tuple];refine .standAt (Si.bind (hl s io m r Z) λu s₁ io₁ m₁ v e st H₁ k sm=>?_);exact λy_=>wpAny_newTuple (dI1 (tk:=s₁.toks) H₁ k) (by have:=hn _ _ _ _ e;rw[<- k.length]at this;exact aL this)
theorem dL4(hl:SiL W A fs env vis (spliced (backTo pos (starEach es env))) cl)(hn:∀r m vs m',cl r m=.ok vs m'->vs.length <= lid):SiE W A fs env vis (eval (.List es pos) env) (λr=>bnd (cl r) λvs=>alloc (.list vs)):=by
 intro s io m r Z;rw[arm_eval_List];refine .standAt (Si.bind (hl s io m r Z) λu s₁ io₁ m₁ v e st H₁ k sm=>?_);exact λy_=>wpAny_newList (aR3 (tk:=s₁.toks) H₁ k (hn _ _ _ _ e)) (by have:=hn _ _ _ _ e;rw[<- k.length]at this;exact aL this)
theorem b_one(ha:SiE W A fs env vis (eval a env) ca):SiE W A fs env vis (boolOp pos op (evalEach [a] env)) ca:=ha
theorem dN0{c:Bool}(hop:(op=.And /\ c=true) \/ (op=.Or /\ c=false))(ha:SiE W A fs env vis (eval a env) ca)(hb:SiE W A fs env vis (boolOp pos op (evalEach (b::rest) env)) cb):
  SiE W A fs env vis (boolOp pos op (evalEach (a::b::rest) env)) (λr=>bnd (ca r) λx=>bnd (eY x) λt=>if t == c then cb r else ret x):=by
 intro s io m r Z;rcases hop with⟨rfl,rfl⟩ | ⟨rfl,rfl⟩ <;>
 refine Si.bind (ha s io m r Z) λu s₁ io₁ m₁ v y_ st H₁ k sm=>.standAt ?_ <;>
 refine Si.bind (Si.holding (aH9 H₁ k)) λt s₂ io₂ m₂ t' y_ st₂ H₂ k₂ sm₂=>?_ <;>
 subst k₂ <;> cases (t')
 ·exact .pure H₂ (VR.step st₂ k)
 ·exact hb _ _ _ r ((Z.step H₁ st).step H₂ st₂)
 ·exact hb _ _ _ r ((Z.step H₁ st).step H₂ st₂)
 ·exact .pure H₂ (VR.step st₂ k)
noncomputable def SiC(W:Wd)(A:Around)(fs:List Env)(env:Env)(vis:List (Option Str))(t:Value->Sem Value)(c:V->Lo->Mn V):Prop:=
 ∀(s:Shared) (io:Io) (m:MH) (r:Lo) (x:V) (u:Value),Sit W fs env vis s io m r->VR W s.heap io x u->Si W [] A fs (VP W) (t u) s io m (c x r m)
noncomputable def dN5(W:Wd)(A:Around)(fs:List Env)(env:Env)(vis:List (Option Str))(t:Value->Sem Bool)(c:V->Lo->Mn V):Prop:=
 ∀(s:Shared) (io:Io) (m:MH) (r:Lo) (x:V) (u:Value),Sit W fs env vis s io m r->VR W s.heap io x u->Si W [] A fs BP (t u) s io m (bnd (c x r) eY m)
theorem aO5{op:CmpOp}(hb:behindInMarks op b=false):markedEach [op] [b] (evalEach [b] env)=[eval b env]:=by
 show[markedBehindIn op b (eval b env)]=_;rw[markedBehindIn_of_false hb]
theorem c_one(ok:WOk W)(R:AR A fs n){op:CmpOp}(hm:behindInMarks op b=false)(hb:SiE W A fs env vis (eval b env) cb):
  SiC W A fs env vis (λu=>compareChain pos u [op] (markedEach [op] [b] (evalEach [b] env))) (λx r=>bnd (cb r) λy=>bnd (aF0 op x y) λc=>ret (.bool c)):=by
 intro s io m r x u Z k;rw[aO5 hm];refine Si.bind (Si.holding (hb _ _ _ r Z)) λu' s₂ io₂ m₂ v' y_ st₂ H₂ k₂ sm₂=>.standAt (.operate ?_);have:=aT3 (own:=[]) ok H₂ R (op:=op) (VR.step st₂ k) k₂;intro hne;refine wpAny_mono (this (Res.bind_ne hne)) (λu s' p=>?_) λe s' p=>p.bind .refl (.refl _);obtain⟨v,m',io',e,a1,a2,a3,a4⟩:=p;subst a3;exact⟨.bool v,m',io',by show(aF0 op x v' m₂).bind _=_;rw[e];rfl,a1,a2,.bool v,a4⟩
theorem dM3(ok:WOk W)(R:AR A fs n){op:CmpOp}{op':CmpOp}{ops:List CmpOp}{b':Expr}{rest:List Expr}{cc:V->Lo->Mn V}(hb:SiE W A fs env vis (eval b env) cb)(hc:SiC W A fs env vis (λu=>compareChain pos u (op'::ops) (markedEach (op'::ops) (b'::rest) (evalEach (b'::rest) env))) cc):
  SiC W A fs env vis (λu=>compareChain pos u (op::op'::ops) (markedEach (op::op'::ops) (b::b'::rest) (evalEach (b::b'::rest) env))) (λx r=>bnd (cb r) λy=>bnd (aF0 op x y) λc=>if c then cc y r else ret (.bool false)):=by
 intro s io m r x u Z k;refine Si.bind (Si.holding (hb _ _ _ r Z)) λu' s₂ io₂ m₂ v' y_ st₂ H₂ k₂ sm₂=>.standAt ?_;refine Si.bind (Si.holding (aT3 ok H₂ R (VR.step st₂ k) k₂)) λu₃ s₃ io₃ m₃ v₃ y_ st₃ H₃ k₃ sm₃=>?_;subst k₃;have:Si W [] A fs (VP W) (PySem.holding [.bool v₃,u'] (truthy (.bool v₃)) >>= λt=>if t then compareChain pos u' (op'::ops) (markedEach (op'::ops) (b'::rest) (evalEach (b'::rest) env))else Pure.pure (.bool v₃)) s₃ io₃ m₃ ((if v₃ then cc v' r else ret (.bool false)) m₃):=by
  intro hne;refine wpAny_bind (wpAny_holding (wpAny_truthy_bool ?_))
  cases (v₃)
  ·exact Si.pure (own:=[]) (A:=A) (fs:=fs) H₃ (.bool false) hne
  ·exact hc _ _ _ r v' u' ((Z.step H₂ st₂).step H₃ st₃) (VR.step st₃ k₂) hne
 exact λhne=>wpAny_bind (wpAny_release (this hne))
theorem t_one(ok:WOk W)(R:AR A fs n){op:CmpOp}(hm:behindInMarks op b=false)(hb:SiE W A fs env vis (eval b env) cb):
  dN5 W A fs env vis (λu=>testChain pos u [op] (markedEach [op] [b] (evalEach [b] env))) (λx r=>bnd (cb r) λy=>bnd (aF0 op x y) λc=>ret (.bool c)):=by
 intro s io m r x u Z k;show Si W [] A fs BP (testChain pos u [op] (markedEach [op] [b] (evalEach [b] env))) s io m _;rw[aO5 hm,bX];refine Si.bind (Si.holding (hb _ _ _ r Z)) λu' s₂ io₂ m₂ v' y_ st₂ H₂ k₂ sm₂=>.standAt ?_;rw[bX];refine Si.bind (Si.operate (aT3 ok H₂ R (VR.step st₂ k) k₂)) λu₃ s₃ io₃ m₃ v₃ y_ st₃ H₃ k₃ sm₃=>.holding ?_;subst k₃;exact λy_=>wpAny_truthy_bool ⟨v₃,m₃,io₃,rfl,.refl,H₃,rfl,.refl _⟩
theorem dF8(ok:WOk W)(R:AR A fs n){op:CmpOp}{op':CmpOp}{ops:List CmpOp}{b':Expr}{rest:List Expr}{cc:V->Lo->Mn V}(hb:SiE W A fs env vis (eval b env) cb)(hc:dN5 W A fs env vis (λu=>testChain pos u (op'::ops) (markedEach (op'::ops) (b'::rest) (evalEach (b'::rest) env))) cc):
  dN5 W A fs env vis (λu=>testChain pos u (op::op'::ops) (markedEach (op::op'::ops) (b::b'::rest) (evalEach (b::b'::rest) env))) (λx r=>bnd (cb r) λy=>bnd (aF0 op x y) λc=>if c then cc y r else ret (.bool false)):=by
 intro s io m r x u Z k;rw[bX];refine Si.bind (Si.holding (hb _ _ _ r Z)) λu' s₂ io₂ m₂ v' y_ st₂ H₂ k₂ sm₂=>.standAt ?_;rw[bX];refine Si.bind (Si.holding (aT3 ok H₂ R (VR.step st₂ k) k₂)) λu₃ s₃ io₃ m₃ v₃ y_ st₃ H₃ k₃ sm₃=>?_;subst k₃;have:Si W [] A fs BP (PySem.holding [.bool v₃,u'] (truthy (.bool v₃)) >>= λt=>if t then testChain pos u' (op'::ops) (markedEach (op'::ops) (b'::rest) (evalEach (b'::rest) env))else Pure.pure false) s₃ io₃ m₃ (bnd (if v₃ then cc v' r else ret (.bool false)) eY m₃):=by
  intro hne;refine wpAny_bind (wpAny_holding (wpAny_truthy_bool ?_))
  cases (v₃)
  ·exact Si.pure (own:=[]) (A:=A) (fs:=fs) (v:=false) H₃ rfl hne
  ·exact hc _ _ _ r v' u' ((Z.step H₂ st₂).step H₃ st₃) (VR.step st₃ k₂) hne
 exact λhne=>wpAny_bind (wpAny_release (this hne))
theorem e_cmp{cc:V->Lo->Mn V}(ha:SiE W A fs env vis (eval a env) ca)(hc:SiC W A fs env vis (λu=>compareChain pos u ops (markedEach ops bs (evalEach bs env))) cc):
  SiE W A fs env vis (eval (.Compare a ops bs pos) env) (λr=>bnd (ca r) λx=>cc x r):=by
 intro s io m r Z;rw[arm_eval_Compare];exact Si.bind (ha s io m r Z) λu s₁ io₁ m₁ v y_ st H₁ k sm=>hc _ _ _ r v u (Z.step H₁ st) k
theorem t_cmp{cc:V->Lo->Mn V}(ha:SiE W A fs env vis (eval a env) ca)(hc:dN5 W A fs env vis (λu=>testChain pos u ops (markedEach ops bs (evalEach bs env))) cc):
  SiB W A fs env vis (isTrue (.Compare a ops bs pos) env whole) (λr=>bnd (bnd (ca r) λx=>cc x r) eY):=by
 intro s io m r Z;show Si W [] A fs BP _ s io m (bnd (bnd (ca r) λx=>cc x r) eY m);rw[bX];show Si W [] A fs BP (eval a env >>= λu=>testChain pos u ops (markedEach ops bs (evalEach bs env))) s io m _;exact Si.bind (ha s io m r Z) λu s₁ io₁ m₁ v y_ st H₁ k sm=>hc _ _ _ r v u (Z.step H₁ st) k
theorem t_val(ha:SiE W A fs env vis (eval a env) ca)(hs:isTrue a env (eval a env)=(do let v <- eval a env;PySem.standAt a.pos;PySem.holding [v] (truthy v))):SiB W A fs env vis (isTrue a env (eval a env)) (λr=>bnd (ca r) eY):=by
 intro s io m r Z;rw[hs];exact Si.bind (ha s io m r Z) λu s₁ io₁ m₁ v y_ st H₁ k sm=>.standAt (.holding (aH9 H₁ k))
theorem t_not(ha:SiB W A fs env vis (isTrue a env (eval a env)) ct):SiB W A fs env vis (isTrue (.UnaryOp .Not a pos) env whole) (λr=>bnd (ct r) λb=>ret (!b)):=by
 intro s io m r Z;refine Si.bind (ha s io m r Z) λu s₁ io₁ m₁ v y_ st H₁ k sm=>?_;subst k;exact .pure H₁ rfl
theorem t_nil{c:Bool}(hop:(op=.And /\ c=true) \/ (op=.Or /\ c=false)):SiB W A fs env vis (allTrue op [] env) (λy_=>ret c):=by
 intro s io m r Z;rcases hop with⟨rfl,rfl⟩ | ⟨rfl,rfl⟩
 ·exact .pure (u:=true) Z.H rfl
 ·exact .pure (u:=false) Z.H rfl
theorem dF9{c:Bool}{cts:Lo->Mn Bool}(hop:(op=.And /\ c=true) \/ (op=.Or /\ c=false))(ha:SiB W A fs env vis (isTrue a env (eval a env)) ct)(hb:SiB W A fs env vis (allTrue op rest env) cts):
  SiB W A fs env vis (allTrue op (a::rest) env) (λr=>bnd (ct r) λb=>if b == c then cts r else ret b):=by
 intro s io m r Z;rcases hop with⟨rfl,rfl⟩ | ⟨rfl,rfl⟩ <;>
 refine Si.bind (ha s io m r Z) λt s₁ io₁ m₁ v y_ st H₁ k sm=>?_ <;>
 subst k <;> cases (v)
 ·exact .pure H₁ rfl
 ·exact hb _ _ _ r (Z.step H₁ st)
 ·exact hb _ _ _ r (Z.step H₁ st)
 ·exact .pure H₁ rfl
theorem t_all(h:SiB W A fs env vis (allTrue op es env) ct):SiB W A fs env vis (isTrue (.BoolOp op es pos) env whole) ct:=h
noncomputable def SiO(W:Wd)(A:Around)(fs:List Env)(env:Env)(vis:List (Option Str))(o:Option Expr)(c:Lo->Mn V):Prop:=SiE W A fs env vis (valueOrNone (evalOpt o env)) c
theorem dH9:SiO W A fs env vis none (λy_=>ret .none):=λy_ y_ y_ y_ Z=>.pure Z.H .none
theorem dH8(ha:SiE W A fs env vis (eval a env) ca):SiO W A fs env vis (some a) ca:=ha
noncomputable def SlP(W:Wd)(h:Heap)(io:Io)(p:V×V×V)(u:Value):Prop:=∃sl ul uh us,u=.ref sl /\ h.IsSliceOf sl ul uh us /\ VR W h io p.1 ul /\ VR W h io p.2.1 uh /\ VR W h io p.2.2 us
theorem cL7{lo hi st:Option Expr}{cl ch cs:Lo->Mn V}(hl:SiO W A fs env vis lo cl)(hh:SiO W A fs env vis hi ch)(hs:SiO W A fs env vis st cs)(Z:Sit W fs env vis s io m r):
  Si W [] A fs (SlP W) (eval (.Slice lo hi st pos) env) s io m (bnd (cl r) (λl=>bnd (ch r) λh=>bnd (cs r) λt=>ret (l,h,t)) m):=by
 rw[arm_eval_Slice];refine Si.bind (hl _ _ _ r Z) λul s₁ io₁ m₁ vl y_ st₁ H₁ k₁ y_=>?_;have Z₁:=Z.step H₁ st₁;refine Si.bind (Si.holding (hh _ _ _ r Z₁)) λuh s₂ io₂ m₂ vh y_ st₂ H₂ k₂ y_=>?_;have Z₂:=Z₁.step H₂ st₂;refine Si.bind (Si.holding (hs _ _ _ r Z₂)) λus s₃ io₃ m₃ vs y_ st₃ H₃ k₃ y_=>?_;have st4:Step [] (frs fs) s₃.heap io₃ m₃ (s₃.heap.push { cls:=.type "slice",data:=.fields #[ul,uh,us] }) io₃ m₃:=.of_keeps H₃ (aM _);exact λy_=>wpAny_mono (Q:=λv s'=>v=.ref s₃.heap.objs.size /\ s'={ s₃ with heap:=s₃.heap.push { cls:=.type "slice",data:=.fields #[ul,uh,us] } }) (λy_ y_ y_=>⟨rfl,rfl⟩) (λv s' q=>by
  refine e0a2 q λzz1=>?_;subst zz1;intro zz2;subst zz2;exact⟨_,m₃,io₃,rfl,st4,H₃.of_keeps (aM _),⟨_,ul,uh,us,rfl,.new _ _ _ _,((VR.step st₂ k₁).step st₃).step st4,(VR.step st₃ k₂).step st4,VR.step st4 k₃⟩,.refl _⟩) λy_ y_ q=>q
theorem dA5{lo hi st:Option Expr}{cl ch cs:Lo->Mn V}{pos':Pos}(ha:SiE W A fs env vis (eval a env) ca)(hl:SiO W A fs env vis lo cl)(hh:SiO W A fs env vis hi ch)(hs:SiO W A fs env vis st cs):
  SiE W A fs env vis (eval (.Subscript a (.Slice lo hi st pos') pos) env) (λr=>bnd (ca r) λx=>bnd (cl r) λl=>bnd (ch r) λh=>bnd (cs r) λt=>fW x l h t):=by
 intro s io m r Z;rw[arm_eval_Subscript];refine Si.bind (ha s io m r Z) λu s₁ io₁ m₁ v y_ st₁ H₁ k₁ y_=>?_;have e:(bnd (cl r) λl=>bnd (ch r) λh=>bnd (cs r) λt=>fW v l h t)=bnd (bnd (cl r) λl=>bnd (ch r) λh=>bnd (cs r) λt=>ret (l,h,t)) λp=>fW v p.1 p.2.1 p.2.2:=by
  simp only[bX];rfl
 rw[e];refine Si.bind (Si.holding (cL7 hl hh hs (Z.step H₁ st₁))) λu' s₂ io₂ m₂ p y_ st₂ H₂ k₂ sm₂=>.standAt ?_;obtain⟨sl,ul,uh,us,rfl,q1,q2,q3,q4⟩:=k₂;exact bS3 H₂ (VR.step st₂ k₁) q2 q3 q4 q1
end
end Mini.Internal
variable{c:Lo->Mn V}{cb:Lo->Mn (Fl×Lo)}
namespace Mini.Internal
open PySem PySem.W
structure Gl(W:Wd)(K:Frag):Prop where
 ok:WOk W
 X:K.In W.base
 top:∃mg mb,W.base.Ns mainGlobals mg /\ W.base.Ns builtinsNs mb /\ (∀x:Str,x≠"__name__"->mb x=bootBuiltins x) /\ ∃pp loose,TopRead pp loose mg mb W.base
section
variable{K:Frag}
theorem HR.get(H:HR W s.heap io m)(gl:Gl W K){a:Addr}{o:Obj}(h:K.lookup a=some o):s.heap.get? a=some o:=H.keep _ _ (gl.X _ _ h)
theorem aO4{v:Value}(gl:Gl W K)(Z:Sit W fs env vis s io m r)(e:nsIn K mainGlobals x=some (some v))(hx:env.kindOf x=some .globalImplicit)(hd:(x == ("__debug__":Str))=false)(h:Q v s):wpAny M A (eval (.Name x p) env) Q E s:=by
 refine e2a3 gl.top λmg mb g b y_=>?_;refine Calls.Name_function_global Z.F.kind hx (Calls.loadGlobal_global (mg:=mg) ?_ (mg_of gl.X g e) h) hd;rw[Z.F.glob];exact g.keeps Z.H.keep
theorem aE8{v:Value}(gl:Gl W K)(Z:Sit W fs env vis s io m r)(e:nsIn K mainGlobals x=some none)(hv:bootBuiltins x=some v)(hn:(x == ("__name__":Str))=false)(hx:env.kindOf x=some .globalImplicit)(hd:(x == ("__debug__":Str))=false)(h:Q v s):wpAny M A (eval (.Name x p) env) Q E s:=by
 refine e2a4 gl.top λmg mb g b hb y_=>?_;have hn':x≠"__name__":=λq=>by rw[q]at hn;simp at hn
 refine Calls.Name_function_global Z.F.kind hx (Calls.loadGlobal_builtin (mg:=mg) (mb:=mb) ?_ (mg_none_of gl.X g e) ?_ (by rw[hb x hn',hv]) h) hd
 ·rw[Z.F.glob];exact g.keeps Z.H.keep
 ·rw[Z.F.blt];exact b.keeps Z.H.keep
noncomputable def cY2(e:Expr):Bool:=e.ctorIdx == 22
noncomputable def aW:List Expr->Bool
 |[]=>true
 |e::r=>!cY2 e&&aW r
theorem fD(h:aW (e::rest)=true):starEach (e::rest) env=(false,eval e env)::starEach rest env:=by
 cases (e) <;> first | rfl | (exact absurd h Bool.false_ne_true)
theorem aB2(h:aW (e::rest)=true):aW rest=true:=by
 cases (e) <;> first | exact h | (exact absurd h Bool.false_ne_true)
theorem dS(h:aW es=true):(backTo pos (starEach es env)).any (·.1)=false:=by
 induction es with
 |nil=>rfl
 |cons e rest ih=>rw[fD h];exact ih (aB2 h)
theorem dO{f:Value}{Q:Args->Shared->Prop}(hs:aW es=true)(h:wpAny M A (spliced (backTo pos (starEach es env))) (λvs s'=>Q ⟨vs,[]⟩ s') E s):
  wpAny M A (evalArgs f true (backTo pos (starEach es env)) []) Q E s:=by
 cases es with
 |nil=>
  refine wpAny_bind (wpAny_mono (show wpAny M A (spliced []) (λvs s'=>Q ⟨vs,[]⟩ s') E s from h) (λvs s' q=>?_) λy_ y_ x=>x);refine wpAny_bind (wpAny_pure ?_);refine wpAny_holding ?_;exact wpAny_bind (wpAny_pure (wpAny_bind (wpAny_pure (wpAny_pure q))))
 |cons e rest=>
  rw[fD hs]at h ⊢;exact Calls.evalArgs_plain h
variable{Fk:List V->Mn V}
noncomputable def SiF(W:Wd)(A:Around)(fs:List Env)(f:Value)(Fk:List V->Mn V):Prop:=
 ∀(s:Shared) (io:Io) (m:MH) (vs:List V) (us:List Value),HR W s.heap io m->FF W s.heap io fs->VRs W s.heap io vs us->Si W [] A fs (VP W) (call f us) s io m (Fk vs m)
noncomputable def SiK(W:Wd)(A:Around)(fs:List Env)(f:Value)(Fk:List V->Mn V):Prop:=
 ∀(s:Shared) (io:Io) (m:MH) (vs:List V) (us:List Value),HR W s.heap io m->FF W s.heap io fs->VRs W s.heap io vs us->Fk vs m≠.bad ->
  codeAny (model W.prog W.w) A (.call f ⟨us,[]⟩) (λr s'=>match r with | .ok (.ret v)=>NP W [] (frs fs) s io m (VP W) (Fk vs m) v s' | .ok _=>False | .error e=>XP W [] fs s io m (Fk vs m) e s') s
theorem SiK.f{f:Value}{Fk:List V->Mn V}(x:SiK W A fs f Fk):SiF W A fs f Fk:=λs io m vs us H G hu hne=>wpAny_call (x s io m vs us H G hu hne)
noncomputable def born(A:Around):Around:={ A with depth:=A.depth+1,units:=A.units+1 }
theorem dB1{id:String}(gl:Gl W K)(e:nsIn K mainGlobals x=some none)(hv:bootBuiltins x=some (.builtin id))(hn:(x == ("__name__":Str))=false)(hx:env.kindOf x=some .globalImplicit)(hd:(x == ("__debug__":Str))=false)(hs:aW es=true)(hl:SiL W A fs env vis (spliced (backTo pos (starEach es env))) cl)(hf:SiF W A fs (.builtin id) Fk):SiE W A fs env vis (eval (.Call (.Name x p) es [] pos) env) (λr=>bnd (cl r) λvs=>Fk vs):=by
 intro s io m r Z hne;refine wpAny_Call_NameR (aE8 gl Z e hv hn hx hd (Calls.callWith_builtin (dS hs) (dO hs ?_)));refine wpAny_mono (hl s io m r Z (Res.bind_ne hne)) (λus s' q=>?_) λy_ y_ q=>q.bind .refl (.refl _);obtain⟨vs,m',io',e',st,H,k,sm⟩:=q;have hne':Fk vs m'≠.bad:=λq=>hne (by show(cl r m).bind _=_;rw[e'];exact q);have ee:bnd (cl r) (λvs=>Fk vs) m=Fk vs m':=by show(cl r m).bind _=_;rw[e'];rfl
 show wpAny (model W.prog W.w) A (call (.builtin id) us) (NP W [] (frs fs) s io m (VP W) (bnd (cl r) (λvs=>Fk vs) m)) (XP W [] fs s io m (bnd (cl r) (λvs=>Fk vs) m)) s';rw[ee];exact wpAny_mono (hf _ _ _ _ _ H (Z.G.step0 st) k hne') (λy_ y_ z=>z.mono st sm) λy_ y_ z=>z.mono st sm
theorem dA9{id:String}(gl:Gl W K)(e:nsIn K mainGlobals x=some none)(hv:bootBuiltins x=some (.type id))(hn:(x == ("__name__":Str))=false)(hx:env.kindOf x=some .globalImplicit)(hd:(x == ("__debug__":Str))=false)(hs:aW es=true)(hl:SiL W A fs env vis (spliced (backTo pos (starEach es env))) cl)(hf:SiF W A fs (.type id) Fk):SiE W A fs env vis (eval (.Call (.Name x p) es [] pos) env) (λr=>bnd (cl r) λvs=>Fk vs):=by
 intro s io m r Z hne;refine wpAny_Call_NameR (aE8 gl Z e hv hn hx hd (callWith_type (dS hs) (dO hs ?_)));refine wpAny_mono (hl s io m r Z (Res.bind_ne hne)) (λus s' q=>?_) λy_ y_ q=>q.bind .refl (.refl _);obtain⟨vs,m',io',e',st,H,k,sm⟩:=q;have hne':Fk vs m'≠.bad:=λq=>hne (by show(cl r m).bind _=_;rw[e'];exact q);have ee:bnd (cl r) (λvs=>Fk vs) m=Fk vs m':=by show(cl r m).bind _=_;rw[e'];rfl
 show wpAny (model W.prog W.w) A (call (.type id) us) (NP W [] (frs fs) s io m (VP W) (bnd (cl r) (λvs=>Fk vs) m)) (XP W [] fs s io m (bnd (cl r) (λvs=>Fk vs) m)) s';rw[ee];exact wpAny_mono (hf _ _ _ _ _ H (Z.G.step0 st) k hne') (λy_ y_ z=>z.mono st sm) λy_ y_ z=>z.mono st sm
theorem dB0(gl:Gl W K)(e:nsIn K mainGlobals x=some (some (.ref a)))(ho:K.lookup a=some o)(hdata:o.data=.func fd)(hx:env.kindOf x=some .globalImplicit)(hd:(x == ("__debug__":Str))=false)(hs:aW es=true)(hl:SiL W A fs env vis (spliced (backTo pos (starEach es env))) cl)(hf:SiF W A fs (.ref a) Fk):SiE W A fs env vis (eval (.Call (.Name x p) es [] pos) env) (λr=>bnd (cl r) λvs=>Fk vs):=by
 intro s io m r Z hne;refine wpAny_Call_NameR (aO4 gl Z e hx hd (Calls.callWith_function (o:=o) (fd:=fd) (dO hs ?_)));refine wpAny_mono (hl s io m r Z (Res.bind_ne hne)) (λus s' q=>?_) λy_ y_ q=>q.bind .refl (.refl _);obtain⟨vs,m',io',e',st,H,k,sm⟩:=q;have hne':Fk vs m'≠.bad:=λq=>hne (by show(cl r m).bind _=_;rw[e'];exact q);have ee:bnd (cl r) (λvs=>Fk vs) m=Fk vs m':=by show(cl r m).bind _=_;rw[e'];rfl
 refine⟨⟨H.get gl ho,hdata⟩,?_⟩;show wpAny (model W.prog W.w) A (call (.ref a) us) (NP W [] (frs fs) s io m (VP W) (bnd (cl r) (λvs=>Fk vs) m)) (XP W [] fs s io m (bnd (cl r) (λvs=>Fk vs) m)) s';rw[ee];exact wpAny_mono (hf _ _ _ _ _ H (Z.G.step0 st) k hne') (λy_ y_ z=>z.mono st sm) λy_ y_ z=>z.mono st sm
end
end Mini.Internal
variable{rest:List Stmt}
namespace Mini.Internal
open PySem PySem.W
noncomputable def bO(env:Env):List Addr:=env.locals::env.cells.filterMap λq=>env.cells.lookup q.1
structure Stt(W:Wd)(fs:List Env)(env:Env)(vis:List (Option Str))(s:Shared)(io:Io)(m:MH)(r:Lo):Prop where
 H:HR W s.heap io m
 F:FR W s.heap io env vis r
 G:FF W s.heap io fs
 fr:env.frame=some env.locals
 dis:∀L∈frs fs,L∉bO env
inductive FlR(W:Wd)(h:Heap)(io:Io):Fl->Flow->Prop
 |next:FlR W h io .next .next
 |cont:FlR W h io .cont .cont
 |ret {v:V} {u:Value}:VR W h io v u->FlR W h io (.ret v) (.ret u)
noncomputable abbrev SP(W:Wd)(env:Env)(vis:List (Option Str)):Heap->Io->Fl×Lo->Flow->Prop:=λh io p f=>FlR W h io p.1 f /\ FR W h io env vis p.2
noncomputable abbrev RP(W:Wd)(env:Env)(vis:List (Option Str)):Heap->Io->Lo->Unit->Prop:=λh io r y_=>FR W h io env vis r
section
variable{own:List Addr}
theorem Step.wk(x:Step own fr h io m h' io' m')(k:∀b∈own,b∈own'):Step own' fr h io m h' io' m':=
 ⟨x.alive,x.solid,λb o e f1 f2=>x.keep b o e f1 λq=>f2 (k b q),λb o e f1 f2=>x.slots b o e f1 λq=>f2 (k b q),x.grow,x.dicts⟩
theorem Stt.sit(Z:Stt W fs env vis s io m r):Sit W (env::fs) env vis s io m r:=by
 refine⟨Z.H,Z.F,λe he=>?_⟩;rcases List.mem_cons.mp he with rfl | he
 ·obtain⟨mp,⟨o,es,ep,ho,hd,y_⟩,y_⟩:=Z.F.loc
  exact⟨by rw[Z.F.kind];simp,e.locals,o,es,ep,Z.fr,Z.F.fresh,Z.F.nofoot,ho,hd⟩
 ·exact Z.G e he
theorem Stt.step(Z:Stt W fs env vis s io m r)(H:HR W s'.heap io' m')(st:Step [] fr s.heap io m s'.heap io' m'):Stt W fs env vis s' io' m' r:=⟨H,Z.F.step0 Z.H st,Z.G.step0 st,Z.fr,Z.dis⟩
theorem Stt.stepO(Z:Stt W fs env vis s io m r)(H:HR W s'.heap io' m')(st:Step (bO env) fr s.heap io m s'.heap io' m')(F:FR W s'.heap io' env vis r'):Stt W fs env vis s' io' m' r':=⟨H,F,Z.G.step st Z.dis,Z.fr,Z.dis⟩
theorem dZ{es:Array DictEntry}(h:o.data=.dict es k):¬cQ o:=by
 rintro(⟨_,_,_,e⟩ | ⟨_,_,_,e⟩) <;> rw[h]at e <;> injection e
theorem aM2{v:Option Value}(h:o.data=.cell v):¬cQ o:=by
 rintro(⟨_,_,_,e⟩ | ⟨_,_,_,e⟩) <;> rw[h]at e <;> injection e
theorem bR4(Z:Stt W fs env vis s io m r){i:Nat}{x:Str}{v:V}{u:Value}(hv:vis[i]?=some (some x))(hk:env.kindOf x=some .local \/ env.kindOf x=some .cell)(k:VR W s.heap io v u):
  Si W (bO env) A (env::fs) (RP W env vis) (storeName env x u) s io m (.ok (r.set i (some v)) m):=by
 intro y_;have hi:i < vis.length:=(List.getElem?_eq_some_iff.mp hv).1;have F:=Z.F;have row:∀(j:Nat) (y:Str) (w:V),vis[j]?=some (some y)->(r.set i (some v))[j]?=some (some w)->(y=x /\ w=v) \/ (y≠x /\ r[j]?=some (some w)):=by
  intro j y w h1 h2;by_cases q:i=j
  ·subst q
   rw[List.getElem?_set_self (by rw[F.len];exact hi)]at h2;rw[hv]at h1
   (refine aF h1 λz1=>?_;clear h1;(first | (injection z1;done) | subst z1 | cases (z1)));(refine aF h2 λz1=>?_;clear h2;(first | (injection z1;done) | subst z1 | cases (z1)));exact .inl ⟨rfl,rfl⟩
  ·rw[List.getElem?_set_ne q]at h2
   refine .inr ⟨λe=>q (F.inj i j x hv (e▸h1)),h2⟩
 rcases hk with hk | hk
 ·refine hide λG_ g_=>?_
  refine e1a2 F.loc λmp hn hl=>?_;refine e3a3 (id hn) λoL esL epL hoL hdL y_=>?_;refine g_ ?_;clear g_ G_;refine wpAny_storeName_local hk hn (λh' hn' hs=>?_) (by rw[F.kind];rfl);have kk:∀b o,b≠env.locals->s.heap.get? b=some o->h'.get? b=some o:=λb o q e=>(hs.2 b q).trans e;have lv:∀o,s.heap.get? env.locals=some o->¬cQ o /\ ∃o',h'.get? env.locals=some o':=λo ho=>by
   rw[hoL]at ho;(refine aF ho λz1=>?_;clear ho;subst z1);refine e3a2 (id hn') λo' y_ y_ ho' y_=>?_;exact⟨dZ hdL,o',ho'⟩
  have st:Step (bO env) (frs (env::fs)) s.heap io m h' io m:=fP Z.H (L:=env.locals) (by simp[bO]) kk lv F.nofoot;have H':HR W h' io m:=Z.H.ofOwn (own:=bO env) (L:=env.locals) (by simp[bO]) kk lv F.nofoot F.fresh;refine⟨_,m,io,rfl,st,H',?_,rfl,rfl⟩;refine⟨F.kind,F.glob,F.blt,F.nofoot,F.fresh,⟨_,hn',λj y w h1 h2 h3=>?_⟩,λj y w h1 h2 h3=>?_,λy c hy=>?_,F.celex,F.apart,F.inj,by simp[F.len]⟩
  ·rcases row j y w h1 h2 with⟨rfl,rfl⟩ | ⟨q,h2⟩
   ·exact⟨u,by simp,k.step st⟩
   ·refine e1a2 (hl j y w h1 h2 h3) λu' e k'=>?_
    exact⟨u',by simp[q,e],k'.step st⟩
  ·rcases row j y w h1 h2 with⟨rfl,rfl⟩ | ⟨q,h2⟩
   ·rw[hk]at h3;simp at h3
   ·refine e2a3 (F.cel j y w h1 h2 h3) λc u' e k1 k2=>?_
    refine⟨c,u',e,?_,k2.step st⟩;refine e1a2 k1 λoc hoc hdc=>?_;exact⟨oc,kk c oc (F.cells y c e).2.2 hoc,hdc⟩
  ·obtain⟨⟨o,oc,hoc,hdc⟩,k2,k3⟩:=F.cells y c hy
   exact⟨⟨o,oc,kk c oc k3 hoc,hdc⟩,k2,k3⟩
 ·refine e1a1 (F.celex i x hv (.inl hk)) λc hc=>?_
  obtain⟨⟨o0,oc,hoc,hdc⟩,c2,c3⟩:=F.cells x c hc;have nf:¬dA io c:=Z.H.nofoot_of_cell hoc hdc;refine wpAny_storeName_cell F.kind hk hc ⟨oc,hoc,hdc⟩ λh' hn' hs=>?_;have kk:∀b o,b≠c->s.heap.get? b=some o->h'.get? b=some o:=λb o q e=>(hs.2 b q).trans e;have lv:∀o,s.heap.get? c=some o->¬cQ o /\ ∃o',h'.get? c=some o':=λo ho=>by
   rw[hoc]at ho;(refine aF ho λz1=>?_;clear ho;subst z1);refine e1a2 (id hn') λo' ho' y_=>?_;exact⟨aM2 hdc,o',ho'⟩
  have hin:c∈bO env:=by
   exact List.mem_cons_of_mem _ (List.mem_filterMap.mpr ⟨(x,c),mem_of_lookup hc,hc⟩)
  have st:Step (bO env) (frs (env::fs)) s.heap io m h' io m:=fP Z.H (L:=c) hin kk lv nf;have H':HR W h' io m:=Z.H.ofOwn (own:=bO env) (L:=c) hin kk lv nf c2;refine⟨_,m,io,rfl,st,H',?_,rfl,rfl⟩;refine e1a2 F.loc λmp hn hl=>?_;have other:∀y c',env.cells.lookup y=some c'->y≠x->c'≠c:=λy c' hy q e=>q (F.apart y x c (e▸hy) hc);refine⟨F.kind,F.glob,F.blt,F.nofoot,F.fresh,⟨mp,?_,λj y w h1 h2 h3=>?_⟩,λj y w h1 h2 h3=>?_,λy c' hy=>?_,F.celex,F.apart,F.inj,by simp[F.len]⟩
  ·exact hn.sameBut hs (Ne.symm c3)
  ·rcases row j y w h1 h2 with⟨rfl,rfl⟩ | ⟨q,h2⟩
   ·rw[hk]at h3;simp at h3
   ·refine e1a2 (hl j y w h1 h2 h3) λu' e k'=>?_
    exact⟨u',e,k'.step st⟩
  ·rcases row j y w h1 h2 with⟨rfl,rfl⟩ | ⟨q,h2⟩
   ·exact⟨c,u,hc,hn',k.step st⟩
   ·refine e2a3 (F.cel j y w h1 h2 h3) λc' u' e k1 k2=>?_
    refine⟨c',u',e,?_,k2.step st⟩;refine e1a2 k1 λoc' hoc' hdc'=>?_;exact⟨oc',kk c' oc' (other y c' e q) hoc',hdc'⟩
  ·obtain⟨⟨o,oc',hoc',hdc'⟩,k2,k3⟩:=F.cells y c' hy
   by_cases q:c'=c
   ·subst q;exact⟨⟨_,hn'⟩,k2,k3⟩
   ·exact⟨⟨o,oc',kk c' oc' q hoc',hdc'⟩,k2,k3⟩
end
section
variable{it d:Addr}{ep:Nat}{es:Array DictEntry}
theorem aW5(hd:(d == sysModules)=false)(ho:s.heap.get? d=some o)(hc:o.ExactDict)(hdat:o.data=.dict es ep)(hQ:Q (.ref s.heap.objs.size) { s with heap:=s.heap.push { cls:=.type "dict_keyiterator",data:=.fields #[.ref d,.int 0 0,.int es.size 0,.int ep 0] } }):wpAny (model prog w) A (pyIter (.ref d)) Q E s:=by
 have hT:s.TypeIs (.ref d) "dict":=⟨o,ho,hc.1⟩
 refine wpAny_pyIter_slot hT F.slot_dict_iter (wpAny_call_entry F.slot_dict_iter hT F.entry_dict_iter ?_ (F.args_dict_iter_1 _));unfold Builtin.«dict.__iter__»;refine wpAny_bind ?_;refine wpAny_bind (wpAny_notOrdered_dict hT ?_);show wpAny _ _ (pure (Value.ref d)) _ _ s;refine wpAny_pure ?_;show wpAny _ _ (Builtin.Dict.showsAll d >>= _) _ _ s;unfold Builtin.Dict.showsAll;rw[if_neg (by rw[hd];exact Bool.false_ne_true)];refine wpAny_bind (wpAny_pure (wpAny_bind (wpAny_dictEntries ho hdat (wpAny_bind (wpAny_dictEpoch ho hdat ?_)))));exact wpAny_bind (wpAny_newObj_type (wpAny_pure ⟨_,rfl,"dict_keyiterator",_,⟨_,Heap.get?_push_size _ rfl,rfl⟩,F.slot_dict_keyiterator_next.lookup,hQ⟩))
theorem aW4{Q:Option Value->Shared->Prop}(hit:s.heap.IsKeyIter it d i es.size ep)(ho:s.heap.get? d=some o)(hdat:o.data=.dict es ep)(hlt:i < es.size)(hQ:∀h',h'.IsKeyIter it d (i+1) es.size ep->Heap.SameBut it s.heap h'->Q (some es[i].key) { s with heap:=h' }):wpAny (model prog w) A (pyNext (.ref it)) Q E s:=by
 refine e1a3 (id hit) λoi hoi hci hdi=>?_;refine wpAny_bind (wpAny_attempt (wpAny_callSpecial?_slot (name:=Str.ofString "__next__") hit.typeIs F.slot_dict_keyiterator_next
  (wpAny_call_entry F.slot_dict_keyiterator_next hit.typeIs F.entry_dict_keyiterator_next ?_ (F.args_dict_keyiterator_next_1 _))))
 refine wpAny_bind (wpAny_pure (wpAny_bind (wpAny_bind ?_)))
 first | refine wpAny_bind (wpAny_typeNameOfWhole_keyiter hit.typeIs (wpAny_pure ?_)) | refine wpAny_bind (wpAny_typeNameOf_keyiter hit.typeIs (wpAny_pure ?_))
 refine wpAny_bind (wpAny_fieldsOf hoi hdi ?_);have hown:Builtin.Dict_items.ownsTuple "dict_keyiterator"=false:=by decide
 rw[if_neg (by rw[hown];exact Bool.false_ne_true)];show wpAny _ _ (if (Value.ref d == Value.none)=true then _ else _) _ _ s;rw[if_neg (show ¬((Value.ref d == Value.none)=true)from Bool.false_ne_true)];refine wpAny_bind (wpAny_pure (wpAny_bind (wpAny_dictEntries ho hdat ?_)));rw[if_neg (by simp)];refine wpAny_bind (wpAny_pure (wpAny_bind (wpAny_dictEpoch ho hdat ?_)));rw[if_neg (by simp)];refine wpAny_pure ?_;dsimp only;rw[if_neg (show ¬((i:Int) < 0)from Int.not_lt.mpr (Int.natCast_nonneg i)),Int.toNat_natCast,Array.getElem?_eq_getElem hlt];refine wpAny_bind ?_
 first | refine wpAny_bind (wpAny_typeNameOfWhole_keyiter hit.typeIs (wpAny_pure ?_)) | refine wpAny_bind (wpAny_typeNameOf_keyiter hit.typeIs (wpAny_pure ?_))
 refine wpAny_bind (wpAny_isOneOf_keyiter hit.typeIs ?_);show wpAny _ _ (setField (.ref it) 1 (rawInt ((i:Int)+1)) >>= _) _ _ s;refine wpAny_bind (wpAny_setField hoi hdi (by simp) ?_);have hit':(s.heap.update it (Obj.mapFields (·.setIfInBounds 1 (rawInt ((i:Int)+1))))).IsKeyIter it d (i+1) es.size ep:=
  ⟨_,Heap.get?_update_self _ hoi (Obj.isFreed_of_fields (Obj.data_mapFields hdi _)),(Obj.cls_mapFields ..).trans hci,by rw[Obj.data_mapFields hdi];simp[rawInt]⟩
 refine wpAny_bind (wpAny_holding ?_);refine wpAny_bind (wpAny_isOneOf_keyiter (s:={ s with heap:=s.heap.update it (Obj.mapFields (·.setIfInBounds 1 (rawInt ((i:Int)+1)))) }) hit'.typeIs ?_);exact wpAny_pure (wpAny_pure ⟨_,rfl,wpAny_pure (hQ _ hit' (Heap.SameBut.update ..))⟩)
theorem bG9{Q:Option Value->Shared->Prop}(hh:A.handled=none)(hit:s.heap.IsKeyIter it d i es.size ep)(ho:s.heap.get? d=some o)(hdat:o.data=.dict es ep)(hge:es.size <= i)(hQ:∀h',Heap.ExtBut it s.heap h'->Q none { s with heap:=h' }):wpAny (model prog w) A (pyNext (.ref it)) Q E s:=by
 refine e1a3 (id hit) λoi hoi hci hdi=>?_;refine wpAny_bind (wpAny_attempt (wpAny_callSpecial?_slot (name:=Str.ofString "__next__") hit.typeIs F.slot_dict_keyiterator_next
  (wpAny_call_entry F.slot_dict_keyiterator_next hit.typeIs F.entry_dict_keyiterator_next ?_ (F.args_dict_keyiterator_next_1 _))))
 refine wpAny_bind (wpAny_pure (wpAny_bind (wpAny_bind ?_)))
 first | refine wpAny_bind (wpAny_typeNameOfWhole_keyiter hit.typeIs (wpAny_pure ?_)) | refine wpAny_bind (wpAny_typeNameOf_keyiter hit.typeIs (wpAny_pure ?_))
 refine wpAny_bind (wpAny_fieldsOf hoi hdi ?_);have hown:Builtin.Dict_items.ownsTuple "dict_keyiterator"=false:=by decide
 rw[if_neg (by rw[hown];exact Bool.false_ne_true)];show wpAny _ _ (if (Value.ref d == Value.none)=true then _ else _) _ _ s;rw[if_neg (show ¬((Value.ref d == Value.none)=true)from Bool.false_ne_true)];refine wpAny_bind (wpAny_pure (wpAny_bind (wpAny_dictEntries ho hdat ?_)));rw[if_neg (by simp)];refine wpAny_bind (wpAny_pure (wpAny_bind (wpAny_dictEpoch ho hdat ?_)));rw[if_neg (by simp)];refine wpAny_pure ?_;dsimp only;rw[if_neg (show ¬((i:Int) < 0)from Int.not_lt.mpr (Int.natCast_nonneg i)),Int.toNat_natCast,Array.getElem?_eq_none hge];refine wpAny_bind ?_
 first | refine wpAny_bind (wpAny_typeNameOfWhole_keyiter hit.typeIs (wpAny_pure ?_)) | refine wpAny_bind (wpAny_typeNameOf_keyiter hit.typeIs (wpAny_pure ?_))
 show wpAny _ _ (setField (.ref it) 0 .none >>= _) _ _ s;refine wpAny_bind (wpAny_setField hoi hdi (by simp) ?_);show wpAny _ _ (newExc (.type "StopIteration") [] >>= _) _ _ _;refine wpAny_bind ?_;simp only[newExc,newTuple];refine wpAny_bind (wpAny_newObj_type ?_ (by size_fits));refine wpAny_bind (m:=firstArgMember _ _) (wpAny_of_eq (a:=Value.none) (by first | rfl | (simp only[firstArgMember];rfl)) ?_);refine wpAny_newObj_type ?_ (by size_fits);refine wpAny_bind (wpAny_handled ?_);rw[show A.in1.handled=none from hh];refine wpAny_bind (wpAny_pure (wpAny_throw ?_));refine wpAny_bind (wpAny_isInstance (T:="StopIteration") (b:=true) ⟨_,Heap.get?_push_size _ rfl,rfl⟩ isSubtype_stop ?_);exact wpAny_pure (hQ _ (((Heap.SameBut.update ..).extBut.push _).push _))
end
section
variable{own:List Addr}
noncomputable def Sol(h h':Heap):Prop:=∀b o,h.get? b=some o->cQ o->h'.get? b=some o
theorem VR.sol(x:Sol h h'){v:V}{u:Value}(k:VR W h io v u):VR W h' io v u:=k.mono x λy_ y_ e=>e
theorem VRs.sol(x:Sol h h'){v:List V}{u:List Value}(k:VRs W h io v u):VRs W h' io v u:=k.mono x λy_ y_ e=>e
theorem ERs.sol(x:Sol h h'){kvs:List (Ky×V)}{es:List DictEntry}(e:ERs W h io kvs es):ERs W h' io kvs es:=e.mono x λy_ y_ e=>e
theorem FEs.sol(x:Sol h h'){fs:List (Nat×V)}{mA:Str->Option Value}(e:FEs W h io fs mA):FEs W h' io fs mA:=e.mono x λy_ y_ e=>e
theorem OR.sol(x:Sol h h'){a d:Addr}{o:MObj}(k:OR W h io a d o)(ha:∀o,h.get? a=some o->h'.get? a=some o)(hd:∀o,h.get? d=some o->h'.get? d=some o):OR W h' io a d o:=by
 cases o with
 |list xs=>
  obtain⟨e,vs,n,h1,h4,h5⟩:=k;exact⟨e,vs,n,ha _ h1,h4.sol x,h5⟩
 |dict kvs ep=>
  obtain⟨e,o,es,n,h1,h2,h3,h4,h5⟩:=k;exact⟨e,o,es,n,ha _ h1,h2,h3,h4.sol x,h5⟩
 |inst c fs=>
  obtain⟨e,mA,h1,h2,h3,h4⟩:=k;exact⟨e,mA,ha _ h1,h2.at hd,h3.sol x,h4⟩
theorem HR.sol(H:HR W h io m)(x:Sol h h')(hf:∀b o,dA io b->h.get? b=some o->h'.get? b=some o)(hb:∀b o,W.base.get? b=some o->h'.get? b=some o):HR W h' io m:=
 ⟨hb,H.len,λn p o hi hm=>(H.obj n p o hi hm).sol x (λo=>hf p.1 o ⟨p,List.mem_of_getElem? hi,.inl rfl⟩) λo=>hf p.2 o ⟨p,List.mem_of_getElem? hi,.inr rfl⟩,H.fresh,H.apart⟩
structure Side(W:Wd)(wr:List Addr)(h₀ h:Heap)(io:Io)(h':Heap):Prop where
 keep:∀b o,b∉wr->h.get? b=some o->h'.get? b=some o
 new:∀b∈wr,h₀.get? b=none
 foot:∀b∈wr,¬dA io b
 soft:∀b∈wr,∀o,h.get? b=some o->¬cQ o
theorem Side.sol(x:Side W wr h₀ h io h'):Sol h h':=λb o e so=>x.keep b o (λq=>x.soft b q o e so) e
theorem Side.step(x:Side W wr h₀ h io h')(H:HR W h io m)(st:Step own fr h₀ io₀ m₀ h io m):Step own fr h₀ io₀ m₀ h' io m:=by
 have nw:∀b o,h₀.get? b=some o->b∉wr:=λb o e q=>by rw[x.new b q]at e;injection e
 refine⟨λb o e=>?_,λb o e so=>?_,λb o e f1 f2 f3=>x.keep _ _ (nw b o e) (st.keep b o e f1 f2 f3),λb o e f1 f2=>?_,st.grow,λn p kvs ep hi hm=>?_⟩
 ·refine e1a1 (st.alive b o e) λo' e'=>?_
  exact⟨o',x.keep _ _ (nw b o e) e'⟩
 ·exact x.keep _ _ (nw b o e) (st.solid b o e so)
 ·refine e1a1 (st.slots b o e f1 f2) λsl e'=>?_
  exact⟨sl,x.keep _ _ (nw b o e) e'⟩
 ·refine e2a3 (st.dicts n p kvs ep hi hm) λk' e' q1 q2 q3=>?_
  refine⟨k',e',q1,q2,λq=>⟨?_,(q3 q).2⟩⟩;have hi':=st.io_get hi;refine e1a1 (H.there hi') λo ho=>?_;rw[<- (q3 q).1,ho];exact x.keep _ _ (λw=>x.foot _ w ⟨p,List.mem_of_getElem? hi',.inl rfl⟩) ho
theorem Side.hr(x:Side W wr h₀ h io h')(H:HR W h io m)(hb:∀b o,W.base.get? b=some o->h₀.get? b=some o):HR W h' io m:=
 H.sol x.sol (λb o f e=>x.keep b o (λq=>x.foot b q f) e) λb o e=>x.keep b o (λq=>by have:=hb b o e;rw[x.new b q]at this;injection this) (H.keep b o e)
theorem aJ3{Q:Unit->Shared->Prop}(ho:s.heap.get? I=some o)(hc:o.cls=.type T)(hd:o.data=.fields ws)(hT:(["enumerate","zip","dict_itemiterator","dict_reverseitemiterator","odict_iterator","itertools.zip_longest","itertools.pairwise"].contains T)=false)(h:Q () s):wpAny M A (letOwnedTupleGo target (.ref I) u) Q E s:=by
 have key:∀a:Addr,wpAny M A (do
   let o <- load I
   match o.cls,o.data with
   |.type n,.fields vs=>
    if ["enumerate","zip","dict_itemiterator","dict_reverseitemiterator","odict_iterator","itertools.zip_longest","itertools.pairwise"].contains n&&vs[0]? == some (rawInt a)then
     rule "for.unpacks-the-owned-tuple"
     updateField I 0 .none
   |_,_=>pure ()) Q E s:=λa=>by
  refine wpAny_bind (wpAny_load ho ?_);rw[hc,hd];simp only[hT,Bool.false_and];exact wpAny_pure h
 cases (target) <;> first | exact wpAny_pure h | skip
 all_goals
  cases (u) <;> first | exact wpAny_pure h | exact key _
structure Wk(W:Wd)(A:Around)(I:Addr)(wr:List Addr)(g:Gd)(vs:List V)(St:Nat->Heap->Io->Prop):Prop where
 soft:∀{i:Nat} {h:Heap} {io:Io},St i h io->∀b∈wr,¬dA io b /\ ∀o,h.get? b=some o->¬cQ o
 stay:∀{i:Nat} {h h':Heap} {io io':Io} {m m':MH} {own fr:List Addr},St i h io->HR W h io m->HR W h' io' m'->Step own fr h io m h' io' m'->(∀b∈wr,b∉own /\ b∉fr)->g.stays m=true->g.stays m'=true->St i h' io'
 item:∀{i:Nat} {s:Shared} {io:Io} {m:MH} {v:V} {Q:Option Value->Shared->Prop} {E:Value->Shared->Prop},vs[i]?=some v->St i s.heap io->HR W s.heap io m->g.stays m=true ->
  (∀u h' tk,VR W s.heap io v u->St (i+1) h' io->(∀b o,b∉wr->s.heap.get? b=some o->h'.get? b=some o)->Q (some u) { s with heap:=h',toks:=tk })->wpAny (model W.prog W.w) A (pyNext (.ref I)) Q E s
 alive:∀{i:Nat} {h:Heap} {io:Io},St i h io->∀b∈wr,∃o,h.get? b=some o
 self:∀{i:Nat} {s:Shared} {io:Io} {Q:Value->Shared->Prop} {E:Value->Shared->Prop},St i s.heap io->Q (.ref I) s->wpAny (model W.prog W.w) A (pyIter (.ref I)) Q E s
 lot:∀{i:Nat} {s:Shared} {io:Io} {target:Expr} {u:Value} {Q:Unit->Shared->Prop} {E:Value->Shared->Prop},St i s.heap io->(∀h',St i h' io->(∀b o,b∉wr->s.heap.get? b=some o->h'.get? b=some o)->Q () { s with heap:=h' })->wpAny (model W.prog W.w) A (letOwnedTupleGo target (.ref I) u) Q E s
 done:∀{s:Shared} {io:Io} {m:MH} {Q:Option Value->Shared->Prop} {E:Value->Shared->Prop},St vs.length s.heap io->HR W s.heap io m->g.stays m=true ->
  (∀h' tk,(∀b o,b∉wr->s.heap.get? b=some o->h'.get? b=some o)->Q none { s with heap:=h',toks:=tk })->wpAny (model W.prog W.w) A (pyNext (.ref I)) Q E s
theorem aF4(h:false=true):C:=by injection h
mutual
theorem cT7:∀(x y:V),V.same x y=true->x=y
 |.none,y,h=>by cases (y) <;> first | rfl | (exact aF4 h)
 |.bool a,y,h=>by cases (y) <;> first | (exact aF4 h) | (exact congrArg V.bool (eq_of_beq h))
 |.int a,y,h=>by cases (y) <;> first | (exact aF4 h) | (exact congrArg V.int (eq_of_beq h))
 |.str a,y,h=>by cases (y) <;> first | (exact aF4 h) | (exact congrArg V.str (eq_of_beq h))
 |.tup xs,y,h=>by cases (y) <;> first | (exact aF4 h) | (exact congrArg V.tup (aG3 xs _ h))
 |.ref a,y,h=>by cases (y) <;> first | (exact aF4 h) | (exact congrArg V.ref (eq_of_beq h))
 |.fn a,y,h=>by cases (y) <;> first | (exact aF4 h) | (exact congrArg V.fn (eq_of_beq h))
 |.exc a,y,h=>by cases (y) <;> first | (exact aF4 h) | (exact congrArg V.exc (eq_of_beq h))
 |.scr a,y,h=>by cases (y) <;> first | (exact aF4 h) | (exact congrArg V.scr (eq_of_beq h))
theorem aG3:∀(xs ys:List V),V.sames xs ys=true->xs=ys
 |[],ys,h=>by
  cases ys with
  |nil=>rfl
  |cons y_ y_=>exact aF4 h
 |x::xs,ys,h=>by
  cases ys with
  |nil=>exact aF4 h
  |cons y ys=>
   have h:(V.same x y&&V.sames xs ys)=true:=h;rw[Bool.and_eq_true]at h;rw[cT7 x y h.1,aG3 xs ys h.2]
end
theorem eO{vs:Array Value}(hc:o.cls=.type T)(hd:o.data=.fields vs):¬cQ o:=by
 rintro(⟨y_,y_,y_,e⟩ | ⟨C,y_,e,y_⟩)
 ·rw[hd]at e;injection e
 ·rw[hc]at e;injection e
set_option tactic.hygienic true in
theorem Wk.list{d:Addr}(hh:A.handled=none):Wk W A I [I] (.list k xs) xs (λi h io=>h.IsListIter I a i /\ io[k]?=some (a,d) /\ ¬dA io I) where
 soft:=λz_ b hb=>by
  obtain⟨⟨o,ho,hc,hd⟩,y_,nf⟩:=z_;rw[List.mem_singleton.mp hb];exact⟨nf,λo' e=>by rw[ho]at e;(refine aF e λz1=>?_;clear e;subst z1);exact eO hc hd⟩
 stay:=λz_ H y_ st hb y_ y_=>by
  obtain⟨⟨o,ho,hc,hd⟩,hi,nf⟩:=z_;have q:=hb I (.head _);exact⟨⟨o,st.keep _ _ ho nf q.1 q.2,hc,hd⟩,st.io_get hi,st.nofoot ho nf⟩
 item:=λ{i s io m v Q E} hv z_ H hg hQ=>by
  refine e0a3 z_ λhit hi nf=>?_;simp only[Gd.stays]at hg
  split at hg
  ·rename_i ys hm
   have e:=aG3 _ _ hg;subst e;refine hide λG_ g_=>?_;obtain⟨y_,us,c,h1,h2,h3⟩:=H.obj _ _ _ hi hm;refine e1a2 (h2.get hv) λu hu ku=>?_;refine g_ ?_;clear g_ G_;refine wpAny_pyNext_list_item hit ⟨_,h1,rfl,c,rfl⟩ (by simpa using hu) λh' hit' hs=>?_;exact hQ u h' s.toks ku ⟨hit',hi,nf⟩ λb o hb e=>(hs.2 b (by simpa using hb)).trans e
  ·injection hg
 alive:=λz_ b hb=>by obtain⟨⟨o,ho,y_⟩,y_⟩:=z_;rw[List.mem_singleton.mp hb];exact⟨o,ho⟩
 self:=λst hQ=>wpAny_pyIter_listiter st.1 hQ
 lot:=λ{i s io target u Q E} st hQ=>by
  obtain⟨⟨o,ho,hc,hd⟩,y_⟩:=id st;exact aJ3 ho hc hd (by decide) (hQ _ st λy_ y_ y_ e=>e)
 done:=λ{s io m Q E} z_ H hg hQ=>by
  refine e0a3 z_ λhit hi nf=>?_;simp only[Gd.stays]at hg
  split at hg
  ·rename_i ys hm
   have e:=aG3 _ _ hg;subst e;obtain⟨y_,us,c,h1,h2,h3⟩:=H.obj _ _ _ hi hm;have hl:=h2.length;refine wpAny_pyNext_list_end hh hit ⟨_,h1,rfl,c,rfl⟩ (by simp at hl;simp[hl]) λh' hs=>?_;exact hQ h' s.toks λb o hb e=>hs b o (by simpa using hb) e
  ·injection hg
theorem Wk.of_walks{fp:List Addr}{St:Nat->Heap->Prop}(hw:Walks W.prog W.w A I fp [I] k P St)(hk:k=vs.length)(hP:∀(i:Nat) (v:V) (u:Value) (h:Heap) (io:Io),vs[i]?=some v->P i u->VR W h io v u)(hI:∀i h,St i h->∃o T ws,h.get? I=some o /\ o.cls=.type T /\ o.data=.fields ws /\ (["enumerate","zip","dict_itemiterator","dict_reverseitemiterator","odict_iterator","itertools.zip_longest","itertools.pairwise"].contains T)=false)(hfp:∀b∈fp,b=I \/ ∃o,W.base.get? b=some o):Wk W A I [I] .none vs (λi h io=>St i h /\ ¬dA io I) where
 soft:=λz_ b hb=>by
  refine e0a2 z_ λst nf=>?_;rw[List.mem_singleton.mp hb];refine e3a4 (hI _ _ st) λo T ws ho hc hd hT=>?_;exact⟨nf,λo' e=>by rw[ho]at e;(refine aF e λz1=>?_;clear e;subst z1);exact eO hc hd⟩
 stay:=λ{i h h' io io' m m' own fr} z_ H H' x hb y_ y_=>by
  refine e0a2 z_ λst nf=>?_;refine e3a4 (hI _ _ st) λo T ws ho hc hd hT=>?_;have q:=hb I (.head _);refine⟨hw.frame i h h' st λb hb o' e=>?_,x.nofoot ho nf⟩;rcases hfp b hb with rfl | ⟨ob,k⟩
  ·exact x.keep _ _ e nf q.1 q.2
  ·rw[H.keep _ _ k]at e;(refine aF e λz1=>?_;clear e;subst z1);exact H'.keep _ _ k
 item:=λ{i s io m v Q E} hv z_ H hg hQ=>by
  refine e0a2 z_ λst nf=>?_;have hi:i < k:=by rw[hk];exact(List.getElem?_eq_some_iff.mp hv).1
  exact hw.item i s Q E hi st λu h' tk p st' kk=>hQ u h' tk (hP i v u _ _ hv p) ⟨st',nf⟩ kk
 alive:=λz_ b hb=>by
  refine e0a2 z_ λst y_=>?_;refine e3a2 (hI _ _ st) λo y_ y_ ho y_=>?_;rw[List.mem_singleton.mp hb];exact⟨o,ho⟩
 self:=λ{i s io Q E} st hQ=>hw.self i s Q E st.1 hQ
 lot:=λ{i s io target u Q E} st hQ=>by
  refine e3a4 (hI _ _ st.1) λo T ws ho hc hd hT=>?_;exact aJ3 ho hc hd hT (hQ _ st λy_ y_ y_ e=>e)
 done:=λ{s io m Q E} ⟨st,nf⟩ H hg hQ=>hw.done s Q E (hk▸st) hQ
theorem ERs.keys{es:List DictEntry}(x:ERs W h io kvs es):VRs W h io (kvs.map λp=>p.1.val) (es.map (·.key)):=by
 induction x using ERs.ind with
 |nil=>exact .nil
 |cons h1 y_ y_ ih=>exact .cons h1 ih
set_option tactic.hygienic true in
theorem aN4{e:Nat}(hg:(Gd.dict k e).stays m=true):∃kvs,m[k]?=some (.dict kvs e):=by
 simp only[Gd.stays]at hg
 split at hg
 ·rename_i kvs e' hm
  rw[eq_of_beq hg];exact⟨kvs,hm⟩
 ·injection hg
theorem Wk.dict{d:Addr}{e ep:Nat}{es:Array DictEntry}(hh:A.handled=none)(hd:o.data=.dict es ep):
  Wk W A I [I] (.dict k e) vs (λi h io=>h.IsKeyIter I a i es.size ep /\ io[k]?=some (a,d) /\ h.get? a=some o /\ VRs W h io vs (es.toList.map (·.key)) /\ I≠a /\ ¬dA io I) where
 soft:=λz_ b hb=>by
  obtain⟨⟨oi,hoi,hci,hdi⟩,y_,y_,y_,y_,nf⟩:=z_;rw[List.mem_singleton.mp hb];exact⟨nf,λo' e=>by rw[hoi]at e;(refine aF e λz1=>?_;clear e;subst z1);exact eO hci hdi⟩
 stay:=λ{i h h' io io' m m' own fr} z_ H H' st hb g1 g2=>by
  obtain⟨⟨oi,hoi,hci,hdi⟩,hi,ha,hv,hn,nf⟩:=z_;have q:=hb I (.head _);refine e1a1 (aN4 g1) λkvs hm=>?_;refine e1a1 (aN4 g2) λkvs' hm'=>?_;refine e2a3 (st.dicts _ _ _ _ hi hm) λks e' q1 y_ q3=>?_;rw[hm']at q1;(refine aF q1 λz1=>?_;clear q1;(first | (injection z1;done) | subst z1 | cases (z1)));exact⟨⟨oi,st.keep _ _ hoi nf q.1 q.2,hci,hdi⟩,st.io_get hi,(q3 rfl).1.trans ha,hv.step st,hn,st.nofoot hoi nf⟩
 item:=λ{i s io m v Q E} hv z_ H hg hQ=>by
  refine e0a6 z_ λhit hi ha hx hn nf=>?_;refine e1a2 (hx.get hv) λu hu ku=>?_;rw[List.getElem?_map,Array.getElem?_toList]at hu;have hlt:i < es.size:=by
   rcases Nat.lt_or_ge i es.size with q | q
   ·exact q
   ·rw[Array.getElem?_eq_none q]at hu;injection hu
  rw[Array.getElem?_eq_getElem hlt]at hu
  (refine aF hu λz1=>?_;clear hu;subst z1)
  refine aW4 hit ha hd hlt λh' hit' hs=>?_;have kk:∀b o,b∉[I]->s.heap.get? b=some o->h'.get? b=some o:=λb o hb e=>(hs.2 b (by simpa using hb)).trans e;refine hQ _ h' s.toks ku ⟨hit',hi,kk _ _ (by simpa using Ne.symm hn) ha,hx.sol λb o e so=>?_,hn,nf⟩ kk;refine e1a3 hit λoi hoi hci hdi=>?_;exact kk b o (λq=>by rw[List.mem_singleton.mp q,hoi]at e;(refine aF e λz1=>?_;clear e;subst z1);exact eO hci hdi so) e
 alive:=λz_ b hb=>by obtain⟨⟨o,ho,y_⟩,y_⟩:=z_;rw[List.mem_singleton.mp hb];exact⟨o,ho⟩
 self:=λst hQ=>wpAny_pyIter_keyiter st.1 hQ
 lot:=λ{i s io target u Q E} st hQ=>by
  obtain⟨⟨oi,hoi,hci,hdi⟩,y_⟩:=id st;exact aJ3 hoi hci hdi (by decide) (hQ _ st λy_ y_ y_ e=>e)
 done:=λ{s io m Q E} z_ H hg hQ=>by
  refine e0a6 z_ λhit hi ha hx hn nf=>?_;have hl:=hx.length;refine bG9 hh hit ha hd (by simp at hl;lia) λh' hs=>?_;exact hQ h' s.toks λb o hb e=>hs b o (by simpa using hb) e
noncomputable def SrcP(W:Wd)(A:Around)(fs:List Env)(own:List Addr)(s:Shared)(io:Io)(m:MH)(p:List V×Gd)(t:Sem Value):Prop:=
 ∀(Q:Value->Shared->Prop) (E:Value->Shared->Prop),(∀I wr St h' tk,Wk W A I wr p.2 p.1 St->St 0 h' io->(∀b o,s.heap.get? b=some o->h'.get? b=some o)->(∀b∈wr,s.heap.get? b=none)->(p.2.stays m=true)->Q (.ref I) { s with heap:=h',toks:=tk })->wpAny (model W.prog W.w) A t Q E s
theorem dK(H:HR W s.heap io m):¬dA io s.heap.objs.size:=λf=>by
 refine e1a2 (H.foot f) λo e y_=>?_;rw[aO]at e;injection e
set_option tactic.hygienic true in
theorem cJ1(ok:WOk W)(hh:A.handled=none)(H:HR W s.heap io m){v:V}{u:Value}(k:VR W s.heap io v u){p:List V×Gd}{m':MH}(hp:eW v m=.ok p m'):m'=m /\ SrcP W A fs own s io m p (pyIter u):=by
 induction k using VR.elim with
 |none=>injection hp
 |bool b=>injection hp
 |int i t=>injection hp
 |fn k=>injection hp
 |exc=>injection hp
 |tup y_ y_=>injection hp
 |str x t hx=>
  (refine aL5 hp λz1 z2=>?_;clear hp;subst z1;subst z2)
  refine⟨rfl,λQ E hQ=>?_⟩;have key:∀(T:String) (hT:(["enumerate","zip","dict_itemiterator","dict_reverseitemiterator","odict_iterator","itertools.zip_longest","itertools.pairwise"].contains T)=false) (hw:Walks W.prog W.w A s.heap.objs.size [s.heap.objs.size] [s.heap.objs.size] x.cps.size (SignAt x) (λi h=>h.IsStrIter s.heap.objs.size T x t i)),Wk W A s.heap.objs.size [s.heap.objs.size] .none (x.cps.toList.map λc=>V.str ⟨#[c]⟩) (λi h io=>h.IsStrIter s.heap.objs.size T x t i /\ ¬dA io s.heap.objs.size):=λT hT hw=>by
   refine Wk.of_walks hw (by simp) (λi v u h io hv hP=>?_) (λi h ⟨o,ho,hc,hd⟩=>⟨o,T,_,ho,hc,hd,hT⟩) λb hb=>.inl (by simpa using hb);refine e2a2 hP λc t' e1 zz1=>?_;subst zz1;rw[List.getElem?_map,Array.getElem?_toList,e1]at hv
   (refine aF hv λz1=>?_;clear hv;subst z1)
   exact .str _ _ (aU6 hx e1)
  cases ha:x.cps.all (· < 128)
  ·exact wpAny_pyIter_wide ha (hQ _ _ _ _ _ (key _ (by decide) (Walks.strWide hh _ x t)) ⟨⟨_,Heap.get?_push_size _ rfl,rfl,rfl⟩,dK H⟩ (aM _) (λb hb=>by rw[List.mem_singleton.mp hb];exact aO _) rfl)
  ·exact wpAny_pyIter_ascii ha (hQ _ _ _ _ _ (key _ (by decide) (Walks.strAscii hh _ x t)) ⟨⟨_,Heap.get?_push_size _ rfl,rfl,rfl⟩,dK H⟩ (aM _) (λb hb=>by rw[List.mem_singleton.mp hb];exact aO _) rfl)
 | @ref n a d hi=>
  simp only[eW]at hp
  split at hp
  ·rename_i xs hm
   (refine aL5 hp λz1 z2=>?_;clear hp;subst z1;subst z2)
   obtain⟨y_,us,c,h1,h2,h3⟩:=H.obj _ _ _ hi hm;refine⟨rfl,λQ E hQ=>wpAny_pyIter_list ⟨_,h1,rfl,c,rfl⟩ ?_⟩;refine hQ _ _ _ _ _ (Wk.list (a:=a) (d:=d) hh) ⟨⟨_,Heap.get?_push_size _ rfl,rfl,rfl⟩,hi,dK H⟩ (aM _) (λb hb=>by rw[List.mem_singleton.mp hb];exact aO _) ?_;simp only[Gd.stays,hm];exact fQ xs
  ·rename_i kvs e hm
   (refine aL5 hp λz1 z2=>?_;clear hp;subst z1;subst z2)
   obtain⟨y_,o,es,c,h1,h2,h3,h4,h5,h6⟩:=H.obj _ _ _ hi hm;refine⟨rfl,λQ E hQ=>aW5 (H.notSys ok ⟨_,List.mem_of_getElem? hi,.inl rfl⟩) h1 h2 h3 ?_⟩;refine hQ _ _ _ _ _ (Wk.dict (a:=a) (d:=d) (k:=n) (e:=e) hh h3) ⟨⟨_,Heap.get?_push_size _ rfl,rfl,rfl⟩,hi,aM _ _ _ h1,h4.keys.step (.of_keeps (own:=[]) (fr:=[]) H (aM _)),λe=>?_,dK H⟩ (aM _) (λb hb=>by rw[List.mem_singleton.mp hb];exact aO _) ?_
   ·have h1:s.heap.get? a=some o:=h1
    rw[<- e,aO]at h1;injection h1
   ·simp only[Gd.stays,hm];exact beq_self_eq_true e
  ·injection hp
 |scr y_ y_ y_ y_ y_=>injection hp
end
end Mini.Internal
variable{a:Int}{T:List Nat}
namespace Mini.Internal
open PySem PySem.W
section
variable{K:Frag}{own:List Addr}
noncomputable def SiS(W:Wd)(A:Around)(fs:List Env)(env:Env)(vis:List (Option Str))(t:Sem Flow)(c:Lo->Mn (Fl×Lo)):Prop:=
 ∀(s:Shared) (io:Io) (m:MH) (r:Lo),Stt W fs env vis s io m r->Si W (bO env) A (env::fs) (SP W env vis) t s io m (c r m)
theorem dD7:SiS W A fs env vis (execs [] env) (λr=>ret (.next,r)):=λy_ y_ y_ y_ Z=>.pure (u:=Flow.next) Z.H ⟨.next,Z.F⟩
theorem cM6{st:Stmt}{c1 c2:Lo->Mn (Fl×Lo)}(h1:SiS W A fs env vis (exec st env) c1)(h2:SiS W A fs env vis (execs rest env) c2):
  SiS W A fs env vis (execs (st::rest) env) (λr=>bnd (c1 r) λp=>match p.1 with | .next=>c2 p.2 | f=>ret (f,p.2)):=by
 intro s io m r Z;rw[execs_cons];refine Si.bind (h1 s io m r Z) λf s₁ io₁ m₁ p y_ st H₁ k sm=>?_;obtain⟨q,r₁⟩:=p;refine e0a2 k λkf kF=>?_
 cases kf with
 |next=>exact h2 _ _ _ _ (Z.stepO H₁ st kF)
 |cont=>exact .pure H₁ ⟨.cont,kF⟩
 |ret kv=>exact .pure H₁ ⟨.ret kv,kF⟩
theorem Si.bindE{α' β':Type}{P:Heap->Io->α->β->Prop}{P':Heap->Io->α'->β'->Prop}{t:Sem β}{k:β->Sem β'}{R:Res α}{f:α->Mn α'}(x:Si W [] A fs P t s io m R)(y:∀u s₁ io₁ m₁ v,R=.ok v m₁->Step [] (frs fs) s.heap io m s₁.heap io₁ m₁->HR W s₁.heap io₁ m₁->P s₁.heap io₁ v u->Same s s₁->Si W own A fs P' (k u) s₁ io₁ m₁ (f v m₁)):
  Si W own A fs P' (t >>= k) s io m (R.bind f):=by
 intro hne;refine wpAny_bind (wpAny_mono (x (Res.bind_ne hne)) (λu s₁ hp=>?_) λe s₁ hp=>?_)
 ·obtain⟨v,m₁,io₁,rfl,st,hr,hp,sm⟩:=hp
  have st':=st.wk (own':=own) λy_ q=>nomatch q;exact wpAny_mono (y u s₁ io₁ m₁ v rfl st hr hp sm hne) (λy_ y_ z=>z.mono st' sm) λy_ y_ z=>z.mono st' sm
 ·obtain⟨c,m',io',a,g,h1,h2,h3,h4,h5,h6⟩:=hp
  exact XP.bind (R:=R) ⟨c,m',io',a,g,h1,h2,h3.wk (λy_ q=>nomatch q),h4,h5,h6⟩ .refl (.refl _)
theorem dD5(he:SiE W A (env::fs) env vis (eval e env) c):SiS W A fs env vis (exec (.Return (some e) pos) env) (λr=>bnd (c r) λv=>ret (.ret v,r)):=by
 intro s io m r Z;rw[exec_Return_some];refine .standAt (Si.bindE (he s io m r Z.sit) λu s₁ io₁ m₁ v y_ st H₁ k sm=>?_);exact .pure H₁ ⟨.ret k,Z.F.step0 Z.H st⟩
theorem dD6:SiS W A fs env vis (exec (.Pass pos) env) (λr=>ret (.next,r)):=λy_ y_ y_ y_ Z=>.standAt (.pure Z.H ⟨.next,Z.F⟩)
theorem dD9:SiS W A fs env vis (exec (.Continue pos) env) (λr=>ret (.cont,r)):=λy_ y_ y_ y_ Z=>.standAt (.pure Z.H ⟨.cont,Z.F⟩)
theorem x_if{test:Expr}{orelse:List Stmt}{ca:Lo->Mn (Fl×Lo)}(ht:SiB W A (env::fs) env vis (isTrue test env (eval test env)) ct)(ha:SiS W A fs env vis (execs body env) ca)(hb:SiS W A fs env vis (execs orelse env) cb):
  SiS W A fs env vis (exec (.If test body orelse pos) env) (λr=>bnd (ct r) λt=>if t then ca r else cb r):=by
 intro s io m r Z;rw[exec_If];refine .standAt (Si.bindE (ht s io m r Z.sit) λu s₁ io₁ m₁ v y_ st H₁ k sm=>?_);subst k
 cases (v)
 ·exact hb _ _ _ r (Z.step H₁ st)
 ·exact ha _ _ _ r (Z.step H₁ st)
theorem x_exp(hs:swapsWith e none pos.line env=Pure.pure false)(he:SiE W A (env::fs) env vis (eval e env) c):SiS W A fs env vis (exec (.Expr e pos) env) (λr=>bnd (c r) λy_=>ret (.next,r)):=by
 intro s io m r Z;rw[exec_Expr env e pos (by unfold interactive;rw[Z.F.kind];rfl) hs];refine .standAt (Si.bindE (he s io m r Z.sit) λu s₁ io₁ m₁ v y_ st H₁ k sm=>?_);exact λy_=>wpAny_dropValue ⟨_,m₁,io₁,rfl,.refl,H₁,⟨.next,Z.F.step0 Z.H st⟩,.refl _⟩
noncomputable def SiA(W:Wd)(A:Around)(fs:List Env)(env:Env)(vis:List (Option Str))(target:Expr)(c:V->Lo->Mn Lo):Prop:=
 ∀(s:Shared) (io:Io) (m:MH) (r:Lo) (v:V) (u:Value),Stt W fs env vis s io m r->VR W s.heap io v u->Si W (bO env) A (env::fs) (RP W env vis) (assign target env u) s io m (c v r m)
theorem Si.bindName{P:Heap->Io->α->Unit->Prop}{R:Res α}(h:Si W own A fs P (storeName env x u) s io m R):Si W own A fs P (PySem.bindName env x u) s io m R:=λhne=>wpAny_bindName (h hne)
theorem aZ4(hv:vis[i]?=some (some x))(hk:env.kindOf x=some .local \/ env.kindOf x=some .cell):SiA W A fs env vis (.Name x pos) (λv r m=>.ok (r.set i (some v)) m):=
 λy_ y_ y_ y_ y_ y_ Z k=>.standAt (.bindName (bR4 Z hv hk k))
theorem bN5{value:Expr}{ca:V->Lo->Mn Lo}(he:SiE W A (env::fs) env vis (eval value env) c)(ha:SiA W A fs env vis target ca)(hs:swapsWithSole [target] value pos.line env=Pure.pure false)(hw:swappedStores [target] value env=Pure.pure none)(hst:(assignEach [target] env).map (·.2)=[assign target env]):
  SiS W A fs env vis (exec (.Assign [target] value pos) env) (λr=>bnd (c r) λv=>bnd (ca v r) λr'=>ret (.next,r')):=by
 intro s io m r Z hne;refine wpAny_Assign_stores ?_ hs hw;rw[hst];refine wpAny_mono (he s io m r Z.sit (Res.bind_ne hne)) (λu s₁ q=>?_) λe s₁ hp=>?_
 ·obtain⟨v,m₁,io₁,e1,st,H₁,k,sm⟩:=q
  have ee:bnd (c r) (λv=>bnd (ca v r) λr'=>ret ((Fl.next,r'):Fl×Lo)) m=(ca v r m₁).bind λr'=>ret ((Fl.next,r'):Fl×Lo):=by show(c r m).bind _=_;rw[e1];rfl
  dsimp only at hne ⊢;rw[ee]at hne ⊢;have st':=st.wk (own':=bO env) λy_ q=>nomatch q;refine wpAny_mono (ha s₁ io₁ m₁ r v u (Z.step H₁ st) k (Res.bind_ne hne)) (λy_ s₂ q=>?_) λe s₂ q=>(q.mono st' sm).bind .refl (.refl _);obtain⟨r₂,m₂,io₂,e2,st2,H2,k2,sm2⟩:=q;exact⟨(.next,r₂),m₂,io₂,by rw[e2];rfl,st'.trans st2,H2,⟨.next,k2⟩,sm.trans sm2⟩
 ·obtain⟨c',m',io',a,g,h1,h2,h3,h4,h5,h6⟩:=hp
  exact XP.bind (R:=c r m) ⟨c',m',io',a,g,h1,h2,h3.wk (λy_ q=>nomatch q),h4,h5,h6⟩ .refl (.refl _)
noncomputable def ItP(W:Wd)(A:Around)(h₀:Heap):Heap->Io->List V×Gd->Value->Prop:=λh io p u=>∃I wr St,u=.ref I /\ Wk W A I wr p.2 p.1 St /\ St 0 h io /\ ∀b∈wr,h₀.get? b=none
noncomputable def SiSrc(W:Wd)(A:Around)(fs:List Env)(env:Env)(vis:List (Option Str))(iter:Expr)(c:Lo->Mn (List V×Gd)):Prop:=
 ∀(s:Shared) (io:Io) (m:MH) (r:Lo),Sit W fs env vis s io m r->c r m≠.bad->wpAny (model W.prog W.w) A (eval iter env) (λx s₁=>wpAny (model W.prog W.w) A (pyIter x) (λit s₂=>NP W [] (frs fs) s io m (ItP W A s.heap) (c r m) it s₂) (XP W [] fs s io m (c r m)) s₁) (XP W [] fs s io m (c r m)) s
theorem eP(st:Step own fr h₀ io₀ m₀ h io m){b:Addr}(e:h.get? b=none):h₀.get? b=none:=by
 cases q:h₀.get? b with
 |none=>rfl
 |some o=>refine e1a1 (st.alive b o q) λo' e'=>?_;rw[e]at e';injection e'
theorem cF5(ok:WOk W)(hh:A.handled=none)(he:SiE W A fs env vis (eval iter env) c):SiSrc W A fs env vis iter (λr=>bnd (c r) eW):=by
 intro s io m r Z hne;refine wpAny_mono (he s io m r Z (Res.bind_ne hne)) (λu s₁ q=>?_) λe s₁ q=>q.bind .refl (.refl _);obtain⟨v,m₁,io₁,e1,st,H₁,k,sm⟩:=q;have ee:bnd (c r) eW m=eW v m₁:=by show(c r m).bind _=_;rw[e1];rfl
 dsimp only at hne ⊢;rw[ee]at hne ⊢
 cases hq:eW v m₁ with
 |bad=>exact absurd hq hne
 |exc c' m'=>unfold eW at hq;split at hq <;> first | injection hq | (split at hq <;> injection hq)
 |ok p m'=>
  refine e0a2 (cJ1 (fs:=fs) (own:=[]) ok hh H₁ k hq) λzz1=>?_;subst zz1;intro key;refine key _ _ λI wr St h' tk hw h0 hk hn hg=>?_;have st2:Step [] (frs fs) s₁.heap io₁ m' h' io₁ m':=.of_keeps H₁ hk;exact⟨p,m',io₁,rfl,st.trans st2,H₁.of_keeps hk,⟨I,wr,St,rfl,hw,h0,λb hb=>eP st (hn b hb)⟩,sm⟩
theorem FR.sideN(F:FR W h io env vis r)(x:Side W wr h₀ h io h')(hL:env.locals∉wr)(hc:∀y c,env.cells.lookup y=some c->c∉wr):FR W h' io env vis r:=by
 refine e1a2 F.loc λmp hn hl=>?_;have sc:∀y c v,env.cells.lookup y=some c->h.IsCell c v->h'.IsCell c v:=λy c v hy ⟨o,ho,hd⟩=>⟨o,x.keep _ _ (hc y c hy) ho,hd⟩
 refine⟨F.kind,F.glob,F.blt,F.nofoot,F.fresh,⟨mp,?_,λi y v h1 h2 h3=>?_⟩,λi y v h1 h2 h3=>?_,λy c hy=>?_,F.celex,F.apart,F.inj,F.len⟩
 ·refine e3a3 hn λo es ep ho hd q=>?_
  exact⟨o,es,ep,x.keep _ _ hL ho,hd,q⟩
 ·refine e1a2 (hl i y v h1 h2 h3) λu e k=>?_
  exact⟨u,e,k.sol x.sol⟩
 ·refine e2a3 (F.cel i y v h1 h2 h3) λc u e k1 k2=>?_
  exact⟨c,u,e,sc y c _ e k1,k2.sol x.sol⟩
 ·obtain⟨⟨o,k1⟩,k2,k3⟩:=F.cells y c hy
  exact⟨⟨o,sc y c _ hy k1⟩,k2,k3⟩
theorem FR.side(F:FR W h io env vis r)(x:Side W wr h₀ h io h')(hL:∃o,h₀.get? env.locals=some o)(hc:∀y c,env.cells.lookup y=some c->∃o,h₀.get? c=some o):FR W h' io env vis r:=by
 have nw:∀b,(∃o,h₀.get? b=some o)->b∉wr:=λb z_ q=>by refine e1a1 z_ λo e=>?_;rw[x.new b q]at e;injection e
 refine e1a2 F.loc λmp hn hl=>?_;have sc:∀y c v,env.cells.lookup y=some c->h.IsCell c v->h'.IsCell c v:=λy c v hy ⟨o,ho,hd⟩=>⟨o,x.keep _ _ (nw c (hc y c hy)) ho,hd⟩
 refine⟨F.kind,F.glob,F.blt,F.nofoot,F.fresh,⟨mp,?_,λi y v h1 h2 h3=>?_⟩,λi y v h1 h2 h3=>?_,λy c hy=>?_,F.celex,F.apart,F.inj,F.len⟩
 ·refine e3a3 hn λo es ep ho hd q=>?_
  exact⟨o,es,ep,x.keep _ _ (nw _ hL) ho,hd,q⟩
 ·refine e1a2 (hl i y v h1 h2 h3) λu e k=>?_
  exact⟨u,e,k.sol x.sol⟩
 ·refine e2a3 (F.cel i y v h1 h2 h3) λc u e k1 k2=>?_
  exact⟨c,u,e,sc y c _ e k1,k2.sol x.sol⟩
 ·obtain⟨⟨o,k1⟩,k2,k3⟩:=F.cells y c hy
  exact⟨⟨o,sc y c _ hy k1⟩,k2,k3⟩
theorem dK7{step:V->Lo->Mn (Fl×Lo)}{v:V}(h:g.stays m=true):aO8 g step (v::vs) r m=(step v r m).bind (λp=>match p.1 with | .ret x=>ret (.ret x,p.2) | _=>aO8 g step vs p.2):=if_pos h
theorem dK6{step:V->Lo->Mn (Fl×Lo)}(h:g.stays m=true):aO8 g step [] r m=.ok (.next,r) m:=if_pos h
theorem aO7{step:V->Lo->Mn (Fl×Lo)}(h:aO8 g step vs r m≠.bad):g.stays m=true:=by
 cases q:g.stays m with
 |true=>rfl
 |false=>
  have z:¬g.stays m=true:=by rw[q];exact Bool.false_ne_true
  cases vs with
  |nil=>exact absurd (if_neg z) h
  |cons y_ y_=>exact absurd (if_neg z) h
inductive FInv(W:Wd)(fs:List Env)(env:Env)(vis:List (Option Str))(s:Shared)(io:Io)(m:MH)(St:Nat->Heap->Io->Prop)(g:Gd)(f:V->Lo->Mn (Fl×Lo))(vs:List V)(R:Res (Fl×Lo))(k:Nat)(s':Shared):Prop
 |mk (i:Nat) (r':Lo) (io':Io) (m':MH):k=vs.length - i->i <= vs.length->Step (bO env) (frs (env::fs)) s.heap io m s'.heap io' m'->HR W s'.heap io' m'->FR W s'.heap io' env vis r'->St i s'.heap io'->Same s s'->aO8 g f (vs.drop i) r' m'=R->FInv W fs env vis s io m St g f vs R k s'
structure WkF(W:Wd)(A:Around)(I:Addr)(wr:List Addr)(g:Gd)(vs:List V)(St:Nat->Heap->Io->Prop)(tg:Expr):Prop where
 soft:∀{i:Nat} {h:Heap} {io:Io},St i h io->∀b∈wr,¬dA io b /\ ∀o,h.get? b=some o->¬cQ o
 stay:∀{i:Nat} {h h':Heap} {io io':Io} {m m':MH} {own fr:List Addr},St i h io->HR W h io m->HR W h' io' m'->Step own fr h io m h' io' m'->(∀b∈wr,b∉own /\ b∉fr)->g.stays m=true->g.stays m'=true->St i h' io'
 next:∀{i:Nat} {s:Shared} {io:Io} {m:MH} {v:V} {Q:Option Value->Shared->Prop} {E:Value->Shared->Prop},vs[i]?=some v->St i s.heap io->HR W s.heap io m->g.stays m=true ->
  (∀u h₁ tk,(∀{Q':Unit->Shared->Prop} {E':Value->Shared->Prop},(∀h₂,VR W h₂ io v u->St (i+1) h₂ io->(∀b o,b∉wr->s.heap.get? b=some o->h₂.get? b=some o)->Q' () { s with heap:=h₂,toks:=tk })->wpAny (model W.prog W.w) A (letOwnedTupleGo tg (.ref I) u) Q' E' { s with heap:=h₁,toks:=tk })->Q (some u) { s with heap:=h₁,toks:=tk })->wpAny (model W.prog W.w) A (pyNext (.ref I)) Q E s
 done:∀{s:Shared} {io:Io} {m:MH} {Q:Option Value->Shared->Prop} {E:Value->Shared->Prop},St vs.length s.heap io->HR W s.heap io m->g.stays m=true ->
  (∀h' tk,(∀b o,b∉wr->s.heap.get? b=some o->h'.get? b=some o)->Q none { s with heap:=h',toks:=tk })->wpAny (model W.prog W.w) A (pyNext (.ref I)) Q E s
theorem Wk.forF{St:Nat->Heap->Io->Prop}(hw:Wk W A I wr g vs St):WkF W A I wr g vs St tg where
 soft:=hw.soft
 stay:=hw.stay
 next:=λ{i s io m v Q E} hv hst H hg hQ=>hw.item hv hst H hg λu h₁ tk ku hst₁ kk=>hQ u h₁ tk λk=>hw.lot (s:={ s with heap:=h₁,toks:=tk }) hst₁ λh₂ hst₂ kk₂=>by
  have kk':∀b o,b∉wr->s.heap.get? b=some o->h₂.get? b=some o:=λb o hb e=>kk₂ b o hb (kk b o hb e);exact k h₂ (ku.sol λb o e so=>kk' b o (λq=>(hw.soft hst b q).2 o e so) e) hst₂ kk'
 done:=hw.done
noncomputable def ItF(W:Wd)(A:Around)(tg:Expr)(h₀:Heap):Heap->Io->List V×Gd->Value->Prop:=λh io p u=>∃I wr St,u=.ref I /\ WkF W A I wr p.2 p.1 St tg /\ St 0 h io /\ ∀b∈wr,h₀.get? b=none
noncomputable def bM8(W:Wd)(A:Around)(fs:List Env)(env:Env)(vis:List (Option Str))(tg iter:Expr)(c:Lo->Mn (List V×Gd)):Prop:=
 ∀(s:Shared) (io:Io) (m:MH) (r:Lo),Sit W fs env vis s io m r->c r m≠.bad->wpAny (model W.prog W.w) A (eval iter env) (λx s₁=>wpAny (model W.prog W.w) A (pyIter x) (λit s₂=>NP W [] (frs fs) s io m (ItF W A tg s.heap) (c r m) it s₂) (XP W [] fs s io m (c r m)) s₁) (XP W [] fs s io m (c r m)) s
theorem SiSrc.forF{c:Lo->Mn (List V×Gd)}(h:SiSrc W A fs env vis iter c):bM8 W A fs env vis tg iter c:=λs io m r Z hne=>by
 refine wpAny_mono (h s io m r Z hne) (λx s₁ q=>wpAny_mono q (λit s₂ q=>?_) λy_ y_ q=>q) λy_ y_ q=>q;obtain⟨p,m₂,io₂,e2,st₂,H₂,⟨I,wr,St,e,hw,h0,hnew⟩,sm₂⟩:=q;exact⟨p,m₂,io₂,e2,st₂,H₂,⟨I,wr,St,e,hw.forF,h0,hnew⟩,sm₂⟩
theorem dD8(hA:A.frames=some (env::fs)){target iter:Expr}{body:List Stmt}{c:Lo->Mn (List V×Gd)}{ca:V->Lo->Mn Lo}{cb:Lo->Mn (Fl×Lo)}(hsrc:bM8 W A (env::fs) env vis target iter c)(ha:SiA W A fs env vis target ca)(hb:SiS W A fs env vis (execs body env) cb)(hf:∀x,foldedSetIterable iter env x=Pure.pure x):
  SiS W A fs env vis (exec (.For target iter body [] pos) env) (λr=>bnd (c r) λp=>aO8 p.2 (λv r'=>bnd (ca v r') λr''=>cb r'') p.1 r):=by
 intro s io m r Z hne;refine wpAny_For (wpAny_mono (hsrc s io m r Z.sit (Res.bind_ne hne)) (λx s₁ q=>wpAny_mono q (λit s₂ q=>?_) λe s₁ q=>?_) λe s₁ q=>?_) hf
 rotate_left
 ·obtain⟨c',m',io',a,g,h1,h2,h3,h4,h5,h6⟩:=q
  exact XP.bind (R:=c r m) ⟨c',m',io',a,g,h1,h2,h3.wk (λy_ q=>nomatch q),h4,h5,h6⟩ .refl (.refl _)
 ·obtain⟨c',m',io',a,g,h1,h2,h3,h4,h5,h6⟩:=q
  exact XP.bind (R:=c r m) ⟨c',m',io',a,g,h1,h2,h3.wk (λy_ q=>nomatch q),h4,h5,h6⟩ .refl (.refl _)
 obtain⟨⟨vs,g⟩,m₂,io₂,e2,st₂,H₂,⟨I,wr,St,rfl,hw,h0,hnew⟩,sm₂⟩:=q;have ee:bnd (c r) (λp=>aO8 p.2 (λv r'=>bnd (ca v r') λr''=>cb r'') p.1 r) m=aO8 g (λv r'=>bnd (ca v r') λr''=>cb r'') vs r m₂:=by show(c r m).bind _=_;rw[e2];rfl
 dsimp only at hne ⊢;rw[ee]at hne ⊢;have hL:∃o,s.heap.get? env.locals=some o:=by obtain⟨y_,⟨o,y_,y_,ho,y_⟩,y_⟩:=Z.F.loc;exact⟨o,ho⟩
 have hC:∀y c,env.cells.lookup y=some c->∃o,s.heap.get? c=some o:=λy c hy=>by obtain⟨⟨y_,o,ho,y_⟩,y_⟩:=Z.F.cells y c hy;exact⟨o,ho⟩
 have hOwn:∀b∈bO env,∃o,s.heap.get? b=some o:=λb hb=>by
  rcases List.mem_cons.mp hb with rfl | hb
  ·exact hL
  ·obtain⟨⟨y,c'⟩,hm,hq⟩:=List.mem_filterMap.mp hb
   exact hC y b hq
 have hFr:∀b∈frs (env::fs),∃o,s.heap.get? b=some o:=λb hb=>by
  refine hide λG_ g_=>?_;refine e1a2 (List.mem_filterMap.mp hb) λe he hf=>?_;obtain⟨y_,L,o,y_,y_,h1,y_,y_,h4,y_⟩:=Z.sit.G e he;refine g_ ?_;clear g_ G_;rw[h1]at hf;(refine aF hf λz1=>?_;clear hf;rw[<- z1]);exact⟨o,h4⟩
 have hwr:∀b∈wr,b∉bO env /\ b∉frs (env::fs):=λb hb=>⟨λq=>(by refine e1a1 (hOwn b q) λo e=>?_;rw[hnew b hb]at e;injection e),λq=>(by refine e1a1 (hFr b q) λo e=>?_;rw[hnew b hb]at e;injection e)⟩
 have hbase:∀b o,W.base.get? b=some o->s.heap.get? b=some o:=Z.H.keep;refine codeAny_forLoop_any (I:=FInv W fs env vis s io m St g (λv r'=>bnd (ca v r') λr''=>cb r'') vs (aO8 g (λv r'=>bnd (ca v r') λr''=>cb r'') vs r m₂)) (λk s' hI=>?_) vs.length ⟨0,r,io₂,m₂,by simp,Nat.zero_le _,st₂.wk (λy_ q=>nomatch q),H₂,Z.F.step0 Z.H st₂,h0,sm₂,by simp⟩;obtain⟨i,r',io',m',hk,hi,st,H,F,hst,sm,he⟩:=hI;have hne':aO8 g (λv r'=>bnd (ca v r') λr''=>cb r'') (vs.drop i) r' m'≠.bad:=by rw[he];exact hne
 have hg:=aO7 hne';have sft:=hw.soft hst;by_cases hlt:i < vs.length
 ·have hv:vs[i]?=some vs[i]:=List.getElem?_eq_getElem hlt
  have hd:vs.drop i=vs[i]::vs.drop (i+1):=List.drop_eq_getElem_cons hlt;refine hw.next hv hst H hg λu h₁ tk hgo=>hgo λh₂ ku2 hst₂ kk=>?_;have sd:Side W wr s.heap s'.heap io' h₂:=⟨kk,hnew,λb hb=>(sft b hb).1,λb hb=>(sft b hb).2⟩
  have H2:=sd.hr H hbase;have st2:=sd.step H st;have F2:=F.side sd hL hC;have Z2:Stt W fs env vis { s' with heap:=h₂,toks:=tk } io' m' r':=⟨H2,F2,Z.G.step st2 Z.dis,Z.fr,Z.dis⟩
  rw[hd]at he hne';rw[dK7 hg]at he hne';have hne1:ca vs[i] r' m'≠.bad:=λq=>hne' (by show((ca vs[i] r' m').bind cb).bind _=_;rw[q];rfl);refine wpAny_mono (ha _ io' m' r' vs[i] u Z2 ku2 hne1) (λy_ s₃ q=>?_) λe s₃ q=>?_
  rotate_left
  ·rw[<- he]
   exact aO1 hA Z.fr ((q.bind (f:=cb) .refl (.refl _)).bind st2 (sm.trans ⟨rfl,rfl⟩))
  obtain⟨r₃,m₃,io₃,e3,st3,H3,F3,sm3⟩:=q;have st3':=st2.trans st3;have Z3:Stt W fs env vis s₃ io₃ m₃ r₃:=⟨H3,F3,Z.G.step st3' Z.dis,Z.fr,Z.dis⟩
  have e4:bnd (ca vs[i] r') (λr''=>cb r'') m'=cb r₃ m₃:=by show(ca vs[i] r' m').bind _=_;rw[e3];rfl
  rw[e4]at he hne';have hne2:cb r₃ m₃≠.bad:=λq=>hne' (by rw[q];rfl);refine wpAny_mono (hb s₃ io₃ m₃ r₃ Z3 hne2) (λf s₄ q=>?_) λe s₄ q=>?_
  rotate_left
  ·rw[<- he]
   exact aO1 hA Z.fr (q.bind st3' (sm.trans (Same.trans ⟨rfl,rfl⟩ sm3)))
  obtain⟨⟨fl,r₄⟩,m₄,io₄,e5,st4,H4,⟨kf,F4⟩,sm4⟩:=q;rw[e5]at he hne';have st4':=st3'.trans st4;have go:aO8 g (λv r'=>bnd (ca v r') λr''=>cb r'') (vs.drop (i+1)) r₄ m₄=aO8 g (λv r'=>bnd (ca v r') λr''=>cb r'') vs r m₂->∃k',k' < k /\ FInv W fs env vis s io m St g (λv r'=>bnd (ca v r') λr''=>cb r'') vs (aO8 g (λv r'=>bnd (ca v r') λr''=>cb r'') vs r m₂) k' s₄:=λq=>by
   have hg4:g.stays m₄=true:=aO7 (by rw[q];exact hne);exact⟨vs.length - (i+1),hk▸Nat.sub_succ_lt_self _ _ hlt,i+1,r₄,io₄,m₄,rfl,hlt,st4',H4,F4,hw.stay hst₂ H2 H4 (st3.trans st4) hwr hg hg4,sm.trans (Same.trans ⟨rfl,rfl⟩ (sm3.trans sm4)),q⟩
  cases kf with
  |next=>exact go he
  |cont=>exact go he
  |ret kv=>exact⟨_,m₄,io₄,he.symm,st4',H4,⟨.ret kv,F4⟩,sm.trans (Same.trans ⟨rfl,rfl⟩ (sm3.trans sm4))⟩
 ·have hi':i=vs.length:=by lia
  subst hi';refine hw.done hst H hg λh₁ tk kk=>?_;have sd:Side W wr s.heap s'.heap io' h₁:=⟨kk,hnew,λb hb=>(sft b hb).1,λb hb=>(sft b hb).2⟩
  rw[List.drop_length]at he;rw[dK6 hg]at he;exact wpAny_execs_nil ⟨_,m',io',he.symm,sd.step H st,sd.hr H hbase,⟨.next,F.side sd hL hC⟩,sm.trans ⟨rfl,rfl⟩⟩
end
noncomputable def Tgs(env:Env)(vis:List (Option Str)):List Nat->List Expr->Prop
 |[],es=>es=[]
 |i::is,es=>∃x p es',es=.Name x p::es' /\ vis[i]?=some (some x) /\ (env.kindOf x=some .local \/ env.kindOf x=some .cell) /\ Tgs env vis is es'
theorem Tgs.len:∀{is:List Nat} {es:List Expr},Tgs env vis is es->(assignEach es env).length=is.length /\ (assignEach es env).findIdx? (·.1)=none
 |[],_,h=>by subst h;exact⟨rfl,rfl⟩
 |i::is,_,z=>by
  refine e3a4 z λx p es' e y_ y_ t=>?_;subst e;refine e0a2 t.len λh1 h2=>?_;have e:assignEach (.Name x p::es') env=(false,assign (.Name x p) env)::assignEach es' env:=rfl;rw[e,List.findIdx?_cons,h2];exact⟨by simp[h1],rfl⟩
theorem aA8:∀{is:List Nat} {vs:List V} {r r':Lo},b8 is vs r=some r'->is.length=vs.length
 |[],[],_,_,_=>rfl
 |[],_::_,_,_,h=>by injection h
 |_::_,[],_,_,h=>by injection h
 |i::is,v::vs,r,r',h=>congrArg Nat.succ (aA8 (show b8 is vs (r.set i (some v))=some r' from h))
theorem bV9:∀{is:List Nat} {elts:List Expr},Tgs env vis is elts->∀{vs:List V} {us:List Value} {s:Shared} {io:Io} {m:MH} {r:Lo},Stt W fs env vis s io m r->VRs W s.heap io vs us ->
  Si W (bO env) A (env::fs) (RP W env vis) (assignInOrder ((assignEach elts env).map (·.2)) us) s io m (ofO (b8 is vs r) m)
 |[],_,h,vs,us,s,io,m,r,Z,k=>by
  subst h
  induction k using VRs.elim with
  |nil=>exact Si.pure (P:=RP W env vis) Z.H Z.F
  |cons y_ y_=>exact Si.bad
 |i::is,_,z,vs,us,s,io,m,r,Z,k=>by
  refine e3a4 z λx p es' e hv hk t=>?_;subst e
  induction k using VRs.elim with
  |nil=>exact Si.bad
  | @cons v u vs us k1 k2=>
   refine Si.bind (R:=(.ok (r.set i (some v)) m:Res Lo)) (f:=λr' m'=>ofO (b8 is vs r') m') (.holding (aZ4 (pos:=p) hv hk _ _ _ _ _ _ Z k1)) λy_ s₁ io₁ m₁ r₁ e st H kF sm=>?_
   (refine aL5 e λz1 z2=>?_;clear e;rw[z1];rw[z2])
   exact bV9 t (Z.stepO H st kF) (k2.step st)
theorem cQ7(hh:A.handled=none){is:List Nat}{elts:List Expr}{x1:Nat}(ht:Tgs env vis is elts):SiA W A fs env vis (.Tuple elts x1 pos) (λv r=>aI4 (.many is) v r):=by
 intro s io m r v u Z k
 induction k using VR.elim with
 | @tup a vs c xs h1 h4=>
  show Si W (bO env) A (env::fs) (RP W env vis) _ s io m (ofO (b8 is xs r) m);intro hne;have hl:is.length=xs.length:=by
   cases q:b8 is xs r with
   |none=>rw[q]at hne;exact absurd rfl hne
   |some r'=>exact aA8 q
  refine wpAny_assign_Tuple hh ⟨_,h1,rfl,c,rfl⟩ (by rw[ht.len.1,hl];have:=h4.length;simpa using this.symm) ht.len.2 λh' hx=>?_;have hk:∀b o,s.heap.get? b=some o->h'.get? b=some o:=λb o e=>hx b o (λq=>by rw[q,aO]at e;injection e) e;have st:Step (bO env) (frs (env::fs)) s.heap io m h' io m:=.of_keeps Z.H hk;have st0:Step [] (frs (env::fs)) s.heap io m h' io m:=.of_keeps Z.H hk;have Z':Stt W fs env vis { s with heap:=h' } io m r:=Z.step (Z.H.of_keeps hk) st0;exact wpAny_mono (bV9 ht Z' (h4.step st) hne) (λy_ y_ z=>z.mono st ⟨rfl,rfl⟩) λy_ y_ z=>z.mono st ⟨rfl,rfl⟩
 |_=>exact Si.bad
end Mini.Internal
namespace Mini.Internal
open PySem PySem.W PyProof.Rows
noncomputable def SiQ(W:Wd)(A:Around)(fs:List Env)(env:Env)(vis:List (Option Str))(t:Sem Flow)(c:Lo->Mn (Fl×Lo)):Prop:=
 ∀(s:Shared) (io:Io) (m:MH) (r:Lo),Stt W fs env vis s io m r->Si W [] A (env::fs) (SP W env vis) t s io m (c r m)
section
variable{K:Frag}{l:List Env}{own:List Addr}
theorem XP.wk{R:Res α}{e:Value}(x:XP W own l s io m R e s')(k:∀b∈own,b∈own'):XP W own' l s io m R e s':=by
 obtain⟨c,m',io',a,g,h1,h2,h3,h4,h5,h6⟩:=x;exact⟨c,m',io',a,g,h1,h2,h3.wk k,h4,h5,h6⟩
theorem bY3{b:Addr}(F:FF W h io l)(hb:b∈frs l):∃o es n,¬dA io b /\ h.get? b=some o /\ o.data=.dict es n:=by
 refine hide λG_ g_=>?_;refine e1a2 (List.mem_filterMap.mp hb) λe he hf=>?_;obtain⟨y_,L,o,es,n,h1,y_,h3,h4,h5⟩:=F e he;refine g_ ?_;clear g_ G_;rw[h1]at hf;(refine aF hf λz1=>?_;clear hf;rw[<- z1]);exact⟨o,es,n,h3,h4,h5⟩
theorem land{g B h6:Heap}(G0:FF W h io l)(st:Step [] (frs l) h io m g io' m')(Hg:HR W g io' m')(kp:Kp W h io' l g B)(fl:B.StaysIn h6)(up:g.UpToSlots h6):
  Step [] (frs l) h io m h6 io' m' /\ HR W h6 io' m':=by
 have get:∀b o,g.get? b=some o->(dA io' b \/ cQ o \/ W.base.get? b=some o \/ ((∃o',h.get? b=some o') /\ b∉frs l))->h6.get? b=some o:=λb o e q=>fl b o (kp b o e q);have frm:∀b,b∈frs l->∀o,h.get? b=some o->∃sl,h6.get? b=some { o with slots:=sl }:=λb hb o ho=>by
  refine e3a3 (bY3 G0 hb) λo1 es n h1 h2 h3=>?_;rw[ho]at h2;(refine aF h2 λz1=>?_;clear h2;subst z1);refine e1a1 (st.slots b o ho h1 (λq=>nomatch q)) λsl e1=>?_;refine e1a1 (up b _ e1 (λvs q=>by rw[show({ o with slots:=sl }:Obj).data=o.data from rfl,h3]at q;injection q)) λsl2 e2=>?_;exact⟨sl2,e2⟩
 have ft:∀b o,dA io' b->g.get? b=some o->h6.get? b=some o:=λb o f e=>get b o e (.inl f);refine⟨⟨λb o e=>?_,λb o e so=>get b o (st.solid b o e so) (.inr (.inl so)),λb o e f1 f2 f3=>get b o (st.keep b o e f1 f2 f3) (.inr (.inr (.inr ⟨⟨o,e⟩,f3⟩))),λb o e f1 f2=>?_,st.grow,λn p kvs e hi hm=>?_⟩,?_⟩
 ·by_cases hb:b∈frs l
  ·refine e1a1 (frm b hb o e) λsl q=>?_;exact⟨_,q⟩
  ·refine e1a1 (st.alive b o e) λo' q=>?_;exact⟨o',get b o' q (.inr (.inr (.inr ⟨⟨o,e⟩,hb⟩)))⟩
 ·by_cases hb:b∈frs l
  ·exact frm b hb o e
  ·refine e1a1 (st.slots b o e f1 f2) λsl q=>?_;exact⟨sl,get b _ q (.inr (.inr (.inr ⟨⟨o,e⟩,hb⟩)))⟩
 ·refine e2a3 (st.dicts n p kvs e hi hm) λk1 e1 h1 h2 h3=>?_
  refine⟨k1,e1,h1,h2,λq=>⟨?_,(h3 q).2⟩⟩;refine e1a1 (Hg.there (st.io_get hi)) λo ho=>?_;rw[<- (h3 q).1,ho];exact ft _ _ ⟨p,List.mem_of_getElem? (st.io_get hi),.inl rfl⟩ ho
 ·refine⟨λb o e=>get b o (Hg.keep b o e) (.inr (.inr (.inl e))),Hg.len,λn p o hi hm=>?_,Hg.fresh,Hg.apart⟩
  exact(Hg.obj n p o hi hm).sol (λb o e so=>get b o e (.inr (.inl so))) (λo e=>ft _ o ⟨p,List.mem_of_getElem? hi,.inl rfl⟩ e) (λo e=>ft _ o ⟨p,List.mem_of_getElem? hi,.inr rfl⟩ e)
theorem cR8{c:Nat}{args:List Expr}{mg mb:Str->Option Value}{pp:Program}{loose:List Str}{bmB bmN:List Value}{Bn B newId nid initId inN:String}(gl:Gl W K)(hh:A.handled=none)(Fn:ExcBaseFacts Bn newId inN bmN)(hBn:bmB.contains (.type Bn)=true)(F:ExcBaseFacts B nid initId bmB)(hbase:bmB.contains (.type "BaseException")=true)(T:TopRead pp loose mg mb W.base)(e:nsIn K mainGlobals x=some (some (.ref (W.ca c))))(hq:excIn K (W.ca c) bmB newId=true)(hx:env.kindOf x=some .globalImplicit)(hd:(x == ("__debug__":Str))=false)(hs:aW args=true)(hl:SiL W A (env::fs) env vis (spliced (backTo cpos (starEach args env))) cl)(hn:∀r m vs m',cl r m=.ok vs m'->vs.length <= lid):
  SiS W A fs env vis (exec (.Raise (some (.Call (.Name x np) args [] cpos)) none pos) env) (λr=>bnd (cl r) λy_ m=>.exc c m):=by
 intro s io m r Z hne;have OW:=own_of_in gl.X T e hq;obtain⟨bm,N,nm,qn,bs,hdct,sn,sub,ab,col,dd,k0,k1,k2,k3,k5,mN,hC,hN,hni,TL0⟩:=OW.obj;refine wpAny_Raise_call_subU Fn hBn F (mN:=mN) (bm:=bm) (N:=N) (nm:=nm) (q:=qn) (bs:=bs) (hdct:=hdct) (sn:=sn) (sub:=sub) (ab:=ab) (col:=col) (dd:=dd) (k0:=k0) (k1:=k1) (k2:=k2) (k3:=k3) (k5:=k5) (TL0.hasType hbase) hh (dS hs) hni (aO4 gl Z.sit e hx hd ⟨rfl,dO hs ?_⟩);refine wpAny_mono (hl s io m r Z.sit (Res.bind_ne hne)) (λus s' q=>?_) λy_ y_ q=>(q.bind .refl (.refl _)).wk λy_ q=>nomatch q;obtain⟨vs,m',io',e',st,H,kv,sm⟩:=q;have hlen:us.length <= sizeLine:=by rw[kv.length];exact aL (hn r m vs m' e')
 have ee:bnd (cl r) (λy_ m=>.exc c m) m=(.exc c m':Res (Fl×Lo)):=by show(cl r m).bind _=_;rw[e'];rfl
 refine⟨rfl,hlen,H.keep _ _ hC,?_,TL0.keeps H.keep,λh' e0 hm=>?_⟩
 ·refine e3a2 hN λo es ep ho r=>?_;exact⟨o,es,ep,H.keep _ _ ho,r⟩
 dsimp only;rw[ee];have G':FF W s'.heap io' (env::fs):=Z.sit.G.step0 st;have hin:∀e∈env::fs,∀b,e.frame=some b->b∈frs (env::fs):=λe he b hb=>List.mem_filterMap.mpr ⟨e,he,hb⟩;refine⟨c,m',io',e0,s'.heap,rfl,rfl,st.wk (λy_ q=>nomatch q),H,⟨hideAll s'.heap (frs (env::fs)),λb o q hk=>?_,.inr (.inr ⟨us,λb o q=>of_hideAll _ q,funFrames_hide G'.funFrames hin,hm⟩)⟩,sm⟩;refine hideAll_get _ q λhb=>?_;refine e3a3 (bY3 G' hb) λo1 es n h1 h2 h3=>?_;rw[q]at h2;(refine aF h2 λz1=>?_;clear h2;subst z1);rcases hk with hk | hk | hk | hk
 ·exact h1 hk
 ·rcases hk with⟨_,vs,n,hv⟩ | ⟨C,vs,_,hv⟩
  ·rw[h3]at hv;injection hv
  ·rw[h3]at hv;injection hv
 ·refine hide λG_ g_=>?_
  refine e1a2 (List.mem_filterMap.mp hb) λe1 he hf=>?_;obtain⟨y_,L,y_,y_,y_,f1,f2,y_⟩:=G' e1 he;refine g_ ?_;clear g_ G_;rw[f1]at hf;(refine aF hf λz1=>?_;clear hf;subst z1);rw[f2]at hk;injection hk
 ·exact hk.2 hb
theorem q_nil:SiQ W A fs env vis (execs [] env) (λr=>ret (.next,r)):=λy_ y_ y_ y_ Z=>.pure (u:=Flow.next) Z.H ⟨.next,Z.F⟩
theorem dH5{st:Stmt}{c1 c2:Lo->Mn (Fl×Lo)}(h1:SiQ W A fs env vis (exec st env) c1)(h2:SiQ W A fs env vis (execs rest env) c2):
  SiQ W A fs env vis (execs (st::rest) env) (λr=>bnd (c1 r) λp=>match p.1 with | .next=>c2 p.2 | f=>ret (f,p.2)):=by
 intro s io m r Z;rw[execs_cons];refine Si.bind (h1 s io m r Z) λf s₁ io₁ m₁ p y_ st H₁ k sm=>?_;obtain⟨q,r₁⟩:=p;refine e0a2 k λkf kF=>?_
 cases kf with
 |next=>exact h2 _ _ _ _ (Z.stepO H₁ (st.wk λy_ q=>nomatch q) kF)
 |cont=>exact .pure H₁ ⟨.cont,kF⟩
 |ret kv=>exact .pure H₁ ⟨.ret kv,kF⟩
theorem q_ret(he:SiE W A (env::fs) env vis (eval e env) c):SiQ W A fs env vis (exec (.Return (some e) pos) env) (λr=>bnd (c r) λv=>ret (.ret v,r)):=by
 intro s io m r Z;rw[exec_Return_some];refine .standAt (Si.bindE (he s io m r Z.sit) λu s₁ io₁ m₁ v y_ st H₁ k sm=>?_);exact .pure H₁ ⟨.ret k,Z.F.step0 Z.H st⟩
theorem q_if{test:Expr}{orelse:List Stmt}{ca:Lo->Mn (Fl×Lo)}(ht:SiB W A (env::fs) env vis (isTrue test env (eval test env)) ct)(ha:SiQ W A fs env vis (execs body env) ca)(hb:SiQ W A fs env vis (execs orelse env) cb):
  SiQ W A fs env vis (exec (.If test body orelse pos) env) (λr=>bnd (ct r) λt=>if t then ca r else cb r):=by
 intro s io m r Z;rw[exec_If];refine .standAt (Si.bindE (ht s io m r Z.sit) λu s₁ io₁ m₁ v y_ st H₁ k sm=>?_);subst k
 cases (v)
 ·exact hb _ _ _ r (Z.step H₁ st)
 ·exact ha _ _ _ r (Z.step H₁ st)
theorem q_exp(hs:swapsWith e none pos.line env=Pure.pure false)(he:SiE W A (env::fs) env vis (eval e env) c):SiQ W A fs env vis (exec (.Expr e pos) env) (λr=>bnd (c r) λy_=>ret (.next,r)):=by
 intro s io m r Z;rw[exec_Expr env e pos (by unfold interactive;rw[Z.F.kind];rfl) hs];refine .standAt (Si.bindE (he s io m r Z.sit) λu s₁ io₁ m₁ v y_ st H₁ k sm=>?_);exact λy_=>wpAny_dropValue ⟨_,m₁,io₁,rfl,.refl,H₁,⟨.next,Z.F.step0 Z.H st⟩,.refl _⟩
noncomputable def NmOk(env:Env)(vis:List (Option Str)):Option Str->Option Nat->Prop
 |none,none=>True
 |_,_=>False
theorem x_try{c:Nat}{hp rp:Pos}{nm:Option Str}{ni:Option Nat}{ch:Lo->Mn V}(gl:Gl W K)(hA:A.frames=some (env::fs))(hb:SiQ W A fs env vis (execs body env) cb)(he:∀a,SiE W (A.mark (some (.ref a))) (env::fs) env vis (eval e env) ch)(ex:nsIn K mainGlobals x=some (some (.ref (W.ca c))))(hx:env.kindOf x=some .globalImplicit)(hd:(x == ("__debug__":Str))=false)(hm:∀d,((S.cls[d]?).any λk=>k.supers.contains c)=true->exmOne K (.ref (W.ca d)) (.ref (W.ca c))=some true)(hnm:NmOk env vis nm ni):
  SiS W A fs env vis (exec (.Try body [.ExceptHandler (some (.Name x np)) nm [.Return (some e) rp] hp] [] [] pos) env) (λr=>bQ7 S (cb r) c ni ch r):=by
 intro s io m r Z hne;have hb':cb r m≠.bad:=λq=>hne (by show bQ7 S (cb r) c ni ch r m=_;unfold bQ7;rw[q]);refine wpAny_Try_except (wpAny_mono (hb s io m r Z hb') (λf s₁ q=>?_) λe1 s₁ q=>?_)
 ·obtain⟨⟨fl,r1⟩,m1,io1,e1,st,H,⟨kf,F⟩,sm⟩:=q
  have ee:bQ7 S (cb r) c ni ch r m=.ok (fl,r1) m1:=by unfold bQ7;rw[e1]
  dsimp only;rw[ee];have st':=st.wk (own':=bO env) (λy_ q=>nomatch q)
  cases kf with
  |next=>exact wpAny_execs_nil ⟨_,m1,io1,rfl,st',H,⟨.next,F⟩,sm⟩
  |cont=>exact⟨_,m1,io1,rfl,st',H,⟨.cont,F⟩,sm⟩
  |ret kv=>exact⟨_,m1,io1,rfl,st',H,⟨.ret kv,F⟩,sm⟩
 ·obtain⟨d,m1,io1,a,g,e1,rfl,st,Hg,fly,sm⟩:=q
  dsimp only at hne ⊢;have ee:bQ7 S (cb r) c ni ch r m=dF4 S c ni ch r d m1:=by unfold bQ7;rw[e1]
  rw[ee]at hne ⊢;by_cases hs:((S.cls[d]?).any λk=>k.supers.contains c)=true
  rotate_left
  ·exact absurd (if_neg hs) hne
  ·have e0:dF4 S c ni ch r d m1=((ch (exR ni d r) m1).nox).bind λv=>ret (.ret v,exN ni r):=if_pos hs
   rw[e0]at hne ⊢;obtain⟨v,m2,e2⟩:∃v m2,ch (exR ni d r) m1=.ok v m2:=by
    cases q:ch (exR ni d r) m1 with
    |ok v m2=>exact⟨v,m2,rfl⟩
    |exc c m2=>rw[q]at hne;exact absurd rfl hne
    |bad=>rw[q]at hne;exact absurd rfl hne
   have e3:((ch (exR ni d r) m1).nox).bind (λv=>ret (Fl.ret v,exN ni r))=.ok (.ret v,exN ni r) m2:=by rw[e2];rfl
   rw[e3];refine bG1 hA Z.fr fly λB h4 a0 kp held up4=>?_;refine wpAny_landsW held λh5 fl5 up5=>?_;refine e0a2 (land Z.sit.G st Hg kp fl5.1 (up4.trans up5)) λst5 H5=>?_;have Z5:Sit W (env::fs) env vis { s₁ with heap:=h5 } io1 m1 r:=Z.sit.step H5 st5;have LT:Looks (model W.prog W.w) h5 (typeOf (.ref a)) (.ref (W.ca d)):=by
    refine e1a2 fl5.there λob hob hc=>?_;rw[<- hc];exact(Looks.ld hob).andThen .now
   refine wpAny_handleBy_cons (codeAny_handlers_test (aO4 gl Z5 ex hx hd ((exm_one (gl.X.keeps H5.keep) LT (hm d hs)).here ?_))) (by intro q;injection q);have suite:∀(s':Shared) (io':Io) (r':Lo),Stt W fs env vis s' io' m1 r'->r'=exR ni d r->Step (bO env) (frs (env::fs)) s.heap io m s'.heap io' m1->Same s s'->∀(Q:Flow->Shared->Prop) (E:Value->Shared->Prop),
     (∀f s₂,NP W (bO env) (frs (env::fs)) s io m (SP W env vis) (.ok (.ret v,r') m2) f s₂->Q f s₂)->wpAny (model W.prog W.w) (A.mark (some (.ref a))) (execs [.Return (some e) rp] env) Q E s':=by
    intro s' io' r' Z' hr st' sm' Q E hQ;subst hr;have key:=cM6 (dD5 (pos:=rp) (he a)) (dD7 (W:=W) (A:=A.mark (some (.ref a))) (fs:=fs) (env:=env) (vis:=vis)) s' io' m1 _ Z';have er:(bnd (bnd (ch (exR ni d r)) λv=>ret (Fl.ret v,exR ni d r)) λp=>match p.1 with | .next=>ret (.next,p.2) | f=>ret (f,p.2)) m1=.ok (.ret v,exR ni d r) m2:=by
     show Res.bind (Res.bind (ch (exR ni d r) m1) _) _=_;rw[e2];rfl
    have key2:Si W (bO env) (A.mark (some (.ref a))) (env::fs) (SP W env vis) (execs [.Return (some e) rp] env) s' io' m1 (.ok (.ret v,exR ni d r) m2):=by
     rw[<- er];exact key
    refine wpAny_mono (key2 (λq=>by injection q)) (λf s₂ q=>hQ f s₂ (q.mono st' sm')) λy_ y_ q=>?_;obtain⟨y_,y_,y_,y_,y_,q,y_⟩:=q;injection q
   cases ni with
   |none=>
    cases nm with
    |some y=>exact hnm.elim
    |none=>
     refine codeAny_handlers_suite ?_;refine lands_againW fl5 λh6 fl6 up6=>?_;refine e0a2 (land Z.sit.G st Hg kp fl6.1 ((up4.trans up5).trans up6)) λst6 H6=>?_;have Z6:Stt W fs env vis { s₁ with heap:=h6 } io1 m1 r:=⟨H6,Z.F.step0 Z.H st6,Z.G.step0 st6,Z.fr,Z.dis⟩
     exact suite _ _ r Z6 rfl (st6.wk λy_ q=>nomatch q) ⟨sm.1,sm.2⟩ _ _ λf s₂ q=>q
   |some i=>
    cases nm with
    |none=>exact hnm.elim
    |some y=>exact hnm.elim
end
end Mini.Internal
variable{c:Int}{np:Nat}
namespace Mini.Internal
open PySem PySem.W
section
variable{K:Frag}{own:List Addr}
inductive WInv(W:Wd)(fs:List Env)(env:Env)(vis:List (Option Str))(s:Shared)(io:Io)(m:MH)(ct:Lo->Mn Bool)(cb:Lo->Mn (Fl×Lo))(R:Res (Fl×Lo))(k:Nat)(s':Shared):Prop
 |mk (r':Lo) (io':Io) (m':MH):Step (bO env) (frs (env::fs)) s.heap io m s'.heap io' m'->HR W s'.heap io' m'->FR W s'.heap io' env vis r'->Same s s'->aH5 ct cb k r' m'=R->WInv W fs env vis s io m ct cb R k s'
theorem cR7{test:Expr}{fuel:Nat}(ht:SiB W A (env::fs) env vis (isTrue test env (eval test env)) ct)(hb:SiS W A fs env vis (execs body env) cb):
  SiS W A fs env vis (exec (.While test body [] pos) env) (λr=>aH5 ct cb fuel r):=by
 intro s io m r Z hne;dsimp only at hne ⊢;refine wpAny_While ?_;refine codeAny_whileLoop (I:=WInv W fs env vis s io m ct cb (aH5 ct cb fuel r m)) (λk s' hI=>?_) fuel ⟨r,io,m,.refl,Z.H,Z.F,.refl _,rfl⟩;obtain⟨r',io',m',st,H,F,sm,he⟩:=hI;rw[<- he]at hne
 cases k with
 |zero=>exact absurd rfl hne
 |succ k=>
  simp only[aH5]at he hne;have Z':Stt W fs env vis s' io' m' r':=Z.stepO H st F;have hne1:ct r' m'≠.bad:=λq=>hne (by show((ct r' m').nox).bind _=_;rw[q];rfl);refine wpAny_mono (ht s' io' m' r' Z'.sit hne1) (λb s₂ q=>?_) λe s₂ q=>?_
  rotate_left
  ·obtain⟨c',m'',io'',a,g',h1,y_⟩:=q
   exact absurd (by show((ct r' m').nox).bind _=_;rw[h1];rfl) hne
  obtain⟨b',m₂,io₂,e2,st2,H2,rfl,sm2⟩:=q;have Z2:=Z'.step H2 st2;have st2':=st.trans (st2.wk (own':=bO env) λy_ q=>nomatch q);have e3:∀f:Bool->Mn (Fl×Lo),bnd (λm=>(ct r' m).nox) f m'=f b' m₂:=λf=>by show((ct r' m').nox).bind _=_;rw[e2];rfl
  rw[e3]at he hne
  cases b' with
  |false=>exact wpAny_execs_nil ⟨(.next,r'),m₂,io₂,he.symm,st2',H2,⟨.next,Z2.F⟩,sm.trans sm2⟩
  |true=>
   simp only[if_true]at he hne ⊢;have hne2:cb r' m₂≠.bad:=λq=>hne (by show((cb r' m₂).nox).bind _=_;rw[q];rfl);refine wpAny_mono (hb s₂ io₂ m₂ r' Z2 hne2) (λf s₄ q=>?_) λe s₄ q=>?_
   rotate_left
   ·obtain⟨c',m'',io'',a,g',h1,y_⟩:=q
    exact absurd (by show((cb r' m₂).nox).bind _=_;rw[h1];rfl) hne
   obtain⟨⟨fl,r₄⟩,m₄,io₄,e5,st4,H4,⟨kf,F4⟩,sm4⟩:=q;have e6:∀f:Fl×Lo->Mn (Fl×Lo),bnd (λm=>(cb r' m).nox) f m₂=f (fl,r₄) m₄:=λf=>by show((cb r' m₂).nox).bind _=_;rw[e5];rfl
   rw[e6]at he hne;have st4':=st2'.trans st4;have sm4':=(sm.trans sm2).trans sm4
   cases kf with
   |next=>exact⟨k,Nat.lt_succ_self _,r₄,io₄,m₄,st4',H4,F4,sm4',he⟩
   |cont=>exact⟨k,Nat.lt_succ_self _,r₄,io₄,m₄,st4',H4,F4,sm4',he⟩
   |ret kv=>exact⟨_,m₄,io₄,he.symm,st4',H4,⟨.ret kv,F4⟩,sm4'⟩
theorem Wk.range(hh:A.handled=none)(hk:k=vs.length)(hv:∀(i:Nat) (v:V),vs[i]?=some v->v=.int (a+i * c)):Wk W A I [I] .none vs (λi h io=>IsRangeIter h I (a+(i:Nat) * c) ((k:Int) - (i:Nat)) c /\ ¬dA io I):=
 Wk.of_walks (Walks.range hh I a c k) hk (λi v u h io e ⟨t,q⟩=>by rw[hv i v e,q];exact .int _ _) (λi h ht=>⟨_,_,_,ht,rfl,rfl,by decide⟩) λb hb=>.inl (by simpa using hb)
theorem bK2{f:Nat->V}{v:V}(h:((List.range k).map f)[i]?=some v):v=f i:=by
 rw[List.getElem?_map]at h
 cases q:(List.range k)[i]? with
 |none=>rw[q]at h;injection h
 |some j=>
  rw[q]at h;have hk:j=i:=by
   obtain⟨hlt,e⟩:=List.getElem?_eq_some_iff.mp q;simp at e;lia
  (refine aF h λz1=>?_;clear h;subst z1);rw[hk]
theorem bA7:Builtin.Range.rangeSize a b 1=((b - a).toNat:Int):=by
 unfold Builtin.Range.rangeSize;rw[if_pos (by decide)];by_cases h:a < b
 ·rw[if_pos h,Int.ediv_one,Int.sub_add_cancel,Int.toNat_of_nonneg (Int.le_of_lt (Int.sub_pos_of_lt h))]
 ·rw[if_neg h,Int.toNat_of_nonpos (Int.sub_nonpos_of_le (Int.not_lt.mp h))];rfl
theorem fitL{i:Int}(h1:-(2 ^ 40) <= i)(h2:i <= 2 ^ 40):Builtin.Range.rangeFitsLong i=true:=by
 unfold Builtin.Range.rangeFitsLong;rw[Bool.and_eq_true];exact⟨decide_eq_true (Int.le_trans (by decide) h1),decide_eq_true (Int.lt_of_le_of_lt h2 (by decide))⟩
theorem near(h:a.natAbs < 2 ^ 31):-(2 ^ 31) <= a /\ a <= 2 ^ 31:=⟨Int.neg_le_of_neg_le (Int.le_of_lt (Int.lt_of_le_of_lt Int.le_natAbs (by rw[Int.natAbs_neg];exact Int.ofNat_lt.mpr h))),Int.le_of_lt (Int.lt_of_le_of_lt Int.le_natAbs (Int.ofNat_lt.mpr h))⟩
theorem cL8{x:Int}(hx:0 <= x)(h:x <= 2 ^ 32)(hc:0 < c):-(2 ^ 40) <= x / c+1 /\ x / c+1 <= 2 ^ 40:=by
 have h1:0 <= x / c:=Int.ediv_nonneg hx (Int.le_of_lt hc);have h2:x / c <= x:=Int.ediv_le_self _ hx;exact⟨Int.le_trans (by decide) (Int.add_le_add_right h1 1),Int.le_trans (Int.add_le_add_right (Int.le_trans h2 h) 1) (by decide)⟩
theorem gap(a1:-(2 ^ 31) <= a)(b2:b <= 2 ^ 31)(h:a < b):0 <= b - a - 1 /\ b - a - 1 <= 2 ^ 32:=⟨Int.le_sub_one_of_lt (Int.sub_pos_of_lt h),Int.le_trans (Int.sub_le_self _ (by decide)) (Int.le_trans (Int.sub_le_sub b2 a1) (by decide))⟩
theorem bW9(b1:-(2 ^ 31) <= b)(b2:b <= 2 ^ 31)(c1:-(2 ^ 31) <= c)(c2:c <= 2 ^ 31):-(2 ^ 40) <= b+(c - 1) /\ b+(c - 1) <= 2 ^ 40:=⟨Int.le_trans (by decide) (Int.add_le_add b1 (Int.sub_le_sub_right c1 1)),Int.le_trans (Int.add_le_add b2 (Int.sub_le_sub_right c2 1)) (by decide)⟩
theorem aI7(ha:a.natAbs < 2 ^ 31)(hb:b.natAbs < 2 ^ 31)(hc:c.natAbs < 2 ^ 31)(h0:0 < c):Builtin.Range.small a b c=true:=by
 refine e0a2 (near ha) λa1 a2=>?_;refine e0a2 (near hb) λb1 b2=>?_;refine e0a2 (near hc) λc1 c2=>?_;have far:∀{i:Int},-(2 ^ 31) <= i->i <= 2 ^ 31->Builtin.Range.rangeFitsLong i=true:=λh1 h2=>fitL (Int.le_trans (by decide) h1) (Int.le_trans h2 (by decide));have hs:Builtin.Range.rangeFitsLong (Builtin.Range.rangeSize a b c)=true:=by
  unfold Builtin.Range.rangeSize;rw[if_pos h0];by_cases h:a < b
  ·rw[if_pos h]
   have g:=gap a1 b2 h;have d:=cL8 g.1 g.2 h0;exact fitL d.1 d.2
  ·rw[if_neg h];rfl
 have l:=bW9 b1 b2 c1 c2;unfold Builtin.Range.small;rw[far a1 a2,far b1 b2,far c1 c2,hs,if_pos h0,fitL l.1 l.2,Bool.or_true];rfl
theorem aA1{l:List V}(H:HR W s.heap io m)(k:VRs W s.heap io vs us)(hr:eE vs=some l){Q:Value->Shared->Prop}{E:Value->Shared->Prop}(hQ:∀(a b c:Int) (o:Obj) (tk:Nat) (t u v:Tok),a.natAbs < 2 ^ 31->b.natAbs < 2 ^ 31->c.natAbs < 2 ^ 31->0 < c->(l.length:Int)=Builtin.Range.rangeSize a b c->(∀(i:Nat) (v:V),l[i]?=some v->v=.int (a+i * c))->IsRange (s.heap.push o) s.heap.objs.size a b c t u v->Q (.ref s.heap.objs.size) { s with heap:=s.heap.push o,toks:=tk }):
  wpAny (model W.prog W.w) A (call (.type "range") us) Q E s:=by
 have e30:(2:Nat) ^ 30 < 2 ^ 31:=by decide
 have one:∀n:Int,vs=[.int n]->wpAny (model W.prog W.w) A (call (.type "range") us) Q E s:=λn e=>by
  subst e;have hr:(if n.natAbs < 2 ^ 30 then some (aI8 0 n)else Option.none)=some l:=hr;by_cases hlt:n.natAbs < 2 ^ 30
  ·rw[if_pos hlt]at hr
   (refine aF hr λz1=>?_;clear hr;subst z1)
   refine VRs.dCons k λy_ y_ k1 k2=>?_;rw[k2];refine VR.dInt k1 λy_=>?_;refine call_range_1 (hQ 0 _ 1 _ _ _ _ _ (by decide) (Nat.lt_trans hlt e30) (by decide) (by decide) ?_ (λi v e=>?_) (.new _ _ _ _ _ _ _))
   ·rw[bA7];unfold aI8;rw[List.length_map,List.length_range]
   ·rw[bK2 e,Int.mul_one]
  ·rw[if_neg hlt]at hr;injection hr
 clear hQ
 cases vs with
 |nil=>injection hr
 |cons a vs=>
  cases vs with
  |nil=>
   cases a with
   |int n=>exact one n rfl
   |_=>injection hr
  |cons b vs=>cases (a) <;> injection hr
theorem bR5(hh:A.handled=none)(gl:Gl W K)(e:nsIn K mainGlobals x=some none)(hv:bootBuiltins x=some (.type "range"))(hn:(x == ("__name__":Str))=false)(hx:env.kindOf x=some .globalImplicit)(hd:(x == ("__debug__":Str))=false)(hs:aW es=true)(hl:SiL W A fs env vis (spliced (backTo pos (starEach es env))) cl):SiSrc W A fs env vis (.Call (.Name x p) es [] pos) (λr=>bnd (cl r) λvs=>match eE vs with | some l=>ret (l,.none) | none=>bad):=by
 intro s io m r Z hne;dsimp only at hne ⊢;refine wpAny_Call_NameR (aE8 gl Z e hv hn hx hd (callWith_type (dS hs) (dO hs ?_)));refine wpAny_mono (hl s io m r Z (Res.bind_ne hne)) (λus s₁ q=>?_) λy_ y_ q=>q.bind .refl (.refl _);obtain⟨vs,m₁,io₁,e1,st,H,k,sm⟩:=q;have ee:bnd (cl r) (λvs=>match eE vs with | some l=>ret (l,Gd.none) | none=>bad) m=(match eE vs with | some l=>ret (l,Gd.none) | none=>bad) m₁:=by show(cl r m).bind _=_;rw[e1];rfl
 rw[ee]at hne ⊢;show wpAny (model W.prog W.w) A (call (.type "range") us) _ _ s₁;have fin:∀(a b c:Int) (o:Obj) (tk:Nat) (t u v:Tok) (l:List V),a.natAbs < 2 ^ 31->b.natAbs < 2 ^ 31->c.natAbs < 2 ^ 31->0 < c->(l.length:Int)=Builtin.Range.rangeSize a b c->(∀(i:Nat) (v:V),l[i]?=some v->v=.int (a+i * c))->IsRange (s₁.heap.push o) s₁.heap.objs.size a b c t u v ->
   wpAny (model W.prog W.w) A (pyIter (.ref s₁.heap.objs.size)) (λit s₂=>NP W [] (frs fs) s io m (ItP W A s.heap) (.ok (l,Gd.none) m₁) it s₂) (XP W [] fs s io m (.ok (l,Gd.none) m₁:Res (List V×Gd))) { s₁ with heap:=s₁.heap.push o,toks:=tk }:=by
  intro a b c o tk t u v l ha hb hc h0 hsz hle hr;have st1:Step [] (frs fs) s₁.heap io₁ m₁ (s₁.heap.push o) io₁ m₁:=.of_keeps H (aM _);have H1:HR W (s₁.heap.push o) io₁ m₁:=H.of_keeps (aM _);refine wpAny_pyIter_range hr (aI7 ha hb hc h0) ?_;have st2:Step [] (frs fs) (s₁.heap.push o) io₁ m₁ _ io₁ m₁:=.of_keeps H1 (aM { cls:=.type "range_iterator",data:=.fields #[rawInt a,rawInt (Builtin.Range.rangeSize a b c),rawInt c] });refine⟨(l,.none),m₁,io₁,rfl,(st.trans st1).trans st2,H1.of_keeps (aM _),⟨_,_,_,rfl,Wk.range (a:=a) (c:=c) (k:=l.length) hh rfl hle,⟨?_,?_⟩,λb hb=>?_⟩,sm⟩
  ·have:=Heap.get?_push_size (h:=s₁.heap.push o) (o:={ cls:=.type "range_iterator",data:=.fields #[rawInt a,rawInt (Builtin.Range.rangeSize a b c),rawInt c] }) rfl
   rw[<- hsz]at this ⊢;simpa [IsRangeIter]using this
  ·exact dK (s:={ s₁ with heap:=s₁.heap.push o }) H1
  ·rw[List.mem_singleton.mp hb]
   exact eP (st.trans st1) (aO _)
 cases hr:eE vs with
 |none=>rw[hr]at hne;exact absurd rfl hne
 |some l=>exact aA1 H k hr λa b c o tk t u v ha hb hc h0 hsz hle hr=>fin a b c o tk t u v l ha hb hc h0 hsz hle hr
end
end Mini.Internal
variable{a:Addr}{b:Bool}{c:Nat}
namespace Mini.Internal
open PySem PySem.W
section
variable{K:Frag}{own:List Addr}
end
theorem aH4(h:us.length=names.length):∀n∈names,((names.zip us).lookup n).isNone=false:=by
 induction names generalizing us with
 |nil=>intro n hn;cases (hn)
 |cons a as ih=>
  cases us with
  |nil=>injection h
  |cons u us=>
   intro n hn;simp only[List.zip_cons_cons,List.lookup_cons]
   cases q:n == a with
   |true=>rfl
   |false=>
    rcases List.mem_cons.mp hn with rfl | hn
    ·simp at q
    ·exact ih (by simpa using h) n hn
theorem aS6(h:us.length=names.length)(hd:names.Nodup):(names.filterMap λn=>((names.zip us).lookup n).map (n,·))=names.zip us:=by
 have key:∀(ns:List Str) (vs:List Value) (g:Str->Option Value),vs.length=ns.length->ns.Nodup->(∀n v,(n,v)∈ns.zip vs->g n=some v)->(ns.filterMap λn=>(g n).map (n,·))=ns.zip vs:=by
  intro ns
  induction ns with
  |nil=>intro vs g _ _ _;simp
  |cons a as ih=>
   intro vs g hl hn hg
   cases vs with
   |nil=>injection hl
   |cons u us=>
    have h1:=hg a u (by simp);rw[List.filterMap_cons];simp only[h1,Option.map_some,List.zip_cons_cons];rw[ih us g (by simpa using hl) (List.nodup_cons.mp hn).2 λn v e=>hg n v (by simp[e])]
 refine key names us _ h hd λn v e=>?_;clear key
 induction names generalizing us with
 |nil=>simp at e
 |cons a as ih=>
  cases us with
  |nil=>simp at e
  |cons u us=>
   simp only[List.zip_cons_cons,List.mem_cons,Prod.mk.injEq]at e;simp only[List.zip_cons_cons,List.lookup_cons];rcases e with⟨rfl,rfl⟩ | e
   ·simp
   ·have:n≠a:=λq=>(List.nodup_cons.mp hd).1 (q▸(List.of_mem_zip e).1)
    have:(n == a)=false:=by simpa using this
    rw[this];exact ih (by simpa using h) (List.nodup_cons.mp hd).2 e
theorem dP2{ns:List Str}(hl:us.length=ns.length):¬(decide (us.length > ns.length)&&true)=true:=by
 rw[hl,decide_eq_false (Nat.lt_irrefl _)];decide
theorem dO7{γ:Type}{l:List β}{i:α}{f:β->α->Sem (ForInStep α)}{k:α->Sem γ}{x:Sem γ}(h:l=[])(e:k i=x):(forIn l i f >>= k)=x:=by
 subst h;exact e
theorem dO8(l:List α)(j:Nat):l.zip (List.drop j ([]:List β))=[]:=by rw[List.drop_nil,List.zip_nil_right]
theorem ba0{nm qn:Str}{as:List Arg}{kd:List (Option Expr)}{df:List Expr}{body:FuncBody}{sc:Scope}{gl:Addr}{cl:List (Str×Addr)}{kw dc pm:Value}{an:Option Addr}{co ct:Value}{bu:Addr}(hl:us.length=(as.map (·.arg)).length)(hm:∀k,(!((List.take k (as.map (·.arg))).filter λn=>(((as.map (·.arg)).zip us).lookup n).isNone).isEmpty)=false)(hz:((as.map (·.arg)).filterMap λn=>(((as.map (·.arg)).zip us).lookup n).map (n,·))=(as.map (·.arg)).zip us):
    bindArgs ⟨nm,qn,⟨[],as,none,[],kd,none,df⟩,body,sc,gl,cl,.none,kw,dc,pm,an,co,ct,bu⟩ ⟨us,[]⟩=Pure.pure ((as.map (·.arg)).zip us):=by
  refine Eq.trans (if_neg (dP2 hl)) ?_;refine Eq.trans (if_neg (Bool.eq_false_iff.mp (hm _))) ?_;refine dO7 (dO8 _ _) ?_;exact congrArg (Pure.pure (f:=Sem)) ((congrArg (List.filterMap _) (List.append_nil _)).trans hz)
theorem pr_of{p:Arguments}(hp:p.posonlyargs=[])(hk:p.kwonlyargs=[])(hv:p.vararg=none)(hw:p.kwarg=none):p=⟨[],p.args,none,[],p.kw_defaults,none,p.defaults⟩:=by
 (first|(injection p;done)|(refine aF p λz1=>?_;clear p;(first | (injection z1;done) | subst z1 | cases (z1)))|(refine aL5 p λz1 z2=>?_;clear p;(first | (injection z1;done) | subst z1 | cases (z1));(first | (injection z2;done) | subst z2 | cases (z2)))|subst p|refine VR.dInt p λy_=>?_|cases (p))
 (first|(injection hp;done)|(refine aF hp λz1=>?_;clear hp;(first | (injection z1;done) | subst z1 | cases (z1)))|(refine aL5 hp λz1 z2=>?_;clear hp;(first | (injection z1;done) | subst z1 | cases (z1));(first | (injection z2;done) | subst z2 | cases (z2)))|subst hp|refine VR.dInt hp λy_=>?_|cases (hp));(first|(injection hk;done)|(refine aF hk λz1=>?_;clear hk;(first | (injection z1;done) | subst z1 | cases (z1)))|(refine aL5 hk λz1 z2=>?_;clear hk;(first | (injection z1;done) | subst z1 | cases (z1));(first | (injection z2;done) | subst z2 | cases (z2)))|subst hk|refine VR.dInt hk λy_=>?_|cases (hk));(first|(injection hv;done)|(refine aF hv λz1=>?_;clear hv;(first | (injection z1;done) | subst z1 | cases (z1)))|(refine aL5 hv λz1 z2=>?_;clear hv;(first | (injection z1;done) | subst z1 | cases (z1));(first | (injection z2;done) | subst z2 | cases (z2)))|subst hv|refine VR.dInt hv λy_=>?_|cases (hv));(first|(injection hw;done)|(refine aF hw λz1=>?_;clear hw;(first | (injection z1;done) | subst z1 | cases (z1)))|(refine aL5 hw λz1 z2=>?_;clear hw;(first | (injection z1;done) | subst z1 | cases (z1));(first | (injection z2;done) | subst z2 | cases (z2)))|subst hw|refine VR.dInt hw λy_=>?_|cases (hw))
 rfl
theorem aN0(hp:fd.params.posonlyargs=[])(hk:fd.params.kwonlyargs=[])(hv:fd.params.vararg=none)(hw:fd.params.kwarg=none)(hd:fd.defaults=.none)(hn:(fd.params.args.map (·.arg)).Nodup)(hl:us.length=fd.params.args.length):
  bindArgs fd ⟨us,[]⟩=Pure.pure ((fd.params.args.map (·.arg)).zip us):=by
 have hl:us.length=(fd.params.args.map (·.arg)).length:=hl.trans (List.length_map _).symm;refine(congrArg (λx=>bindArgs x ⟨us,[]⟩) (show fd=⟨fd.name,fd.qualname,⟨[],fd.params.args,none,[],fd.params.kw_defaults,none,fd.params.defaults⟩,fd.body,fd.scope,fd.globals,fd.closure,.none,fd.kwdefaults,fd.doc,fd.pyModule,fd.annotations,fd.code,fd.closureTuple,fd.builtins⟩ by rw[<- pr_of hp hk hv hw,<- hd])).trans (ba0 hl (λk=>?_) (aS6 hl hn));rw[List.filter_eq_nil_iff.mpr];rfl;intro n hn' q;rw[aH4 hl n (List.mem_of_mem_take hn')]at q;injection q
section
variable{K:Frag}{own:List Addr}
theorem Step.shrink(H:HR W h₀ io m)(x:Step own fr h io m h' io' m')(k:∀b o,h₀.get? b=some o->h.get? b=some o)(ho:∀b∈own,h₀.get? b=none \/ b∈own')(hf:∀b∈fr,h₀.get? b=none \/ b∈fr'):Step own' fr' h₀ io m h' io' m':=by
 have oo:∀b o,h₀.get? b=some o->b∉own'->b∉own:=λb o e q w=>by
  rcases ho b w with z | z
  ·rw[z]at e;injection e
  ·exact q z
 have ff:∀b o,h₀.get? b=some o->b∉fr'->b∉fr:=λb o e q w=>by
  rcases hf b w with z | z
  ·rw[z]at e;injection e
  ·exact q z
 refine⟨λb o e=>x.alive b o (k b o e),λb o e so=>x.solid b o (k b o e) so,λb o e f1 f2 f3=>x.keep b o (k b o e) f1 (oo b o e f2) (ff b o e f3),λb o e f1 f2=>x.slots b o (k b o e) f1 (oo b o e f2),?_,?_⟩
 ·refine e1a2 x.grow λnew e hn=>?_
  have back:∀b,h.get? b=none->h₀.get? b=none:=λb e=>by
   cases q:h₀.get? b with
   |none=>rfl
   |some o=>rw[k b o q]at e;injection e
  exact⟨new,e,λp hp=>⟨back _ (hn p hp).1,back _ (hn p hp).2⟩⟩
 ·intro i p kvs e hi hm
  refine e2a3 (x.dicts i p kvs e hi hm) λk' e' q1 q2 q3=>?_;refine⟨k',e',q1,q2,λq=>⟨?_,(q3 q).2⟩⟩;refine e1a1 (H.there hi) λo ho=>?_;rw[(q3 q).1,ho,k _ _ ho]
theorem aK9{kind:Str->Option NameKind}:∀(binds:List (Str×Value)) (mp:Str->Option Value),y∉binds.map (·.1)->bindL kind binds mp y=mp y
 |[],_,_=>rfl
 |(n,v)::r,mp,h=>by
  simp only[List.map_cons,List.mem_cons,not_or]at h;simp only[bindL];rw[aK9 r _ h.2]
  split
  ·simp[h.1]
  ·rfl
theorem aL0{kind:Str->Option NameKind}:∀(binds:List (Str×Value)) (mp:Str->Option Value),y∉binds.map (·.1)->bindC kind binds mp y=mp y
 |[],_,_=>rfl
 |(n,v)::r,mp,h=>by
  simp only[List.map_cons,List.mem_cons,not_or]at h;simp only[bindC];rw[aL0 r _ h.2]
  split
  ·rfl
  ·simp[h.1]
theorem aY5{kind:Str->Option NameKind}(hk:kind y=some .local):∀(binds:List (Str×Value)) (mp:Str->Option Value),(binds.map (·.1)).Nodup->(y,u)∈binds->bindL kind binds mp y=some u
 |[],_,_,h=>nomatch h
 |(n,v)::r,mp,hn,h=>by
  simp only[List.map_cons,List.nodup_cons]at hn;simp only[bindL];rcases List.mem_cons.mp h with e | h
  ·cases (e)
   rw[aK9 r _ hn.1];simp[hk]
  ·exact aY5 hk r _ hn.2 h
theorem aY6{kind:Str->Option NameKind}(hk:kind y=some .cell):∀(binds:List (Str×Value)) (mp:Str->Option Value),(binds.map (·.1)).Nodup->(y,u)∈binds->bindC kind binds mp y=some u
 |[],_,_,h=>nomatch h
 |(n,v)::r,mp,hn,h=>by
  simp only[List.map_cons,List.nodup_cons]at hn;simp only[bindC];rcases List.mem_cons.mp h with e | h
  ·cases (e)
   rw[aL0 r _ hn.1];simp[hk]
  ·exact aY6 hk r _ hn.2 h
theorem aJ9{kindOf:Str->Option NameKind}{v:V}(hl:vs.length=np)(hu:VRs W h io vs us)(hv:(names.map some)[i]?=some (some x))(hr:(vs.map some++List.replicate (names.length - np) (none:Option V))[i]?=some (some v)):
  ∃u,(x,u)∈(names.take np).zip us /\ VR W h io v u:=by
 have hi:i < vs.length:=by
  rcases Nat.lt_or_ge i vs.length with q | q
  ·exact q
  ·rw[List.getElem?_append_right (by simpa using q)]at hr
   have:=List.mem_of_getElem? hr;simp at this
 rw[List.getElem?_append_left (by simpa using hi),List.getElem?_map]at hr
 cases q:vs[i]? with
 |none=>rw[q]at hr;injection hr
 |some v'=>
  rw[q]at hr;(refine aF hr λz1=>?_;clear hr;(first | (injection z1;done) | subst z1 | cases (z1)));refine e1a2 (hu.get q) λu hu' ku=>?_;refine⟨u,?_,ku⟩;rw[List.getElem?_map]at hv;have hx:names[i]?=some x:=by
   cases w:names[i]? with
   |none=>rw[w]at hv;injection hv
   |some y=>rw[w]at hv;injection hv
  have:((names.take np).zip us)[i]?=some (x,u):=by
   rw[List.getElem?_zip_eq_some];exact⟨by rw[List.getElem?_take_of_lt (by lia)];exact hx,hu'⟩
  exact List.mem_of_getElem? this
theorem bZ3{binds:List (Str×Value)}{qual:Str}{func:Option Addr}{code:Value}(H:HR W s.heap io m)(G:FF W s.heap io fs)(hl:vs.length=np)(hnp:np <= names.length)(hu:VRs W s.heap io vs us)(hk:scope.kind=.function)(hn:names.Nodup)(hkind:∀x∈names,scope.names.lookup x=some .local \/ scope.names.lookup x=some .cell)(hb:binds=(names.take np).zip us)(he:env=newEnv scope s.heap.objs.size mainGlobals (cellsFrom (s.heap.objs.size+1) scope.names []) qual func code none builtinsNs)(hI:InCallC s env.locals (bindL env.kindOf binds λy_=>none) env.cells (bindC env.kindOf binds λy_=>none) s'):
  Stt W fs env (names.map some) s' io m (vs.map some++List.replicate (names.length - np) none) /\ (∀b∈bO env,s.heap.get? b=none):=by
 have hloc:env.locals=s.heap.objs.size:=by rw[he];rfl
 have hkd:∀x,env.kindOf x=scope.names.lookup x:=λx=>by rw[he];rfl
 have keep:=hI.toInCall.keep;have hsz:us.length=np:=by rw[hu.length,hl]
 have bn:binds.map (·.1)=names.take np:=by
  rw[hb,List.map_fst_zip (by rw[hsz,List.length_take];exact Nat.min_le_left _ _)]
 have bnd':(binds.map (·.1)).Nodup:=by rw[bn];exact hn.sublist (List.take_sublist _ _)
 have up:∀b,s.heap.objs.size <= b->s.heap.get? b=none:=λb hb=>by
  cases q:s.heap.get? b with
  |none=>rfl
  |some o=>exact absurd (Heap.lt_size q) (Nat.not_lt.mpr hb)
 have celUp:∀q∈env.cells,s.heap.get? q.2=none:=λq hq=>up _ (by have:=hI.above q.1 q.2 hq;rw[hloc]at this;exact Nat.le_of_lt this);have basN:∀b,s.heap.get? b=none->W.base.get? b=none:=λb e=>by
  cases q:W.base.get? b with
  |none=>rfl
  |some o=>rw[H.keep _ _ q]at e;injection e
 have nfN:∀b,s.heap.get? b=none->¬dA io b:=λb e f=>by
  refine e1a2 (H.foot f) λo ho y_=>?_;rw[e]at ho;injection ho
 have st:Step [] [] s.heap io m s'.heap io m:=.of_keeps H keep;have own0:∀b∈bO env,s.heap.get? b=none:=λb hb=>by
  rcases List.mem_cons.mp hb with rfl | hb
  ·exact up _ (by rw[hloc];exact Nat.le_refl _)
  ·refine e1a2 (List.mem_filterMap.mp hb) λq hq e=>?_
   exact celUp _ (mem_of_lookup e)
 have cex:∀x,scope.names.lookup x=some .cell->∃c,env.cells.lookup x=some c:=λx hx=>by
  have:=cellsFrom_some scope.names (s.heap.objs.size+1) [] (x:=x) (.inl hx);have e:env.cells=cellsFrom (s.heap.objs.size+1) scope.names []:=by rw[he];rfl
  rw[e];exact Option.isSome_iff_exists.mp this
 have memNames:∀(i:Nat) (x:Str),(names.map some)[i]?=some (some x)->names[i]?=some x:=λi x hv=>by
  rw[List.getElem?_map]at hv
  cases w:names[i]? with
  |none=>rw[w]at hv;injection hv
  |some y=>rw[w]at hv;injection hv
 have nofree:∀(i:Nat) (x:Str),(names.map some)[i]?=some (some x)->env.kindOf x≠some .free:=λi x hv q=>by
  rw[hkd]at q;rcases hkind x (List.mem_of_getElem? (memNames i x hv))with e | e <;> rw[q]at e <;> (refine aF e λz1=>?_;clear e;(first | (injection z1;done) | subst z1 | cases (z1)))
 refine⟨⟨H.of_keeps keep,⟨?_,?_,?_,?_,?_,⟨_,hI.toInCall.ns,λi x v h1 h2 h3=>?_⟩,λi x v h1 h2 h3=>?_,λx c hc=>?_,λi x h1 h2=>?_,λx y c h1 h2=>?_,λi j x h1 h2=>?_,?_⟩,G.step0 st,?_,λL hL q=>?_⟩,own0⟩
 ·rw[he];exact hk
 ·rw[he];rfl
 ·rw[he];rfl
 ·exact nfN _ (own0 _ (.head _))
 ·exact basN _ (own0 _ (.head _))
 ·refine e1a2 (aJ9 (kindOf:=env.kindOf) hl hu h1 h2) λu hm ku=>?_
  exact⟨u,aY5 h3 binds _ bnd' (hb▸hm),ku.step st⟩
 ·rcases h3 with h3 | h3
  ·refine e1a2 (aJ9 (kindOf:=env.kindOf) hl hu h1 h2) λu hm ku=>?_
   refine e1a1 (cex x (by rw[<- hkd];exact h3)) λc hc=>?_;refine⟨c,u,hc,?_,ku.step st⟩;have:=hI.cell x c hc
   rwa [aY6 h3 binds _ bnd' (hb▸hm)]at this
  ·exact absurd h3 (nofree i x h1)
 ·have hm:=mem_of_lookup hc
  exact⟨⟨_,hI.cell x c hc⟩,basN _ (celUp _ hm),λe=>by have:=hI.above x c hm;rw[e]at this;exact absurd this (Nat.lt_irrefl _)⟩
 ·rcases h2 with h2 | h2
  ·exact cex x (by rw[<- hkd];exact h2)
  ·exact absurd h2 (nofree i x h1)
 ·have h1':=mem_of_lookup h1
  have h2':=mem_of_lookup h2;have:∀(l:List (Str×Addr)),l.Pairwise (λx y=>x.2≠y.2)->∀a∈l,∀b∈l,a.2=b.2->a=b:=by
   intro l hp
   induction l with
   |nil=>intro a ha;cases (ha)
   |cons z zs ih=>
    refine e0a2 (List.pairwise_cons.mp hp) λp1 p2=>?_;intro a ha b hb e;rcases List.mem_cons.mp ha with ea | ha' <;> rcases List.mem_cons.mp hb with eb | hb'
    ·rw[ea,eb]
    ·rw[ea]at e;exact absurd e (p1 b hb')
    ·rw[eb]at e;exact absurd e.symm (p1 a ha')
    ·exact ih p2 a ha' b hb' e
  exact congrArg Prod.fst (this _ hI.apart _ h1' _ h2' rfl)
 ·have e1:=memNames i x h1
  have e2:=memNames j x h2;exact(List.getElem?_inj (List.getElem?_eq_some_iff.mp e1).1 hn).mp (e1.trans e2.symm)
 ·simp[hl];exact Nat.add_sub_of_le hnp
 ·rw[he];rfl
 ·have:=own0 L q
  refine hide λG_ g_=>?_;refine e1a2 (List.mem_filterMap.mp hL) λe hee hf=>?_;obtain⟨y_,L',o,y_,y_,h1,y_,y_,h4,y_⟩:=G e hee;refine g_ ?_;clear g_ G_;rw[h1]at hf;(refine aF hf λz1=>?_;clear hf;subst z1);rw[this]at h4;injection h4
end
noncomputable def bY2(K:Frag)(fd:FuncData)(d:FnD):Bool:=
 fd.scope.kind == .function&&!fd.scope.isCoroutine&&!fd.scope.isGenerator&&fd.globals == mainGlobals&&fd.builtins == builtinsNs&&fd.closure.isEmpty&&fd.params.posonlyargs.isEmpty&&fd.params.kwonlyargs.isEmpty&&fd.params.vararg.isNone&&fd.params.kwarg.isNone&&
 (match fd.defaults with | .none=>true | _=>false)&&decide (fd.params.args.map (·.arg)=d.names.take d.np)&&decide (d.np <= d.names.length)&&decide d.names.Nodup&&(d.names.all λx=>fd.scope.names.lookup x == some .local||fd.scope.names.lookup x == some .cell)&&codeIn K fd.code fd.qualname
section
variable{K:Frag}{own:List Addr}
theorem bW7{e:Value}{R:Res α}{f:α->Mn β}(hA:A.frames=some (env::fs))(hf:env.frame=some env.locals){s₀:Shared}(H:HR W s₀.heap io m)(k:∀b o,s₀.heap.get? b=some o->s.heap.get? b=some o)(own0:∀b∈bO env,s₀.heap.get? b=none)(sm:Same s₀ s)(x:XP W (bO env) (env::fs) s io m R e s'):wpAny (model W.prog W.w) A (leaving env e) (λy_ s''=>XP W [] fs s₀ io m (R.bind f) e s'') (λy y=>False) s':=by
 obtain⟨c,m',io',a,g,rfl,rfl,st,Hg,⟨B,kp,fly⟩,sm'⟩:=x;have hL:s₀.heap.get? env.locals=none:=own0 _ (.head _);have frs':∀b∈frs (env::fs),s₀.heap.get? b=none \/ b∈frs fs:=λb hb=>by
  have e:frs (env::fs)=env.locals::frs fs:=by simp[frs,hf]
  rw[e]at hb;rcases List.mem_cons.mp hb with rfl | hb
  ·exact .inl hL
  ·exact .inr hb
 have st0:Step [] (frs fs) s₀.heap io m g io' m':=st.shrink H k (λb hb=>.inl (own0 b hb)) frs';have kp0:Kp W s₀.heap io' fs g B:=λb o e q=>kp b o e (q.imp id (Or.imp id (Or.imp id λ⟨⟨o',e'⟩,q⟩=>⟨⟨o',k b o' e'⟩,λw=>by
  rcases frs' b w with z | z
  ·rw[z]at e';injection e'
  ·exact q z⟩)))
 rcases fly with⟨a0,f1,f2⟩ | ⟨a0,L,env',f0,f0',f1,f2⟩ | ⟨args,f1,f2,f3⟩
 ·refine wpAny_leaves_onW hA hf f1 λh' q1 q2=>?_
  exact⟨c,m',io',a,g,rfl,rfl,st0,Hg,⟨B,kp0,.inl ⟨a0,q1,f2.trans q2⟩⟩,sm.trans ⟨sm'.1,sm'.2⟩⟩
 ·(refine aF f0 λz1=>?_;clear f0;rw[z1])
  refine wpAny_bind (wpAny_noteFrame_againW f0' f1.2.2.2 ?_);refine wpAny_landsW f1 λh' q1 q2=>?_;obtain⟨k1,k2,⟨y_,y_,k3⟩,k4⟩:=q1;exact⟨c,m',io',a,g,rfl,rfl,st0,Hg,⟨B,kp0,.inl ⟨a0,⟨k1,k2,k3,k4⟩,f2.trans q2⟩⟩,sm.trans ⟨sm'.1,sm'.2⟩⟩
 ·refine wpAny_leaves_madeW hA hf f1 f2 f3 λh' t q1 q2 q3 q4=>?_
  exact⟨c,m',io',a,g,rfl,rfl,st0,Hg,⟨B,kp0,.inl ⟨_,q1,(Heap.UpToSlots.of_keeps f3.keeps).trans q4⟩⟩,sm.trans ⟨sm'.1,sm'.2⟩⟩
theorem AR.deeper(R:AR A fs (n+1))(env:Env):AR (A.deeper env) (env::fs) n:=
 ⟨by show A.frames.map (env::·)=_;rw[R.frames];rfl,by have:=R.depth;exact Nat.le_trans (show A.depth+1+4 * n <= A.depth+4 * (n+1) by rw[Nat.mul_succ,Nat.add_assoc];exact Nat.add_le_add_left (by rw[Nat.add_comm];exact Nat.add_le_add_left (by decide:1 <= 4) _) _) this,by have:=R.units;show A.units+3+40 * n+400 <= 9000;lia⟩
set_option tactic.hygienic true in
theorem cM2{d:FnD}{Fb:Lo->Mn (Fl×Lo)}(gl:Gl W K)(R:AR A fs (n+1))(ho:K.lookup a=some o)(hdata:o.data=.func fd)(hh:bY2 K fd d=true)(hb:fd.body=.stmts body)(hbody:∀env:Env,env.scope=fd.scope->SiS W (A.deeper env) fs env (d.names.map some) (execs body env) Fb):
  SiK W A fs (.ref a) (λvs=>if vs.length=d.np then bnd (Fb (vs.map some++List.replicate (d.names.length - d.np) none)) dK8 else bad):=by
 intro s io m vs us H G hu;dsimp only;simp only[bY2,Bool.and_eq_true,beq_iff_eq,Bool.not_eq_true',decide_eq_true_eq,List.isEmpty_iff,Option.isNone_iff_eq_none]at hh;obtain⟨⟨⟨⟨⟨⟨⟨⟨⟨⟨⟨⟨⟨⟨⟨h1,h2⟩,h3⟩,h4⟩,h5⟩,h6⟩,h7⟩,h8⟩,h9⟩,h10⟩,h11⟩,h12⟩,h13⟩,h14⟩,h15⟩,h16⟩:=hh;have hdef:fd.defaults=.none:=by
  cases q:fd.defaults <;> rw[q]at h11 <;> first | rfl | (exact absurd h11 Bool.false_ne_true)
 split
 ·rename_i hl
  intro hne;have hlen:us.length=fd.params.args.length:=by
   have:=congrArg List.length h12;simp at this;rw[hu.length,hl];lia
  have hnd:(fd.params.args.map (·.arg)).Nodup:=by rw[h12];exact h14.sublist (List.take_sublist _ _)
  refine codeAny_call_function (by have:=R.depth;simp only[recursionLimit];lia) (H.get gl ho) hdata h2 h3 hb ((codeRec_of gl.X h16).keeps H.keep) ?_;rw[aN0 h7 h8 h9 h10 hdef hnd hlen];refine wpAny_pure ?_;rw[h4,h5,h6];have hkinds:∀x∈d.names,fd.scope.names.lookup x=some .local \/ fd.scope.names.lookup x=some .cell:=λx hx=>by
   have:=List.all_eq_true.mp h15 x hx;simpa using this
  refine wpAny_newFunctionEnv_cells h1 (λx hx=>?_) λenv he s₂ hI=>?_
  ·have hxn:x.1∈d.names:=by
    have:=(List.of_mem_zip (show(x.1,x.2)∈_ from hx)).1;rw[h12]at this;exact List.mem_of_mem_take this
   rcases hkinds _ hxn with e | e
   ·exact .inl e
   ·exact .inr ⟨e,cellsFrom_some _ _ _ (.inl e)⟩
  ·rw[h12]at hI
   refine e0a2 (bZ3 H G hl h13 hu h1 h14 hkinds rfl he hI) λZ own0=>?_;have keep:=hI.toInCall.keep;refine e2a1 hI.toInCall.same λhs htk hse=>?_;have sm:Same s s₂:=by rw[hse];exact⟨rfl,rfl⟩
   refine⟨gl.ok.nolimit.keeps (λb o e=>keep b o (H.keep b o e)),codeAny_func ?_⟩;have hsc:env.scope=fd.scope:=by rw[he];rfl
   have Rd:=R.deeper env;refine wpAny_mono (hbody env hsc s₂ io m _ Z (Res.bind_ne hne)) (λf s₃ q=>?_) λe s₃ q=>?_
   ·obtain⟨⟨fl,r₃⟩,m₃,io₃,e3,st3,H3,⟨kf,F3⟩,sm3⟩:=q
    have frs':∀b∈frs (env::fs),s.heap.get? b=none \/ b∈frs fs:=λb hb=>by
     have e:frs (env::fs)=env.locals::frs fs:=by simp[frs,Z.fr]
     rw[e]at hb;rcases List.mem_cons.mp hb with rfl | hb
     ·exact .inl (own0 _ (.head _))
     ·exact .inr hb
    have st0:Step [] (frs fs) s.heap io m s₃.heap io₃ m₃:=st3.shrink H keep (λb hb=>.inl (own0 b hb)) frs';have ee:∀g:Fl×Lo->Mn V,bnd (Fb (vs.map some++List.replicate (d.names.length - d.np) none)) g m=g (fl,r₃) m₃:=λg=>by show(Fb _ m).bind _=_;rw[e3];rfl
    rw[ee]at hne ⊢
    cases kf with
    |next=>exact⟨_,m₃,io₃,rfl,st0,H3,.none,sm.trans sm3⟩
    |cont=>exact absurd rfl hne
    |ret kv=>exact⟨_,m₃,io₃,rfl,st0,H3,kv,sm.trans sm3⟩
   ·exact wpAny_mono (bW7 Rd.frames Z.fr H keep own0 sm q) (λy_ y_ q=>q) λy_ y_ q=>q.elim
 ·exact λh=>absurd rfl h
end
end Mini.Internal
variable{body:List CS}
namespace Mini.Internal
open PySem PySem.W
section
variable{K:Frag}{own:List Addr}
theorem bM3(hc:∀x k,(x,k)∈scope.names->k=.free->∃c,env.cells.lookup x=some c):
    ∃cl,closureFor scope env=Pure.pure cl /\ (∀x c,cl.lookup x=some c->env.cells.lookup x=some c) /\ (∀x,(x,NameKind.free)∈scope.names->∃c,cl.lookup x=some c):=by
  have key:∀(l:List (Str×NameKind)) (f:(Str×NameKind)->List (Str×Addr)->Sem (ForInStep (List (Str×Addr)))) (cs:List (Str×Addr)),
      (∀x k cs,f (x,k) cs=if k == .free then(do let c <- cellOf env x;Pure.pure (.yield ((x,c)::cs)))else Pure.pure (.yield cs)) ->
      (∀x k,(x,k)∈l->k=.free->∃c,env.cells.lookup x=some c)->(∀x c,cs.lookup x=some c->env.cells.lookup x=some c) ->
      ∃cl,forIn l cs f=Pure.pure cl /\ (∀x c,cl.lookup x=some c->env.cells.lookup x=some c) /\ (∀x,(x,NameKind.free)∈l->∃c,cl.lookup x=some c) /\ (∀x c,cs.lookup x=some c->∃c',cl.lookup x=some c'):=by
    intro l
    induction l with
    |nil=>intro f cs _ _ h2;exact⟨cs,rfl,h2,λy_ q=>(by cases (q)),λx c q=>⟨c,q⟩⟩
    |cons p l ih=>
      intro f cs hf hl h2;obtain⟨x,k⟩:=p;rw[List.forIn_cons,hf];by_cases q:k=.free
      · subst q
        refine e1a1 (hl x .free (.head _) rfl) λc hcx=>?_;have e1:cellOf env x=Pure.pure c:=by unfold cellOf;rw[hcx]
        rw[e1];obtain⟨cl,g1,g2,g3,g4⟩:=ih f ((x,c)::cs) hf (λy j hy=>hl y j (.tail _ hy)) (λy c' hy=>by
          rw[List.lookup_cons]at hy
          cases z:y == x with
          |true=>rw[z]at hy;(refine aF hy λz1=>?_;clear hy;subst z1);rw[beq_iff_eq.mp z];exact hcx
          |false=>rw[z]at hy;exact h2 y c' hy)
        refine⟨cl,g1,g2,λy hy=>?_,λy c' hy=>?_⟩
        · rcases List.mem_cons.mp hy with e | hy
          · cases (e);exact g4 x c (by simp)
          · exact g3 y hy
        · by_cases z:y=x
          · subst z;exact g4 y c (by simp)
          · exact g4 y c' (by rw[List.lookup_cons];have:(y == x)=false:=by simpa using z
                              rw[this];exact hy)
      · have q':(k == NameKind.free)=false:=by simpa using q
        simp only[q',Bool.false_eq_true,if_false];obtain⟨cl,g1,g2,g3,g4⟩:=ih f cs hf (λy j hy=>hl y j (.tail _ hy)) h2;refine⟨cl,g1,g2,λy hy=>?_,g4⟩;rcases List.mem_cons.mp hy with e | hy
        · cases (e);exact absurd rfl q
        · exact g3 y hy
  have e:closureFor scope env=(forIn scope.names ([]:List (Str×Addr)) (λ(p:Str×NameKind) cs=>if p.2 == .free then(do let c <- cellOf env p.1;Pure.pure (ForInStep.yield ((p.1,c)::cs)))else Pure.pure (ForInStep.yield cs)) >>= λcs=>Pure.pure cs):=rfl;rw[e];obtain⟨cl,g1,g2,g3,y_⟩:=key scope.names (λ(p:Str×NameKind) cs=>if p.2 == .free then(do let c <- cellOf env p.1;Pure.pure (ForInStep.yield ((p.1,c)::cs)))else Pure.pure (ForInStep.yield cs)) [] (λx k cs=>rfl) hc (λy_ y_ q=>by injection q);exact⟨cl,by rw[g1];rfl,g2,g3⟩
theorem aN3(H:HR W s.heap io m)(F:FR W s.heap io env vis r)(ho:env.locals∈own){i:Nat}{x:Str}{v:V}{u:Value}(hv:vis[i]?=some (some x))(hk:env.kindOf x=some .local)(k:VR W s.heap io v u):
  Si W own A fs (RP W env vis) (storeName env x u) s io m (.ok (r.set i (some v)) m):=by
 intro y_;have hi:i < vis.length:=(List.getElem?_eq_some_iff.mp hv).1;have row:∀(j:Nat) (y:Str) (w:V),vis[j]?=some (some y)->(r.set i (some v))[j]?=some (some w)->(y=x /\ w=v) \/ (y≠x /\ r[j]?=some (some w)):=by
  intro j y w h1 h2;by_cases q:i=j
  ·subst q
   rw[List.getElem?_set_self (by rw[F.len];exact hi)]at h2;rw[hv]at h1
   (refine aF h1 λz1=>?_;clear h1;(first | (injection z1;done) | subst z1 | cases (z1)));(refine aF h2 λz1=>?_;clear h2;(first | (injection z1;done) | subst z1 | cases (z1)));exact .inl ⟨rfl,rfl⟩
  ·rw[List.getElem?_set_ne q]at h2
   refine .inr ⟨λe=>q (F.inj i j x hv (e▸h1)),h2⟩
 refine hide λG_ g_=>?_;refine e1a2 F.loc λmp hn hl=>?_;refine e3a3 (id hn) λoL esL epL hoL hdL y_=>?_;refine g_ ?_;clear g_ G_;refine wpAny_storeName_local hk hn (λh' hn' hs=>?_) (by rw[F.kind];rfl);have kk:∀b o,b≠env.locals->s.heap.get? b=some o->h'.get? b=some o:=λb o q e=>(hs.2 b q).trans e;have lv:∀o,s.heap.get? env.locals=some o->¬cQ o /\ ∃o',h'.get? env.locals=some o':=λo ho=>by
  rw[hoL]at ho;(refine aF ho λz1=>?_;clear ho;subst z1);refine e3a2 (id hn') λo' y_ y_ ho' y_=>?_;exact⟨dZ hdL,o',ho'⟩
 have st:Step own (frs fs) s.heap io m h' io m:=fP H (L:=env.locals) ho kk lv F.nofoot;have H':HR W h' io m:=H.ofOwn (own:=own) (L:=env.locals) ho kk lv F.nofoot F.fresh;refine⟨_,m,io,rfl,st,H',?_,rfl,rfl⟩;refine⟨F.kind,F.glob,F.blt,F.nofoot,F.fresh,⟨_,hn',λj y w h1 h2 h3=>?_⟩,λj y w h1 h2 h3=>?_,λy c hy=>?_,F.celex,F.apart,F.inj,by simp[F.len]⟩
 ·rcases row j y w h1 h2 with⟨rfl,rfl⟩ | ⟨q,h2⟩
  ·exact⟨u,by simp,k.step st⟩
  ·refine e1a2 (hl j y w h1 h2 h3) λu' e k'=>?_
   exact⟨u',by simp[q,e],k'.step st⟩
 ·rcases row j y w h1 h2 with⟨rfl,rfl⟩ | ⟨q,h2⟩
  ·rw[hk]at h3;simp at h3
  ·refine e2a3 (F.cel j y w h1 h2 h3) λc u' e k1 k2=>?_
   refine⟨c,u',e,?_,k2.step st⟩;refine e1a2 k1 λoc hoc hdc=>?_;exact⟨oc,kk c oc (F.cells y c e).2.2 hoc,hdc⟩
 ·obtain⟨⟨o,oc,hoc,hdc⟩,k2,k3⟩:=F.cells y c hy
  exact⟨⟨o,oc,kk c oc k3 hoc,hdc⟩,k2,k3⟩
theorem FR.weak(F:FR W h io env vis r)(k:∀(j:Nat) (w:V),r'[j]?=some (some w)->r[j]?=some (some w))(hl:r'.length=r.length):FR W h io env vis r':=by
 refine e1a2 F.loc λmp hn hl'=>?_;exact⟨F.kind,F.glob,F.blt,F.nofoot,F.fresh,⟨mp,hn,λi x v h1 h2 h3=>hl' i x v h1 (k i v h2) h3⟩,λi x v h1 h2 h3=>F.cel i x v h1 (k i v h2) h3,F.cells,F.celex,F.apart,F.inj,hl.trans F.len⟩
noncomputable def aA4(ifs:List Expr)(env:Env)(b:Bool):Sem Bool:=forIn ifs b λc r=>if r=true then do let ok <- isTrue c env (eval c env);Pure.pure (ForInStep.yield ok)else Pure.pure (ForInStep.yield r)
theorem bA0(ifs:List Expr):aA4 ifs env false=Pure.pure false:=by
 induction ifs with
 |nil=>rfl
 |cons c cs ih=>unfold aA4;rw[List.forIn_cons];exact ih
theorem dK1:SiB W A fs env vis (aA4 [] env true) (λy_=>ret true):=λy_ y_ y_ y_ Z=>.pure (u:=true) Z.H rfl
theorem cZ0{c:Expr}{cs:List Expr}{cts:Lo->Mn Bool}(hc:SiB W A fs env vis (isTrue c env (eval c env)) ct)(hs:SiB W A fs env vis (aA4 cs env true) cts):
  SiB W A fs env vis (aA4 (c::cs) env true) (λr=>bnd (ct r) λb=>if b then cts r else ret false):=by
 intro s io m r Z hne;unfold aA4;rw[List.forIn_cons];refine wpAny_bind ?_;simp only[if_true];refine wpAny_bind (wpAny_mono (hc s io m r Z (Res.bind_ne hne)) (λb s₁ q=>wpAny_pure ?_) λy_ y_ q=>q.bind .refl (.refl _));obtain⟨b',m₁,io₁,e1,st,H₁,rfl,sm⟩:=q;have ee:bnd (ct r) (λb=>if b then cts r else ret false) m=(if b' then cts r else ret false) m₁:=by show(ct r m).bind _=_;rw[e1];rfl
 dsimp only at hne ⊢;rw[ee]at hne ⊢
 cases b' with
 |false=>
  show wpAny _ _ (aA4 cs env false) _ _ _;rw[bA0];exact wpAny_pure ⟨false,m₁,io₁,rfl,st,H₁,rfl,sm⟩
 |true=>exact wpAny_mono (hs s₁ io₁ m₁ r (Z.step H₁ st) hne) (λy_ y_ z=>z.mono st sm) λy_ y_ z=>z.mono st sm
theorem aE6{env:Env}:∀{names:List (Str×NameKind)} {x:Str},names.lookup x=some .free ->
  (names.map λ(n,k)=>if (k == NameKind.free&&env.scope.kind == .function&&env.kindOf n == some .cell)then(n,NameKind.cell)else(n,k)).lookup x=some .cell \/ (names.map λ(n,k)=>if (k == NameKind.free&&env.scope.kind == .function&&env.kindOf n == some .cell)then(n,NameKind.cell)else(n,k)).lookup x=some .free
 |[],_,h=>by simp at h
 |(n,k)::r,x,h=>by
  have ih:=@aE6 env r x;simp only[List.map_cons]
  cases hx:x == n with
  |true=>
   simp only[List.lookup_cons,hx]at h
   (refine aF h λz1=>?_;clear h;subst z1)
   by_cases hc:(NameKind.free == NameKind.free&&env.scope.kind == .function&&env.kindOf n == some .cell)=true
   ·rw[if_pos hc];left;simp[List.lookup_cons,hx]
   ·rw[if_neg hc];right;simp[List.lookup_cons,hx]
  |false=>
   simp only[List.lookup_cons,hx]at h;by_cases hc:(k == NameKind.free&&env.scope.kind == .function&&env.kindOf n == some .cell)=true
   ·rw[if_pos hc];simp only[List.lookup_cons,hx];exact ih h
   ·rw[if_neg hc];simp only[List.lookup_cons,hx];exact ih h
structure CompOk(scope:Scope)(env:Env)(vis vis':List (Option Str))(nl:Nat):Prop where
 kind:scope.kind=.function
 names:∀x∈scope.names,x.2=.local->scope.names.lookup x.1=some .local
 cell:∀x∈scope.names,x.2≠.cell
 cap:∀x∈scope.names,x.2=.free->∃i:Nat,vis[i]?=some (some x.1) /\ (env.kindOf x.1=some .cell \/ env.kindOf x.1=some .free)
 see:∀(i:Nat) (x:Str),vis'[i]?=some (some x)->(vis.length <= i /\ scope.names.lookup x=some .local) \/ (vis[i]?=some (some x) /\ scope.names.lookup x=some .free)
 inj:∀(i j:Nat) (x:Str),vis'[i]?=some (some x)->vis'[j]?=some (some x)->i=j
 len:vis'.length=vis.length+nl
theorem bM1{nl:Nat}{cl:List (Str×Addr)}{C:Addr}(ck:CompOk scope env vis vis' nl)(H:HR W h io m)(F:FR W h io env vis r)(g2:∀x c,cl.lookup x=some c->env.cells.lookup x=some c)(g3:∀x,(x,NameKind.free)∈scope.names->∃c,cl.lookup x=some c)(hk:∀b o,h.get? b=some o->h'.get? b=some o)(hC:h.get? C=none)(hn:h'.Ns C (λy=>none)):FR W h' io (compEnvC scope cl C env) vis' (r++List.replicate nl none):=by
 have basN:W.base.get? C=none:=by
  cases q:W.base.get? C with
  |none=>rfl
  |some o=>rw[H.keep _ _ q]at hC;injection hC
 have nf:¬dA io C:=λf=>by
  refine e1a2 (H.foot f) λo ho y_=>?_;rw[hC]at ho;injection ho
 have st:Step [] [] h io m h' io m:=.of_keeps H hk;have F':=F.step0 H st;have old:∀(i:Nat) (x:Str) (v:V),vis'[i]?=some (some x)->(r++List.replicate nl none)[i]?=some (some v)->vis[i]?=some (some x) /\ scope.names.lookup x=some .free /\ r[i]?=some (some v):=by
  intro i x v h1 h2;have hi:i < r.length:=by
   rcases Nat.lt_or_ge i r.length with q | q
   ·exact q
   ·rw[List.getElem?_append_right q]at h2
    have:=List.mem_of_getElem? h2;simp at this
  rw[List.getElem?_append_left hi]at h2;rcases ck.see i x h1 with⟨q,_⟩ | ⟨q1,q2⟩
  ·rw[F.len]at hi;lia
  ·exact⟨q1,q2,h2⟩
 have kd:∀x,scope.names.lookup x=some .free->(compEnvC scope cl C env).kindOf x=some .cell \/ (compEnvC scope cl C env).kindOf x=some .free:=λx hx=>aE6 hx;have capk:∀x,scope.names.lookup x=some .free->env.kindOf x=some .cell \/ env.kindOf x=some .free:=λx hx=>by
  refine e1a2 (ck.cap (x,.free) (mem_of_lookup hx) rfl) λi y_ q=>?_;exact q
 refine⟨ck.kind,F.glob,F.blt,nf,basN,⟨_,hn,λi x v h1 h2 h3=>?_⟩,λi x v h1 h2 h3=>?_,λx c hc=>?_,λi x h1 h2=>?_,λx y c h1 h2=>F.apart x y c (g2 x c h1) (g2 y c h2),ck.inj,by simp[F.len,ck.len]⟩
 ·refine e0a3 (old i x v h1 h2) λq1 q2 q3=>?_
  rcases kd x q2 with e | e <;> rw[e]at h3 <;> (refine aF h3 λz1=>?_;clear h3;(first | (injection z1;done) | subst z1 | cases (z1)))
 ·refine hide λG_ g_=>?_
  refine e0a3 (old i x v h1 h2) λq1 q2 q3=>?_;refine e2a3 (F'.cel i x v q1 q3 (capk x q2)) λc u e k1 k2=>?_;refine g_ ?_;clear g_ G_;refine e1a1 (g3 x (mem_of_lookup q2)) λc' hc'=>?_;have:=g2 x c' hc';rw[e]at this;(refine aF this λz1=>?_;clear this;subst z1);exact⟨c,u,hc',k1,k2⟩
 ·refine e0a3 (F'.cells x c (g2 x c hc)) λk1 k2 k3=>?_
  refine⟨k1,k2,λe=>?_⟩;obtain⟨⟨y_,o,ho,y_⟩,y_⟩:=F.cells x c (g2 x c hc);rw[e]at ho;rw[show(compEnvC scope cl C env).locals=C from rfl,hC]at ho;injection ho
 ·rcases ck.see i x h1 with⟨_,q⟩ | ⟨q1,q2⟩
  ·have:(compEnvC scope cl C env).kindOf x=some .local:=lookup_relabel_local q
   rcases h2 with e | e <;> rw[this]at e <;> (refine aF e λz1=>?_;clear e;(first | (injection z1;done) | subst z1 | cases (z1)))
  ·exact g3 x (mem_of_lookup q2)
theorem cM0{step:V->Mn (Option V)}:∀{vs:List V} {m:MH},bK g step vs m≠.bad->∃l m',bK g step vs m=.ok l m':=by
 intro vs
 induction vs with
 |nil=>
  intro m h;by_cases q:g.stays m=true
  ·exact⟨[],m,if_pos q⟩
  ·exact absurd (if_neg q) h
 |cons v vs ih=>
  intro m h;by_cases q:g.stays m=true
  ·have ec:bK g step (v::vs) m=((step v m).nox).bind (λo=>bnd (bK g step vs) λr=>ret (eQ o r)):=if_pos q
   rw[ec]at h ⊢
   cases e:step v m with
   |bad=>rw[e]at h;exact absurd rfl h
   |exc c m'=>rw[e]at h;exact absurd rfl h
   |ok o m'=>
    rw[e]at h;have h':(bK g step vs m').bind (λr=>ret (eQ o r))≠.bad:=h;refine e2a1 (ih (Res.bind_ne h')) λl m'' e'=>?_;refine⟨eQ o l,m'',?_⟩;show(bK g step vs m').bind (λr=>ret (eQ o r))=_;rw[e'];rfl
  ·exact absurd (if_neg q) h
theorem bM2{step:V->Mn (Option V)}{v:V}{mL:MH}(h:bK g step (v::vs) m=.ok L mL):g.stays m=true /\ ∃o m' L',step v m=.ok o m' /\ bK g step vs m'=.ok L' mL /\ L=eQ o L':=by
 by_cases q:g.stays m=true
 ·have ec:bK g step (v::vs) m=((step v m).nox).bind (λo=>bnd (bK g step vs) λr=>ret (eQ o r)):=if_pos q
  rw[ec]at h;refine⟨q,?_⟩
  cases e:step v m with
  |bad=>rw[e]at h;injection h
  |exc c m'=>rw[e]at h;injection h
  |ok o m'=>
   rw[e]at h;have h':(bK g step vs m').bind (λr=>ret (eQ o r))=.ok L mL:=h
   cases e2:bK g step vs m' with
   |bad=>rw[e2]at h';injection h'
   |exc c m''=>rw[e2]at h';injection h'
   |ok l m''=>
    rw[e2]at h'
    (refine aL5 h' λz1 z2=>?_;clear h';rw[<- z1];rw[<- z2])
    exact⟨o,m',l,rfl,e2,rfl⟩
 ·have ec:bK g step (v::vs) m=.bad:=if_neg q
  rw[ec]at h;injection h
theorem b0{step:V->Mn (Option V)}{mL:MH}(h:bK g step vs m=.ok L mL):g.stays m=true:=by
 cases q:g.stays m with
 |true=>rfl
 |false=>
  have z:¬g.stays m=true:=by rw[q];exact Bool.false_ne_true
  have ec:bK g step vs m=.bad:=by cases vs with
   |nil=>exact if_neg z
   |cons y_ y_=>exact if_neg z
  rw[ec]at h;injection h
end
section
variable{K:Frag}{own:List Addr}
noncomputable def TgL(vis vis':List (Option Str)):List Nat->List Expr->Prop
 |[],es=>es=[]
 |i::is,es=>∃x p es',es=.Name x p::es' /\ vis'[i]?=some (some x) /\ vis.length <= i /\ TgL vis vis' is es'
inductive CTg(A:Around)(vis vis':List (Option Str)):CT->Expr->Prop
 |one (j:Nat) (x:Str) (px:Pos):vis'[j]?=some (some x)->vis.length <= j->CTg A vis vis' (.one j) (.Name x px)
 |many (is:List Nat) (es:List Expr) (k:Nat) (p:Pos):A.handled=none->TgL vis vis' is es->CTg A vis vis' (.many is) (.Tuple es k p)
noncomputable def Hol(vis:List (Option Str))(row r:Lo):Prop:=r.length=row.length /\ ∀a w,a < vis.length->row[a]?=some (some w)->r[a]?=some (some w)
theorem Hol.set{row:Lo}{v:Option V}(h:Hol vis row r)(hj:vis.length <= j):Hol vis row (r.set j v):=
 ⟨by rw[List.length_set];exact h.1,λa w ha e=>by rw[List.getElem?_set_ne (λq=>Nat.not_lt.mpr hj (by rw[q];exact ha))];exact h.2 a w ha e⟩
theorem cF9{v:V}(h:aI4 t v r m=.ok r' m'):m'=m:=by
 cases t with
 |one i=>(refine aL5 h λz1 z2=>?_;clear h;subst z1;subst z2);rfl
 |many is=>
  cases v with
  |tup vs=>
   have h:ofO (b8 is vs r) m=.ok r' m':=h
   cases q:b8 is vs r with
   |none=>rw[q]at h;injection h
   |some r1=>rw[q]at h;(refine aL5 h λz1 z2=>?_;clear h;rw[z1];subst z2);rfl
  |_=>injection h
theorem TgL.tgs(lk:∀(j:Nat) (x:Str),vis'[j]?=some (some x)->vis.length <= j->cenv.kindOf x=some .local):∀{is:List Nat} {es:List Expr},TgL vis vis' is es->Tgs cenv vis' is es
 |[],_,h=>h
 |i::is,_,h=>by
  refine e3a4 h λx p es' e hv hi t=>?_;exact⟨x,p,es',e,hv,.inl (lk i x hv hi),t.tgs lk⟩
theorem cP6{row:Lo}(lk:∀(j:Nat) (x:Str),vis'[j]?=some (some x)->vis.length <= j->cenv.kindOf x=some .local):∀{is:List Nat} {elts:List Expr},TgL vis vis' is elts->∀{vs:List V} {us:List Value} {s:Shared} {io:Io} {m:MH} {r:Lo},HR W s.heap io m->FR W s.heap io cenv vis' r->Hol vis row r->VRs W s.heap io vs us ->
  Si W [cenv.locals] A fs (λh io r' (_:Unit)=>FR W h io cenv vis' r' /\ Hol vis row r') (assignInOrder ((assignEach elts cenv).map (·.2)) us) s io m (ofO (b8 is vs r) m)
 |[],_,h,vs,us,s,io,m,r,H,F,hl,k=>by
  subst h
  induction k using VRs.elim with
  |nil=>exact Si.pure (P:=λh io r' (_:Unit)=>FR W h io cenv vis' r' /\ Hol vis row r') H ⟨F,hl⟩
  |cons y_ y_=>exact Si.bad
 |i::is,_,z,vs,us,s,io,m,r,H,F,hl,k=>by
  refine e3a4 z λx p es' e hv hi t=>?_;subst e
  induction k using VRs.elim with
  |nil=>exact Si.bad
  | @cons v u vs us k1 k2=>
   refine Si.bind (R:=(.ok (r.set i (some v)) m:Res Lo)) (f:=λr' m'=>ofO (b8 is vs r') m') (.holding (.standAt (pos:=p) (.bindName (aN3 (own:=[cenv.locals]) H F (.head _) hv (lk i x hv hi) k1)))) λy_ s₁ io₁ m₁ r₁ e st H1 kF sm=>?_
   (refine aL5 e λz1 z2=>?_;clear e;subst z1;rw[z2])
   exact cP6 lk t H1 kF (hl.set hi) (k2.step st)
theorem bZ8{row:Lo}(g:CTg A vis vis' t tg)(lk:∀(j:Nat) (x:Str),vis'[j]?=some (some x)->vis.length <= j->cenv.kindOf x=some .local){v:V}{u:Value}(H:HR W s.heap io m)(F:FR W s.heap io cenv vis' row)(k:VR W s.heap io v u):
  Si W [cenv.locals] A fs (λh io r' (_:Unit)=>FR W h io cenv vis' r' /\ Hol vis row r') (assign tg cenv u) s io m (aI4 t v row m):=by
 have h0:Hol vis row row:=⟨rfl,λy_ y_ y_ e=>e⟩
 cases g with
 |one j x px hv hj=>
  intro hne;refine wpAny_assign_Name (wpAny_mono (aN3 (own:=[cenv.locals]) (A:=A) (fs:=fs) H F (.head _) hv (lk j x hv hj) k (λq=>nomatch q)) (λy_ s₂ q=>?_) λy_ y_ q=>q);obtain⟨r₂,mq,io₂,e2,st2,H2,F2,sm2⟩:=q
  (refine aL5 e2 λz1 z2=>?_;clear e2;subst z1;subst z2)
  exact⟨_,_,_,rfl,st2,H2,⟨F2,h0.set hj⟩,sm2⟩
 |many is es c p hh ht=>
  induction k using VR.elim with
  | @tup a vs c xs h1 h4=>
   show Si W [cenv.locals] A fs _ _ s io m (ofO (b8 is xs row) m);intro hne;have hl:is.length=xs.length:=by
    cases q:b8 is xs row with
    |none=>rw[q]at hne;exact absurd rfl hne
    |some r'=>exact aA8 q
   have tl:=(ht.tgs lk).len;refine wpAny_assign_Tuple hh ⟨_,h1,rfl,c,rfl⟩ (by rw[tl.1,hl];have:=h4.length;simpa using this.symm) tl.2 λh' hx=>?_;have hk:∀b o,s.heap.get? b=some o->h'.get? b=some o:=λb o e=>hx b o (λq=>by rw[q,aO]at e;injection e) e;have st:Step [cenv.locals] (frs fs) s.heap io m h' io m:=.of_keeps H hk;have st0:Step [] (frs fs) s.heap io m h' io m:=.of_keeps H hk;exact wpAny_mono (cP6 (s:={ s with heap:=h' }) lk ht (H.of_keeps hk) (F.step0 H st0) h0 (h4.step st) hne) (λy_ y_ z=>z.mono st ⟨rfl,rfl⟩) λy_ y_ z=>z.mono st ⟨rfl,rfl⟩
  |_=>exact Si.bad
theorem bZ9{it acc:Value}(I:Nat->Shared->Prop)(turn:∀n s,I n s->wpAny (model W.prog W.w) A (pyNext it) (λo s₁=>match o with
   |none=>R (.ok .next) s₁
   |some v=>wpAny (model W.prog W.w) A (letOwnedTupleGo target it v) (λy_ s₁=>wpAny (model W.prog W.w) A (assign target env v) (λy_ s₂=>wpAny (model W.prog W.w) A (aA4 ifs env true) (λok s₃=>
     if ok=true then wpAny (model W.prog W.w) A (eval elt env) (λx s₄=>wpAny (model W.prog W.w) A (call (.builtin "list.append") [acc,x]) (λy_ s₅=>∃k,k < n /\ I k s₅) (notedBy (model W.prog W.w) A env λe s'=>R (.error e) s') s₄) (notedBy (model W.prog W.w) A env λe s'=>R (.error e) s') s₃
     else ∃k,k < n /\ I k s₃) (notedBy (model W.prog W.w) A env λe s'=>R (.error e) s') s₂) (notedBy (model W.prog W.w) A env λe s'=>R (.error e) s') s₁) (notedBy (model W.prog W.w) A env λe s'=>R (.error e) s') s₁) (notedBy (model W.prog W.w) A env λe s'=>R (.error e) s') s) (n:Nat) (h:I n s):codeAny (model W.prog W.w) A (.compLoop (.ListComp elt [⟨target,iter,ifs,0⟩] scope pos) 0 it acc env) R s:=by
 refine codeAny_loop rfl I (λn s hI=>?_) n h;refine wpAny_noted ?_;rw[compTurn_list];have up:∀{α:Type} {t:Sem α} {Q Q':α->Shared->Prop} {E:Value->Shared->Prop} {s:Shared},wpAny (model W.prog W.w) A t Q E s->(∀a s,Q a s->Q' a s)->wpAny (model W.prog W.w) A t Q' E s:=λh k=>wpAny_mono h k λy_ y_ q=>q;refine wpAny_bind (wpAny_standAt (wpAny_bind (up (turn n s hI) λo s₁ h₁=>?_)))
 cases o with
 |none=>exact wpAny_pure h₁
 |some v=>
  refine wpAny_bind (up h₁ λy_ s₁ h₁=>wpAny_bind (up h₁ λy_ s₂ h₂=>wpAny_bind (up h₂ λok s₃ h₃=>?_)))
  cases ok with
  |false=>exact wpAny_pure ⟨rfl,h₃⟩
  |true=>exact wpAny_bind (wpAny_bind (up h₃ λx s₄ h₄=>wpAny_bind (up h₄ λy_ s₅ h₅=>wpAny_pure (wpAny_pure ⟨rfl,h₅⟩))))
noncomputable def fC(t:CT)(row:Lo)(cif:Lo->Mn Bool)(celt:Lo->Mn V)(v:V):Mn (Option V):=
 bnd (aI4 t v row) λr'=>bnd (cif r') λb=>if b then bnd (celt r') λx=>ret (some x)else ret none
theorem aM1{us:Array Value}:¬cQ (eZ us c):=by
 rintro(⟨e,y_⟩ | ⟨y_,y_,y_,e⟩)
 ·simp at e
 ·injection e
inductive CInv(W:Wd)(fs:List Env)(s₀:Shared)(io₀:Io)(m₀:MH)(cenv:Env)(vis':List (Option Str))(row:Lo)(St:Nat->Heap->Io->Prop)(D:Addr)(g:Gd)(f:V->Mn (Option V))(vs L:List V)(mL:MH)(k:Nat)(s':Shared):Prop
 |mk (i:Nat) (io':Io) (m':MH) (outs L':List V) (us:Array Value) (c:Nat):k=vs.length - i->i <= vs.length->Step [] (frs fs) s₀.heap io₀ m₀ s'.heap io' m'->HR W s'.heap io' m'->FR W s'.heap io' cenv vis' row->St i s'.heap io'->s'.heap.get? D=some (eZ us c)->VRs W s'.heap io' outs us.toList->¬dA io' D->Same s₀ s' ->
   bK g f (vs.drop i) m'=.ok L' mL->L=outs++L'->CInv W fs s₀ io₀ m₀ cenv vis' row St D g f vs L mL k s'
theorem cA0{row:Lo}{St:Nat->Heap->Io->Prop}{c0:Nat}{io₂:Io}{m₂ mL:MH}{RR:Result->Shared->Prop}(H0:HR W s₀.heap io₀ m₀)(G0:FF W s₀.heap io₀ fs)(hw:Wk W A I wr g vs St)(hnew:∀b∈wr,s₀.heap.get? b=none)(hD0:s₀.heap.get? D=none)(hC0:s₀.heap.get? cenv.locals=none)(hDC:D≠cenv.locals)(hDw:D∉wr)(hCw:cenv.locals∉wr)(hg:CTg A vis vis' t tg)(lk:∀(j:Nat) (x:Str),vis'[j]?=some (some x)->vis.length <= j->cenv.kindOf x=some .local)(hrow:∀a w,row[a]?=some (some w)->a < vis.length)(hcel:∀y c,cenv.cells.lookup y=some c->∃o,s₀.heap.get? c=some o)(hifs:SiB W A fs cenv vis' (aA4 ifs cenv true) cif)(helt:SiE W A fs cenv vis' (eval elt cenv) celt)(st₂:Step [] (frs fs) s₀.heap io₀ m₀ s.heap io₂ m₂)(H₂:HR W s.heap io₂ m₂)(F₂:FR W s.heap io₂ cenv vis' row)(hst₂:St 0 s.heap io₂)(hD₂:s.heap.get? D=some (eZ #[] c0))(nfD:¬dA io₂ D)(sm₂:Same s₀ s)(hL:bK g (fC t row cif celt) vs m₂=.ok L mL)(hlen:L.length <= lid)(fin:∀s' io' us c,Step [] (frs fs) s₀.heap io₀ m₀ s'.heap io' mL->HR W s'.heap io' mL->s'.heap.get? D=some (eZ us c)->VRs W s'.heap io' L us.toList->¬dA io' D->(∃mC,s'.heap.Ns cenv.locals mC) /\ ¬dA io' cenv.locals->Same s₀ s'->RR (.ok .next) s'):
  codeAny (model W.prog W.w) A (.compStart (.ListComp elt [⟨tg,iter,ifs,0⟩] scope cpos) 0 (.ref I) (.ref D) cenv) RR s:=by
 have hFr:∀b∈frs fs,∃o,s₀.heap.get? b=some o:=λb hb=>by
  refine hide λG_ g_=>?_;refine e1a2 (List.mem_filterMap.mp hb) λe he hf=>?_;obtain⟨y_,L,o,y_,y_,h1,y_,y_,h4,y_⟩:=G0 e he;refine g_ ?_;clear g_ G_;rw[h1]at hf;(refine aF hf λz1=>?_;clear hf;rw[<- z1]);exact⟨o,h4⟩
 have frN:∀b,s₀.heap.get? b=none->b∉frs fs:=λb e q=>by refine e1a1 (hFr b q) λo ho=>?_;rw[e]at ho;injection ho
 have hbase:∀b o,W.base.get? b=some o->s₀.heap.get? b=some o:=H0.keep;have basD:W.base.get? D=none:=by
  cases q:W.base.get? D with
  |none=>rfl
  |some o=>rw[hbase _ _ q]at hD0;injection hD0
 have celN:∀y c,cenv.cells.lookup y=some c->∀b,s₀.heap.get? b=none->c≠b:=λy c hy b hb e=>by
  refine e1a1 (hcel y c hy) λo ho=>?_;rw[e,hb]at ho;injection ho
 have loop:codeAny (model W.prog W.w) A (.compLoop (.ListComp elt [⟨tg,iter,ifs,0⟩] scope cpos) 0 (.ref I) (.ref D) cenv) RR s:=by
  refine bZ9 (I:=CInv W fs s₀ io₀ m₀ cenv vis' row St D g (fC t row cif celt) vs L mL) (λk s' hI=>?_) vs.length ⟨0,io₂,m₂,[],L,#[],c0,by simp,Nat.zero_le _,st₂,H₂,F₂,hst₂,hD₂,.nil,nfD,sm₂,by simpa using hL,by simp⟩;obtain⟨i,io',m',outs,L',us,c,hk',hi,st,H,F,hst,hD,hus,nf,sm,he,hLe⟩:=hI;have hgd:=b0 he;have sft:=hw.soft hst;by_cases hlt:i < vs.length
  ·have hvi:vs[i]?=some vs[i]:=List.getElem?_eq_getElem hlt
   rw[List.drop_eq_getElem_cons hlt]at he;obtain⟨y_,o,m₅,L₅,es,ec,eL⟩:=bM2 he;refine hw.item hvi hst H hgd λu h₂ tk ku hst₂ kk₂=>hw.lot (s:={ s' with heap:=h₂,toks:=tk }) hst₂ λh₁ hst₁ kk₁=>?_;have kk:∀b o,b∉wr->s'.heap.get? b=some o->h₁.get? b=some o:=λb o hb e=>kk₁ b o hb (kk₂ b o hb e);have sd:Side W wr s₀.heap s'.heap io' h₁:=⟨kk,hnew,λb hb=>(sft b hb).1,λb hb=>(sft b hb).2⟩
   have H1:=sd.hr H hbase;have st1:=sd.step H st;have F1:=F.sideN sd hCw λy c hy q=>celN y c hy c (hnew c q) rfl;have hD1:h₁.get? D=some (eZ us c):=kk _ _ hDw hD;have hus1:=hus.sol sd.sol;have ku1:=ku.sol sd.sol;have es0:(aI4 t vs[i] row m').bind (λr'=>bnd (cif r') λb=>if b then bnd (celt r') λx=>ret (some x)else ret none)=.ok o m₅:=es;have hne0:aI4 t vs[i] row m'≠.bad:=λq=>by rw[q]at es0;injection es0
   refine wpAny_mono (bZ8 (s:={ s' with heap:=h₁,toks:=tk }) (A:=A) (fs:=fs) hg lk H1 F1 ku1 hne0) (λy_ s₂ q=>?_) λe s₂ q=>?_
   rotate_left
   ·obtain⟨c',m'',io'',a,g',h1,y_⟩:=q
    rw[h1]at es0;injection es0
   obtain⟨r₂,mq,io₂',e2,st2,H2,⟨F2,hol⟩,sm2⟩:=q;have em:=(cF9 e2).symm;subst em;rw[e2]at es0;have st2':Step [] (frs fs) s₀.heap io₀ m₀ s₂.heap io₂' m':=by
    refine((st1.wk (own':=[cenv.locals]) λy_ q=>nomatch q).trans st2).shrink H0 (λy_ y_ e=>e) (λb hb=>?_) λb hb=>.inr hb;rw[List.mem_singleton.mp hb];exact .inl hC0
   have hD2:s₂.heap.get? D=some (eZ us c):=st2.keep _ _ hD1 nf (by simpa using hDC) (frN _ hD0);have nf2:¬dA io₂' D:=st2.nofoot hD1 nf;have hus2:=hus1.step st2;have hst2:St (i+1) s₂.heap io₂':=hw.stay hst₁ H1 H2 st2 (λb hb=>⟨λq=>hCw (by rw[<- List.mem_singleton.mp q];exact hb),frN _ (hnew b hb)⟩) hgd hgd;have Z2:Sit W fs cenv vis' s₂ io₂' m' r₂:=⟨H2,F2,G0.step0 st2'⟩
   have es':(cif r₂ m').bind (λb=>if b then bnd (celt r₂) λx=>ret (some x)else ret none)=.ok o m₅:=es0;have hne1:cif r₂ m'≠.bad:=λq=>by rw[q]at es';injection es'
   refine wpAny_mono (hifs s₂ io₂' m' _ Z2 hne1) (λok s₃ q=>?_) λe s₃ q=>?_
   rotate_left
   ·obtain⟨c',m'',io'',a,g',h1,y_⟩:=q
    rw[h1]at es';injection es'
   obtain⟨ok',m₃,io₃,e3,st3,H3,rfl,sm3⟩:=q;rw[e3]at es';have Z3:=Z2.step H3 st3;have hD3:s₃.heap.get? D=some (eZ us c):=st3.keep _ _ hD2 nf2 (λq=>nomatch q) (frN _ hD0);have wrN:∀b∈wr,b∉([]:List Addr) /\ b∉frs fs:=λb hb=>⟨(λq=>nomatch q),frN _ (hnew b hb)⟩
   have weak:∀{h:Heap} {io:Io},FR W h io cenv vis' r₂->FR W h io cenv vis' row:=λF=>F.weak (λa w e=>hol.2 a w (hrow a w e) e) hol.1.symm
   cases ok' with
   |false=>
    simp only[Bool.false_eq_true,if_false];have es2:(Res.ok none m₃:Res (Option V))=.ok o m₅:=es'
    (refine aL5 es2 λz1 z2=>?_;clear es2;subst z1;subst z2)
    refine⟨vs.length - (i+1),hk'▸Nat.sub_succ_lt_self _ _ hlt,i+1,io₃,m₃,outs,L₅,us,c,rfl,hlt,st2'.trans st3,H3,weak Z3.F,hw.stay hst2 H2 H3 st3 wrN hgd (b0 ec),hD3,hus2.step st3,st3.nofoot hD2 nf2,(sm.trans (Same.trans ⟨rfl,rfl⟩ sm2)).trans sm3,ec,?_⟩;rw[hLe,eL];rfl
   |true=>
    simp only[if_true];have es2:(celt r₂ m₃).bind (λx=>ret (some x))=.ok o m₅:=es';have hne2:celt r₂ m₃≠.bad:=λq=>by rw[q]at es2;injection es2
    refine wpAny_mono (helt s₃ io₃ m₃ _ Z3 hne2) (λy s₄ q=>?_) λe s₄ q=>?_
    rotate_left
    ·obtain⟨c',m'',io'',a,g',h1,y_⟩:=q
     rw[h1]at es2;injection es2
    obtain⟨y',m₄,io₄,e4,st4,H4,k4,sm4⟩:=q;rw[e4]at es2
    (refine aL5 es2 λz1 z2=>?_;clear es2;subst z1;subst z2)
    have nf3:=st3.nofoot hD2 nf2;have hD4:s₄.heap.get? D=some (eZ us c):=st4.keep _ _ hD3 nf3 (λq=>nomatch q) (frN _ hD0);have nf4:=st4.nofoot hD3 nf3;have hus4:=(hus2.step st3).step st4;have hst4:St (i+1) s₄.heap io₄:=hw.stay hst2 H2 H4 (st3.trans st4) wrN hgd (b0 ec);have ol:us.size <= lid:=by
     have e1:=hus.length;have e2:L.length=outs.length+L'.length:=by rw[hLe,List.length_append]
     have:us.size=outs.length:=by simpa using e1
     lia
    refine wpAny_list_append_plain ⟨c,hD4⟩ (λh₅ ⟨c5,hD5⟩ hs5=>?_) (aL ol);have kk5:∀b o,b≠D->s₄.heap.get? b=some o->h₅.get? b=some o:=λb o q e=>(hs5.2 b q).trans e;have lv5:∀o,s₄.heap.get? D=some o->¬cQ o /\ ∃o',h₅.get? D=some o':=λo ho=>by
     rw[hD4]at ho;(refine aF ho λz1=>?_;clear ho;subst z1);exact⟨aM1,_,hD5⟩
    have st5:Step [D] (frs fs) s₄.heap io₄ m₄ h₅ io₄ m₄:=fP H4 (L:=D) (.head _) kk5 lv5 nf4;have H5:HR W h₅ io₄ m₄:=H4.ofOwn (own:=[D]) (L:=D) (.head _) kk5 lv5 nf4 basD;have st5':Step [] (frs fs) s₀.heap io₀ m₀ h₅ io₄ m₄:=by
     refine((((st2'.trans st3).trans st4).wk (own':=[D]) λy_ q=>nomatch q).trans st5).shrink H0 (λy_ y_ e=>e) (λb hb=>?_) λb hb=>.inr hb;rw[List.mem_singleton.mp hb];exact .inl hD0
    have F5:FR W h₅ io₄ cenv vis' row:=(weak (Z3.F.step0 H3 st4)).step H4 st5 (by simpa using Ne.symm hDC) λy c hy=>by simpa using celN y c hy D hD0
    refine⟨vs.length - (i+1),hk'▸Nat.sub_succ_lt_self _ _ hlt,i+1,io₄,m₄,outs++[y'],L₅,us.push y,c5,rfl,hlt,st5',H5,F5,hw.stay hst4 H4 H5 st5 (λb hb=>⟨λq=>hDw (by rw[<- List.mem_singleton.mp q];exact hb),frN _ (hnew b hb)⟩) (b0 ec) (b0 ec),hD5,?_,nf4,((sm.trans (Same.trans ⟨rfl,rfl⟩ sm2)).trans sm3).trans (sm4.trans ⟨rfl,rfl⟩),ec,?_⟩
    ·rw[Array.toList_push];exact(hus4.step st5).snoc (VR.step st5 k4)
    ·rw[hLe,eL];simp[eQ]
  ·have hi':i=vs.length:=by lia
   subst hi';refine hw.done hst H hgd λh₁ tk kk=>?_;have sd:Side W wr s₀.heap s'.heap io' h₁:=⟨kk,hnew,λb hb=>(sft b hb).1,λb hb=>(sft b hb).2⟩
   rw[List.drop_length]at he;have ec:∀{step:V->Mn (Option V)},bK g step [] m'=.ok [] m':=if_pos hgd;rw[ec]at he
   (refine aL5 he λz1 z2=>?_;clear he;subst z1;subst z2)
   rw[List.append_nil]at hLe;subst hLe;have F1:=F.sideN sd hCw λy c hy q=>celN y c hy c (hnew c q) rfl;refine e1a2 F1.loc λmC hn y_=>?_;exact fin { s' with heap:=h₁,toks:=tk } io' us c (sd.step H st) (sd.hr H hbase) (kk _ _ hDw hD) (hus.sol sd.sol) nf ⟨⟨mC,hn⟩,F1.nofoot⟩ (sm.trans ⟨rfl,rfl⟩)
 exact codeAny_compStart_list loop (hw.self hst₂ loop)
end
section
variable{K:Frag}{own:List Addr}
theorem VRs.ext(x:∀(n:Nat) (p:Addr×Addr),io[n]?=some p->io'[n]?=some p){v:List V}{u:List Value}(k:VRs W h io v u):VRs W h io' v u:=k.mono (λy_ y_ e y_=>e) x
theorem ERs.ext(x:∀(n:Nat) (p:Addr×Addr),io[n]?=some p->io'[n]?=some p){kvs:List (Ky×V)}{es:List DictEntry}(e:ERs W h io kvs es):ERs W h io' kvs es:=e.mono (λy_ y_ e y_=>e) x
theorem FEs.ext(x:∀(n:Nat) (p:Addr×Addr),io[n]?=some p->io'[n]?=some p){fs:List (Nat×V)}{mA:Str->Option Value}(e:FEs W h io fs mA):FEs W h io' fs mA:=e.mono (λy_ y_ e y_=>e) x
theorem OR.ext(x:∀(n:Nat) (p:Addr×Addr),io[n]?=some p->io'[n]?=some p){a d:Addr}{o:MObj}(k:OR W h io a d o):OR W h io' a d o:=by
 cases o with
 |list xs=>
  obtain⟨e,vs,n,h1,h4,h5⟩:=k;exact⟨e,vs,n,h1,h4.ext x,h5⟩
 |dict kvs ep=>
  obtain⟨e,o,es,n,h1,h2,h3,h4,h5⟩:=k;exact⟨e,o,es,n,h1,h2,h3,h4.ext x,h5⟩
 |inst c fs=>
  obtain⟨e,mA,h1,h2,h3,h4⟩:=k;exact⟨e,mA,h1,h2,h3.ext x,h4⟩
theorem cQ6{ob:MObj}(st:Step own fr h₀ io₀ m₀ h io m)(H:HR W h io m)(hO:OR W h (io++[(D,D)]) D D ob)(nf:¬dA io D)(hD0:h₀.get? D=none)(basD:W.base.get? D=none):
  Step own fr h₀ io₀ m₀ h (io++[(D,D)]) (m++[ob]) /\ HR W h (io++[(D,D)]) (m++[ob]) /\ VR W h (io++[(D,D)]) (.ref m.length) (.ref D):=by
 have ex:∀(n:Nat) (p:Addr×Addr),io[n]?=some p->(io++[(D,D)])[n]?=some p:=λn p e=>by
  rw[List.getElem?_append_left (List.getElem?_eq_some_iff.mp e).1];exact e
 have last:(io++[(D,D)])[m.length]?=some (D,D):=by rw[<- H.len];simp
 refine⟨⟨st.alive,st.solid,st.keep,st.slots,?_,λn p kvs e hi hm=>?_⟩,⟨H.keep,by simp[H.len],λn p o hi hm=>?_,λb f=>?_,λi j p q hij hi hj=>?_⟩,.ref last⟩
 ·refine e1a2 st.grow λnew e hn=>?_
  refine⟨new++[(D,D)],by rw[e,List.append_assoc],λp hp=>?_⟩;rcases List.mem_append.mp hp with hp | hp
  ·exact hn p hp
  ·rw[List.mem_singleton.mp hp];exact⟨hD0,hD0⟩
 ·refine e2a3 (st.dicts n p kvs e hi hm) λk' e' q1 q2 q3=>?_
  exact⟨k',e',by rw[List.getElem?_append_left (List.getElem?_eq_some_iff.mp q1).1];exact q1,q2,q3⟩
 ·rcases Nat.lt_or_ge n m.length with hlt | hge
  ·rw[List.getElem?_append_left hlt]at hm
   rw[List.getElem?_append_left (by rw[H.len];exact hlt)]at hi;exact(H.obj n p o hi hm).ext ex
  ·have hn:n=m.length:=by
    have:=(List.getElem?_eq_some_iff.mp hm).1;simp at this;lia
   subst hn;rw[last]at hi
   (refine aF hi λz1=>?_;clear hi;subst z1)
   rw[List.getElem?_append_right (Nat.le_refl _)]at hm;simp at hm;subst hm;exact hO
 ·rcases fY f with f | ⟨p,hp,e⟩
  ·exact H.fresh b f
  ·rw[List.mem_singleton.mp hp]at e
   rcases e with e | e <;> rw[e] <;> exact basD
 ·have nfp:∀(k:Nat) (p:Addr×Addr),io[k]?=some p->p.1≠D /\ p.2≠D:=λk p hk=>⟨λe=>nf ⟨p,List.mem_of_getElem? hk,.inl e.symm⟩,λe=>nf ⟨p,List.mem_of_getElem? hk,.inr e.symm⟩⟩
  have cut:∀(k:Nat) (p:Addr×Addr),(io++[(D,D)])[k]?=some p->io[k]?=some p \/ (k=io.length /\ p=(D,D)):=λk p hk=>by
   rcases Nat.lt_or_ge k io.length with hlt | hge
   ·rw[List.getElem?_append_left hlt]at hk;exact .inl hk
   ·have:=(List.getElem?_eq_some_iff.mp hk).1
    simp at this;have hn:k=io.length:=by lia
    subst hn;simp at hk;exact .inr ⟨rfl,hk.symm⟩
  rcases cut i p hi with a | ⟨a,rfl⟩ <;> rcases cut j q hj with b | ⟨b,rfl⟩
  ·exact H.apart i j p q hij a b
  ·have:=nfp i p a;exact⟨this.1,this.1,this.2⟩
  ·have:=nfp j q b;exact⟨Ne.symm this.1,Ne.symm this.2,Ne.symm this.2⟩
  ·lia
theorem dC7{us:Array Value}(st:Step own fr h₀ io₀ m₀ h io m)(H:HR W h io m)(hD:h.get? D=some (eZ us c))(hus:VRs W h io L us.toList)(hl:L.length <= lid)(nf:¬dA io D)(hD0:h₀.get? D=none)(basD:W.base.get? D=none):
  Step own fr h₀ io₀ m₀ h (io++[(D,D)]) (m++[.list L]) /\ HR W h (io++[(D,D)]) (m++[.list L]) /\ VR W h (io++[(D,D)]) (.ref m.length) (.ref D):=
 cQ6 st H ⟨rfl,us,c,hD,hus.ext λn p e=>by rw[List.getElem?_append_left (List.getElem?_eq_some_iff.mp e).1];exact e,hl⟩ nf hD0 basD
theorem bI2{fp:Pos}{nl:Nat}{use:Option (Value->Sem Unit)}(ck:CompOk scope env vis vis' nl)(hs:∀x,foldedSetIterable iter env x=Pure.pure x)(hg:CTg A vis vis' t tg)(hsrc:SiSrc W A fs env vis iter csrc)(hifs:∀cl C,SiB W A fs (compEnvC scope cl C env) vis' (aA4 ifs (compEnvC scope cl C env) true) cif)(helt:∀cl C,SiE W A fs (compEnvC scope cl C env) vis' (eval elt (compEnvC scope cl C env)) celt)(Z:Sit W fs env vis s io m r)(hne:(csrc r m).bind (λp=>bnd (bK p.2 (fC t (r++List.replicate nl none) cif celt) p.1) λl=>if l.length <= lid then alloc (.list l)else bad)≠.bad)(hX:∀e s',XP W [] fs s io m (csrc r m) e s'->E e s')(fin:∀s' io' D C L us c mL p m₂,csrc r m=.ok p m₂->bK p.2 (fC t (r++List.replicate nl none) cif celt) p.1 m₂=.ok L mL->L.length <= lid->s.heap.get? D=none->s.heap.get? C=none->D≠C->Step [] (frs fs) s.heap io m s'.heap io' mL->HR W s'.heap io' mL->s'.heap.get? D=some (eZ us c)->VRs W s'.heap io' L us.toList->¬dA io' D->(∃mC,s'.heap.Ns C mC) /\ ¬dA io' C->Same s s'->compPost (model W.prog W.w) A E use Q (.ref D) C (.ok .next) s'):
  wpAny (model W.prog W.w) A (comprehension (.ListComp elt [⟨tg,iter,ifs,0⟩] scope pos) scope env fp (newList []) false (eval iter env) use) Q E s:=by
 obtain⟨cl,g1,g2,g3⟩:=bM3 (scope:=scope) (env:=env) λy k hy hk=>by
  obtain⟨i,q1,q2⟩:=ck.cap (y,k) hy hk;exact Z.F.celex i y q1 q2
 refine wpAny_comprehension_free (g:=⟨tg,iter,ifs,0⟩) (gs:=[]) rfl hs g1 ck.kind ck.names ?_;refine wpAny_mono (hsrc s io m r Z (Res.bind_ne hne)) (λxv s₁ q=>wpAny_mono q (λit s₂ q=>?_) hX) hX;obtain⟨⟨vs,g⟩,m₂,io₂,e2,st₂,H₂,⟨I,wr,St,z71,hw,h0,hnew⟩,sm₂⟩:=q;rw[z71];rw[e2]at hne;have hne':(bK g (fC t (r++List.replicate nl none) cif celt) vs m₂).bind (λl=>if l.length <= lid then alloc (.list l)else bad)≠.bad:=hne;obtain⟨L,mL,eL⟩:=cM0 (Res.bind_ne hne');have hlen:L.length <= lid:=by
  rcases Nat.lt_or_ge lid L.length with q | q
  ·refine absurd ?_ hne'
   rw[eL];show(if L.length <= lid then alloc (.list L)else bad) mL=_;rw[if_neg (by lia)];rfl
  ·exact q
 have Z2:=Z.step H₂ st₂;refine wpAny_newList ?_ (by decide);have k3:∀b o,s₂.heap.get? b=some o->(s₂.heap.push (eZ #[] 0)).get? b=some o:=aM _;refine wpAny_newFunctionEnv ck.cell (λy hy=>nomatch hy) (λh₄ hn₄ hs₄=>?_) ck.kind;have k4:∀b o,(s₂.heap.push (eZ #[] 0)).get? b=some o->h₄.get? b=some o:=λb o e=>by
  have hb:b≠(s₂.heap.push (eZ #[] 0)).objs.size:=λq=>by rw[q,aO]at e;injection e
  exact(hs₄.2 b hb).trans (aM _ _ _ e)
 have sz:(s₂.heap.push (eZ #[] 0)).objs.size=s₂.heap.objs.size+1:=Heap.size_push ..;have kk:∀b o,s₂.heap.get? b=some o->h₄.get? b=some o:=λb o e=>k4 b o (k3 b o e);have cD:s₂.heap.get? s₂.heap.objs.size=none:=aO _;have cC3:(s₂.heap.push (eZ #[] 0)).get? (s₂.heap.push (eZ #[] 0)).objs.size=none:=aO _;have cC:s₂.heap.get? (s₂.heap.push (eZ #[] 0)).objs.size=none:=by
  cases q:s₂.heap.get? (s₂.heap.push (eZ #[] 0)).objs.size with
  |none=>rfl
  |some o=>rw[k3 _ _ q]at cC3;injection cC3
 have hD0:s.heap.get? s₂.heap.objs.size=none:=eP st₂ cD;have hC0:s.heap.get? (s₂.heap.push (eZ #[] 0)).objs.size=none:=eP st₂ cC;have hDC:s₂.heap.objs.size≠(s₂.heap.push (eZ #[] 0)).objs.size:=by rw[sz];exact Nat.ne_of_lt (Nat.lt_succ_self _)
 have st4:Step [] (frs fs) s₂.heap io₂ m₂ h₄ io₂ m₂:=.of_keeps H₂ kk;have H4:HR W h₄ io₂ m₂:=H₂.of_keeps kk;have hn':h₄.Ns (s₂.heap.push (eZ #[] 0)).objs.size (λy=>none):=hn₄;have F4:FR W h₄ io₂ (compEnvC scope cl (s₂.heap.push (eZ #[] 0)).objs.size env) vis' (r++List.replicate nl none):=bM1 ck H₂ Z2.F g2 g3 kk cC hn';have lk:∀(j:Nat) (x:Str),vis'[j]?=some (some x)->vis.length <= j->(compEnvC scope cl (s₂.heap.push (eZ #[] 0)).objs.size env).kindOf x=some .local:=λj x hv hj=>by
  refine lookup_relabel_local ?_;rcases ck.see j x hv with⟨_,q⟩ | ⟨q,_⟩
  ·exact q
  ·exact absurd (List.getElem?_eq_some_iff.mp q).1 (Nat.not_lt.mpr hj)
 have hrow:∀(a:Nat) (w:V),(r++List.replicate nl (none:Option V))[a]?=some (some w)->a < vis.length:=λa w e=>by
  rcases Nat.lt_or_ge a r.length with q | q
  ·rw[<- Z.F.len];exact q
  ·rw[List.getElem?_append_right q]at e
   have:=List.mem_of_getElem? e;simp at this
 show codeAny (model W.prog W.w) A (.compStart _ 0 (.ref I) (.ref s₂.heap.objs.size) (compEnvC scope cl (s₂.heap.push (eZ #[] 0)).objs.size env)) _ _;refine cA0 (s:={ s₂ with heap:=h₄,toks:=s₂.toks+0 }) (s₀:=s) (c0:=0) Z.H Z.G hw hnew hD0 hC0 hDC ?_ ?_ hg lk hrow (λy c hy=>?_) (hifs _ _) (helt _ _) (st₂.trans st4) H4 F4 (hw.stay h0 H₂ H4 st4 (λb hb=>⟨(λq=>nomatch q),?_⟩) (b0 eL) (b0 eL)) (k4 _ _ (Heap.get?_push_size _ rfl)) (λf=>?_) (sm₂.trans ⟨rfl,rfl⟩) eL hlen
  λs' io' us c a1 a2 a3 a4 a5 a6 a7=>fin s' io' _ _ L us c mL _ m₂ e2 eL hlen hD0 hC0 hDC a1 a2 a3 a4 a5 a6 a7
 ·intro q;obtain⟨y_,hz⟩:=hw.alive h0 _ q;rw[cD]at hz;injection hz
 ·intro q;obtain⟨y_,hz⟩:=hw.alive h0 _ q;rw[show(compEnvC scope cl (s₂.heap.push (eZ #[] 0)).objs.size env).locals=(s₂.heap.push (eZ #[] 0)).objs.size from rfl,cC]at hz;injection hz
 ·obtain⟨⟨y_,o,ho,y_⟩,y_⟩:=Z.F.cells y c (g2 y c hy)
  exact⟨o,ho⟩
 ·intro q
  obtain⟨e,he,hf⟩:=List.mem_filterMap.mp q;obtain⟨y_,L',o,y_,y_,h1,y_,y_,h4,y_⟩:=Z.G e he;rw[h1]at hf;(refine aF hf λz1=>?_;clear hf;subst z1);rw[hnew _ hb]at h4;injection h4
 ·obtain⟨o,ho,y_⟩:=H₂.foot f
  rw[cD]at ho;injection ho
theorem bS4{C:Addr}{mC:Str->Option Value}(hC0:h₀.get? C=none)(hn:h.Ns C mC)(nf:¬dA io C)(hs:Heap.SameBut C h h'):Side W [C] h₀ h io h':=
 ⟨λb o hb e=>(hs.2 b (by simpa using hb)).trans e,λb hb=>by rw[List.mem_singleton.mp hb];exact hC0,λb hb=>by rw[List.mem_singleton.mp hb];exact nf,λb hb o ho=>by
  rw[List.mem_singleton.mp hb]at ho;refine e3a3 hn λo' es ep ho' hd y_=>?_;rw[ho']at ho;(refine aF ho λz1=>?_;clear ho;subst z1);exact dZ hd⟩
theorem dL6{nl:Nat}(ck:CompOk scope env vis vis' nl)(hs:∀x,foldedSetIterable iter env x=Pure.pure x)(hg:CTg A vis vis' t tg)(hsrc:SiSrc W A fs env vis iter csrc)(hifs:∀cl C,SiB W A fs (compEnvC scope cl C env) vis' (aA4 ifs (compEnvC scope cl C env) true) cif)(helt:∀cl C,SiE W A fs (compEnvC scope cl C env) vis' (eval elt (compEnvC scope cl C env)) celt):
  SiE W A fs env vis (eval (.ListComp elt [⟨tg,iter,ifs,0⟩] scope pos) env) (λr=>bnd (csrc r) λp=>bnd (bK p.2 (fC t (r++List.replicate nl none) cif celt) p.1) λl=>if l.length <= lid then alloc (.list l)else bad):=by
 intro s io m r Z hne;dsimp only at hne ⊢;refine bI2 (Q:=NP W [] (frs fs) s io m (VP W) _) (use:=none) ck hs hg hsrc hifs helt Z hne (λe s' q=>q.bind .refl (.refl _)) ?_;intro s' io' D C L us c mL p m₂ e1 e2 hl hD0 hC0 hDC st H hD hus nf hC sm;obtain⟨⟨mC,hn⟩,nfC⟩:=hC;refine⟨mC,hn,λh' hs'=>?_⟩;have sd:Side W [C] s.heap s'.heap io' h':=bS4 hC0 hn nfC hs';have st':=sd.step H st;have H':=sd.hr H Z.H.keep;have basD:W.base.get? D=none:=by
  cases q:W.base.get? D with
  |none=>rfl
  |some o=>rw[Z.H.keep _ _ q]at hD0;injection hD0
 refine e0a3 (dC7 st' H' (sd.keep _ _ (by simpa using hDC) hD) (hus.sol sd.sol) hl nf hD0 basD) λa1 a2 a3=>?_;refine⟨.ref mL.length,mL++[.list L],_,?_,a1,a2,a3,sm.trans ⟨rfl,rfl⟩⟩;show(csrc r m).bind _=_;rw[e1];show(bK p.2 _ p.1 m₂).bind _=_;rw[e2];show(if L.length <= lid then alloc (.list L)else bad) mL=_;rw[if_pos hl];rfl
noncomputable def dN(csrc:Lo->Mn (List V×Gd))(cif:Lo->Mn Bool)(celt:Lo->Mn V)(t:CT)(nl i:Nat)(r:Lo)(m:MH):Res (Fl×Lo):=
 bnd (bnd (csrc r) λp=>bnd (bK p.2 (fC t (r++List.replicate nl none) cif celt) p.1) λl=>if l.length <= lid then alloc (.list l)else bad) (λv=>bnd (λm=>.ok (r.set i (some v)) m) λr'=>ret (Fl.next,r')) m
theorem bJ5{py:Pos}{nl:Nat}(ck:CompOk scope env vis vis' nl)(hs:∀x,foldedSetIterable iter env x=Pure.pure x)(hg:CTg A vis vis' t tg)(hsrc:SiSrc W A (env::fs) env vis iter csrc)(hifs:∀cl C,SiB W A (env::fs) (compEnvC scope cl C env) vis' (aA4 ifs (compEnvC scope cl C env) true) cif)(helt:∀cl C,SiE W A (env::fs) (compEnvC scope cl C env) vis' (eval elt (compEnvC scope cl C env)) celt)(hsw:swapsWithSole [.Name y py] (.ListComp elt [⟨tg,iter,ifs,0⟩] scope cpos) pos.line env=Pure.pure true)(hyv:vis[i]?=some (some y))(hyk:env.kindOf y=some .local):
  SiS W A fs env vis (exec (.Assign [.Name y py] (.ListComp elt [⟨tg,iter,ifs,0⟩] scope cpos) pos) env) (λr=>bnd (bnd (csrc r) λp=>bnd (bK p.2 (fC t (r++List.replicate nl none) cif celt) p.1) λl=>if l.length <= lid then alloc (.list l)else bad) λv=>bnd (λm=>.ok (r.set i (some v)) m) λr'=>ret (.next,r')):=by
 intro s io m r Z;show Si W (bO env) A (env::fs) (SP W env vis) _ s io m (dN csrc cif celt t nl i r m);intro hne;rw[exec_Assign_arm];refine wpAny_bind (wpAny_standAt ?_);rw[hsw];refine wpAny_bind (wpAny_pure ?_);simp only[if_true];have hne0:(csrc r m).bind (λp=>bnd (bK p.2 (fC t (r++List.replicate nl none) cif celt) p.1) λl=>if l.length <= lid then alloc (.list l)else bad)≠.bad:=Res.bind_ne hne;refine wpAny_bind ?_
 suffices main:wpAny (model W.prog W.w) A (comprehension (.ListComp elt [⟨tg,iter,ifs,0⟩] scope cpos) scope env (firstIterPos [⟨tg,iter,ifs,0⟩] cpos) (newList []) false (eval iter env) (some λv=>assignAll v ((assignEach [.Name y py] env).map (·.2)))) (λy_ s'=>NP W (bO env) (frs (env::fs)) s io m (SP W env vis) (dN csrc cif celt t nl i r m) Flow.next s') (XP W (bO env) (env::fs) s io m (dN csrc cif celt t nl i r m)) s from
  wpAny_bind (wpAny_mono main (λy_ s' q=>wpAny_pure (wpAny_pure q)) λy_ y_ q=>q)
 have lift:∀e s',XP W [] (env::fs) s io m (csrc r m) e s'->XP W (bO env) (env::fs) s io m (dN csrc cif celt t nl i r m) e s':=λe s' q=>by
  obtain⟨c',m',io',a,g,h1,h2,h3,h4,h5,h6⟩:=q;refine⟨c',m',io',a,g,?_,h2,h3.wk (λy_ q=>nomatch q),h4,h5,h6⟩;simp only[dN,bnd,h1,Res.bind]
 have go:=bI2 (W:=W) (A:=A) (fs:=env::fs) (env:=env) (vis:=vis) (s:=s) (io:=io) (m:=m) (r:=r) (pos:=cpos) (fp:=firstIterPos [⟨tg,iter,ifs,0⟩] cpos) (elt:=elt) (iter:=iter) (ifs:=ifs) (scope:=scope) (tg:=tg) (t:=t) (vis':=vis') (nl:=nl) (csrc:=csrc) (cif:=cif) (celt:=celt)
  (use:=some λv=>assignAll v ((assignEach [.Name y py] env).map (·.2))) (Q:=λy_ s'=>NP W (bO env) (frs (env::fs)) s io m (SP W env vis) (dN csrc cif celt t nl i r m) Flow.next s') (E:=XP W (bO env) (env::fs) s io m (dN csrc cif celt t nl i r m)) ck hs hg hsrc hifs helt Z.sit hne0 lift
 refine go ?_;clear go;intro s' io' D C L us c mL p m₂ e1 e2 hl hD0 hC0 hDC st H hD hus nf hC sm;obtain⟨⟨mC,hn⟩,nfC⟩:=hC;have eT:dN csrc cif celt t nl i r m=.ok (.next,r.set i (some (.ref mL.length))) (mL++[.list L]):=by
  simp only[dN,bnd,e1,Res.bind,e2,if_pos hl,alloc,ret]
 have basD:W.base.get? D=none:=by
  cases q:W.base.get? D with
  |none=>rfl
  |some o=>rw[Z.H.keep _ _ q]at hD0;injection hD0
 refine e0a3 (dC7 st H hD hus hl nf hD0 basD) λa1 a2 a3=>?_;have nfC':¬dA (io'++[(D,D)]) C:=λf=>by
  rcases fY f with f | ⟨q,hq,e⟩
  ·exact nfC f
  ·rw[List.mem_singleton.mp hq]at e
   rcases e with e | e <;> exact hDC e.symm
 have Z':Stt W fs env vis s' (io'++[(D,D)]) (mL++[.list L]) r:=⟨a2,Z.F.step0 Z.H a1,Z.G.step0 a1,Z.fr,Z.dis⟩
 have hLo:∃o,s.heap.get? env.locals=some o:=by obtain⟨y_,⟨o,y_,y_,ho,y_⟩,y_⟩:=Z.F.loc;exact⟨o,ho⟩
 have hCl:C∉bO env:=λq=>by
  rcases List.mem_cons.mp q with e | q
  ·refine e1a1 hLo λo ho=>?_;rw[<- e,hC0]at ho;injection ho
  ·obtain⟨⟨z,c'⟩,hm,hq⟩:=List.mem_filterMap.mp q
   obtain⟨⟨y_,o,ho,y_⟩,y_⟩:=Z.F.cells z C hq;rw[hC0]at ho;injection ho
 have nfr:C∉frs (env::fs):=λq=>by
  refine e1a2 (List.mem_filterMap.mp q) λe he hf=>?_;obtain⟨y_,L',o,y_,y_,h1,y_,y_,h4,y_⟩:=Z.sit.G e he;rw[h1]at hf;(refine aF hf λz1=>?_;clear hf;subst z1);rw[hC0]at h4;injection h4
 have as:=aZ4 (W:=W) (fs:=fs) (A:=A) (pos:=py) hyv (.inl hyk) s' _ _ r _ _ Z' a3 (λq=>nomatch q);have key:wpAny (model W.prog W.w) A (assign (.Name y py) env (.ref D)) (λy_ s''=>∃mC,s''.heap.Ns C mC /\ ∀h',Heap.SameBut C s''.heap h'->NP W (bO env) (frs (env::fs)) s io m (SP W env vis) (dN csrc cif celt t nl i r m) Flow.next { s'' with heap:=h' }) (XP W (bO env) (env::fs) s io m (dN csrc cif celt t nl i r m)) s':=by
  refine wpAny_mono as (λy_ s'' q=>?_) λe s'' q=>?_
  rotate_left
  ·obtain⟨c',m',io',a,g,h1,y_⟩:=q;injection h1
  obtain⟨r₂,m₃,io₃,e3,st3,H3,F3,sm3⟩:=q
  (refine aL5 e3 λz1 z2=>?_;clear e3;subst z1;subst z2)
  refine e3a3 hn λoC esC epC hoC hdC hrC=>?_;have hoC':=st3.keep _ _ hoC nfC' hCl nfr;have hn3:s''.heap.Ns C mC:=⟨oC,esC,epC,hoC',hdC,hrC⟩
  refine⟨mC,hn3,λh' hs'=>?_⟩;have nfC3:=st3.nofoot hoC nfC';have sd:Side W [C] s.heap s''.heap io₃ h':=bS4 hC0 hn3 nfC3 hs';have stT:=(a1.wk (own':=bO env) λy_ q=>nomatch q).trans st3;have F':FR W h' io₃ env vis (r.set i (some (.ref mL.length))):=F3.side sd hLo λz c hz=>by obtain⟨⟨y_,o,ho,y_⟩,y_⟩:=Z.F.cells z c hz;exact⟨o,ho⟩
  exact⟨(.next,r.set i (some (.ref mL.length))),_,io₃,eT,sd.step H3 stT,sd.hr H3 Z.H.keep,⟨.next,F'⟩,(sm.trans sm3).trans ⟨rfl,rfl⟩⟩
 exact key
end
end Mini.Internal
variable{elt:CE}{ifs:List CB}
namespace Mini.Internal
open PySem PySem.W
noncomputable def eA:Ty->String
 |.int=>"int"
 |.bool=>"bool"
 |.str=>"str"
 |.list=>"list"
 |.tuple=>"tuple"
 |.dict=>"dict"
 |.cls _=>""
section
variable{K:Frag}{own:List Addr}
structure IsiT(W:Wd)(A:Around)(E:Value->Shared->Prop)(t:Ty):Prop where
 fn:∀{s:Shared} {Q:Value->Shared->Prop},(∀tk,Q (.bool false) { s with toks:=tk })->wpAny (model W.prog W.w) A (call (.builtin "isinstance") [.none,.type (eA t)]) Q E s
 fb:∀{s:Shared} {Q:Value->Shared->Prop} (c:Bool),(∀tk,Q (.bool (t == .int||t == .bool)) { s with toks:=tk })->wpAny (model W.prog W.w) A (call (.builtin "isinstance") [.bool c,.type (eA t)]) Q E s
 fi:∀{s:Shared} {Q:Value->Shared->Prop} (k:Int) (u:Tok),(∀tk,Q (.bool (t == .int)) { s with toks:=tk })->wpAny (model W.prog W.w) A (call (.builtin "isinstance") [.int k u,.type (eA t)]) Q E s
 fs:∀{s:Shared} {Q:Value->Shared->Prop} (x:Str) (u:Tok),(∀tk,Q (.bool (t == .str)) { s with toks:=tk })->wpAny (model W.prog W.w) A (call (.builtin "isinstance") [.str x u,.type (eA t)]) Q E s
 ft:∀{s:Shared} {Q:Value->Shared->Prop} (a:Addr) (o:Obj),s.heap.get? a=some o->o.cls=.type "tuple"->(∀tk,Q (.bool (t == .tuple)) { s with toks:=tk })->wpAny (model W.prog W.w) A (call (.builtin "isinstance") [.ref a,.type (eA t)]) Q E s
 fl:∀{s:Shared} {Q:Value->Shared->Prop} (a:Addr) (o:Obj),s.heap.get? a=some o->o.cls=.type "list"->(∀tk,Q (.bool (t == .list)) { s with toks:=tk })->wpAny (model W.prog W.w) A (call (.builtin "isinstance") [.ref a,.type (eA t)]) Q E s
 fd:∀{s:Shared} {Q:Value->Shared->Prop} (a:Addr) (o:Obj),s.heap.get? a=some o->o.cls=.type "dict"->(∀tk,Q (.bool (t == .dict)) { s with toks:=tk })->wpAny (model W.prog W.w) A (call (.builtin "isinstance") [.ref a,.type (eA t)]) Q E s
theorem isiT(E:Value->Shared->Prop){t:Ty}(ht:∀c,t≠.cls c):IsiT W A E t:=by
 cases t with
 |int=>exact⟨λ{s} {Q} h=>IsiPair.NoneType_int (h _),λ{s} {Q} y_ h=>IsiPair.bool_int (h s.toks),λ{s} {Q} y_ y_ h=>IsiPair.int_int (h s.toks),λ{s} {Q} y_ y_ h=>IsiPair.str_int (h _),λ{s} {Q} y_ y_ e c h=>IsiPair.tuple_int e c (h _),λ{s} {Q} y_ y_ e c h=>IsiPair.list_int e c (h _),λ{s} {Q} y_ y_ e c h=>IsiPair.dict_int e c (h _)⟩
 |bool=>exact⟨λ{s} {Q} h=>IsiPair.NoneType_bool (h _),λ{s} {Q} y_ h=>IsiPair.bool_bool (h s.toks),λ{s} {Q} y_ y_ h=>IsiPair.int_bool (h _),λ{s} {Q} y_ y_ h=>IsiPair.str_bool (h _),λ{s} {Q} y_ y_ e c h=>IsiPair.tuple_bool e c (h _),λ{s} {Q} y_ y_ e c h=>IsiPair.list_bool e c (h _),λ{s} {Q} y_ y_ e c h=>IsiPair.dict_bool e c (h _)⟩
 |str=>exact⟨λ{s} {Q} h=>IsiPair.NoneType_str (h _),λ{s} {Q} y_ h=>IsiPair.bool_str (h _),λ{s} {Q} y_ y_ h=>IsiPair.int_str (h _),λ{s} {Q} y_ y_ h=>IsiPair.str_str (h s.toks),λ{s} {Q} y_ y_ e c h=>IsiPair.tuple_str e c (h _),λ{s} {Q} y_ y_ e c h=>IsiPair.list_str e c (h _),λ{s} {Q} y_ y_ e c h=>IsiPair.dict_str e c (h _)⟩
 |list=>exact⟨λ{s} {Q} h=>IsiPair.NoneType_list (h _),λ{s} {Q} y_ h=>IsiPair.bool_list (h _),λ{s} {Q} y_ y_ h=>IsiPair.int_list (h _),λ{s} {Q} y_ y_ h=>IsiPair.str_list (h _),λ{s} {Q} y_ y_ e c h=>IsiPair.tuple_list e c (h _),λ{s} {Q} y_ y_ e c h=>IsiPair.list_list e c (h s.toks),λ{s} {Q} y_ y_ e c h=>IsiPair.dict_list e c (h _)⟩
 |tuple=>exact⟨λ{s} {Q} h=>IsiPair.NoneType_tuple (h _),λ{s} {Q} y_ h=>IsiPair.bool_tuple (h _),λ{s} {Q} y_ y_ h=>IsiPair.int_tuple (h _),λ{s} {Q} y_ y_ h=>IsiPair.str_tuple (h _),λ{s} {Q} y_ y_ e c h=>IsiPair.tuple_tuple e c (h s.toks),λ{s} {Q} y_ y_ e c h=>IsiPair.list_tuple e c (h _),λ{s} {Q} y_ y_ e c h=>IsiPair.dict_tuple e c (h _)⟩
 |dict=>exact⟨λ{s} {Q} h=>IsiPair.NoneType_dict (h _),λ{s} {Q} y_ h=>IsiPair.bool_dict (h _),λ{s} {Q} y_ y_ h=>IsiPair.int_dict (h _),λ{s} {Q} y_ y_ h=>IsiPair.str_dict (h _),λ{s} {Q} y_ y_ e c h=>IsiPair.tuple_dict e c (h _),λ{s} {Q} y_ y_ e c h=>IsiPair.list_dict e c (h _),λ{s} {Q} y_ y_ e c h=>IsiPair.dict_dict e c (h s.toks)⟩
 |cls c=>exact absurd rfl (ht c)
structure IsiE(S:Sig)(m:MH)(t:Ty):Prop where
 en:aB3 S .none t m=.ok false m
 eb:∀b,aB3 S (.bool b) t m=.ok (t == .int||t == .bool) m
 ei:∀i,aB3 S (.int i) t m=.ok (t == .int) m
 es:∀x,aB3 S (.str x) t m=.ok (t == .str) m
 et:∀x,aB3 S (.tup x) t m=.ok (t == .tuple) m
 er:∀n,aB3 S (.ref n) t m=(match m[n]? with | some (.list _)=>.ok (t == .list) m | some (.dict _ _)=>.ok (t == .dict) m | _=>.bad)
 ef:∀k,aB3 S (.fn k) t m=.bad
 ee:∀k,aB3 S (.exc k) t m=.bad
 ec:∀k,aB3 S (.scr k) t m=.bad
theorem dJ4{t:Ty}(ht:∀c,t≠.cls c):IsiE S m t:=by
 cases t with
 |cls c=>exact absurd rfl (ht c)
 |_=>exact⟨rfl,λy_=>rfl,λy_=>rfl,λy_=>rfl,λy_=>rfl,λy_=>rfl,λy_=>rfl,λy_=>rfl,λy_=>rfl⟩
theorem cX9(H:HR W s.heap io m){t:Ty}(ht:∀c,t≠.cls c){v:V}{u:Value}(k:VR W s.heap io v u):Si W own A fs BV (call (.builtin "isinstance") [u,.type (eA t)]) s io m (aB3 S v t m):=by
 have X:=λE=>isiT (W:=W) (A:=A) E ht;have e:=dJ4 (S:=S) (m:=m) ht
 induction k using VR.elim with
 |none=>rw[e.en];exact λy_=>(X _).fn λtk=>aB1 H
 |bool b=>rw[e.eb];exact λy_=>(X _).fb b λtk=>aB1 H
 |int i t=>rw[e.ei];exact λy_=>(X _).fi i t λtk=>aB1 H
 |str x t hx=>rw[e.es];exact λy_=>(X _).fs x t λtk=>aB1 H
 |tup ha hx=>rw[e.et];exact λy_=>(X _).ft _ _ ha rfl λtk=>aB1 H
 | @ref n a d hi=>
  rw[e.er]
  cases hm:m[n]? with
  |none=>exact .bad
  |some o=>
   have ho:=H.obj _ _ _ hi hm
   cases o with
   |list xs=>
    obtain⟨y_,us,c,h1,y_⟩:=ho;exact λy_=>(X _).fl _ _ h1 rfl λtk=>aB1 H
   |dict kvs e=>
    obtain⟨y_,o,es,c,h1,h2,y_⟩:=ho;exact λy_=>(X _).fd _ _ h1 h2.1 λtk=>aB1 H
   |inst c fs=>exact .bad
 |fn k=>rw[e.ef];exact .bad
 |exc=>rw[e.ee];exact .bad
 |scr=>rw[e.ec];exact .bad
end
end Mini.Internal
namespace Mini.Internal
open PySem PySem.W PyProof.Rows
inductive StrKs:List Str->List (Value×Value)->Prop
 |nil:StrKs [] []
 |cons {k:Str} {t:Tok} {v:Value} {ks:List Str} {ps:List (Value×Value)}:StrKs ks ps->StrKs (k::ks) ((.str k t,v)::ps)
noncomputable def cQ8(W:Wd)(ks:List Str):Heap->Io->List V->List (Value×Value)->Prop:=λh io vs ps=>VRs W h io vs (ps.map (·.2)) /\ StrKs ks ps
noncomputable def SiP(W:Wd)(A:Around)(fs:List Env)(env:Env)(vis:List (Option Str))(ks:List Str)(t:Sem (List (Value×Value)))(c:Lo->Mn (List V)):Prop:=
 ∀(s:Shared) (io:Io) (m:MH) (r:Lo),Sit W fs env vis s io m r->Si W [] A fs (cQ8 W ks) t s io m (c r m)
theorem p_nil:SiP W A fs env vis [] (evalPairs (pairTrees [] [] env pos)) (λy_=>ret []):=λy_ y_ y_ y_ Z=>.pure Z.H ⟨.nil,.nil⟩
theorem dH7{k:Str}{v:Expr}{keys:List (Option Expr)}{vs:List Expr}(hk:PyData.strOk k=true)(ha:SiE W A fs env vis (eval v env) ca)(hl:SiP W A fs env vis ks (evalPairs (pairTrees keys vs env pos)) cl):
  SiP W A fs env vis (k::ks) (evalPairs (pairTrees (some (.Constant (.str k) j p)::keys) (v::vs) env pos)) (λr=>bnd (ca r) λx=>bnd (cl r) λxs=>ret (x::xs)):=by
 intro s io m r Z;have hc:SiE W A fs env vis (eval (.Constant (.str k) j p) env) (λy_=>ret (V.str k)):=bZ5 (v:=.str k) (k:=.str k) (by simp[hk]);show Si W [] A fs (cQ8 W (k::ks)) (evalPairs ((eval (.Constant (.str k) j p) env,do let x <- eval v env;standAt pos;pure x)::pairTrees keys vs env pos)) s io m (bnd (ret (V.str k)) (λy_=>bnd (ca r) λx=>bnd (cl r) λxs=>ret (x::xs)) m);rw[evalPairs];refine Si.bind (hc s io m r Z) λu s₁ io₁ m₁ kv e st H₁ k1 sm=>?_
 (refine aL5 e λz1 z2=>?_;clear e;subst z1;subst z2)
 refine VR.dStr k1 λt y_=>?_;have Z₁:=Z.step H₁ st;have br:∀R:Res V,R.bind ret=R:=λR=>by cases (R) <;> rfl
 have hv:Si W [] A fs (VP W) (do let x <- eval v env;standAt pos;pure x) s₁ io₁ m (ca r m):=by
  rw[<- br (ca r m)];exact Si.bind (ha _ _ _ r Z₁) λu' s₂ io₂ m₂ x e₂ st₂ H₂ k₂ sm₂=>.standAt (.pure H₂ k₂)
 refine Si.bind (Si.holding hv) λu' s₂ io₂ m₂ x e₂ st₂ H₂ k₂ sm₂=>?_;refine Si.bind (Si.holding (hl _ _ _ r (Z₁.step H₂ st₂))) λps s₃ io₃ m₃ xs e₃ st₃ H₃ k₃ sm₃=>?_;exact .pure H₃ ⟨.cons (k₂.step st₃) k₃.1,.cons k₃.2⟩
theorem StrKs.length(h:StrKs ks ps):ks.length=ps.length:=by
 induction h with
 |nil=>rfl
 |cons y_ ih=>exact congrArg (·+1) ih
theorem StrKs.carries(h:StrKs ks ps):Carries (PySem.strKind prog w) ps (ks.zip (ps.map (·.2))):=by
 induction h with
 |nil=>exact trivial
 | @cons k t v ks ps y_ ih=>exact⟨by simp[PySem.strKind,Value.isStrOf],rfl,ih⟩
theorem dA7{keys:List (Option Expr)}(hall:keys.all (·.isSome)=true)(hl:keys.length=es.length)(h0:keys≠[])(h15:keys.length <= 15)(hk15:ks.length <= 15)(nd:ks.Nodup)(hok:∀k∈ks,PyData.strOk k=true)(hp:SiP W A fs env vis ks (evalPairs (pairTrees keys es env pos)) cl):SiE W A fs env vis (eval (.Dict keys es pos) env) (λr=>bnd (cl r) λus=>alloc (.dict ((ks.map Ky.str).zip us) 0)):=by
 intro s io m r Z hne;have hkeep:∀b o,s.heap.get? b=some o->(s.heap.push { cls:=.type "dict",data:=.dict #[] }).get? b=some o:=aM _;have st0:Step [] (frs fs) s.heap io m (s.heap.push { cls:=.type "dict",data:=.dict #[] }) io m:=.of_keeps Z.H hkeep;have H0:=Z.H.of_keeps hkeep;refine wpAny_Dict_walk (knd:=PySem.strKind W.prog W.w) hall hl h0 h15 (wpAny_mono (hp { s with heap:=s.heap.push { cls:=.type "dict",data:=.dict #[] } } io m r (Z.step H0 st0) (Res.bind_ne hne)) (λps s₁ q=>?_) λe s₁ q=>(q.mono st0 ⟨rfl,rfl⟩).bind .refl (.refl _));obtain⟨us,m₁,io₁,e1,st1,H₁,⟨kv,ks'⟩,sm₁⟩:=q;have nf:¬dA io s.heap.objs.size:=λf=>by
  refine e1a2 (Z.H.foot f) λo ho y_=>?_;exact absurd (Heap.lt_size ho) (Nat.lt_irrefl _)
 have nfr:s.heap.objs.size∉frs fs:=λq=>by
  refine e3a3 (bY3 Z.G q) λo y_ y_ y_ ho y_=>?_;exact absurd (Heap.lt_size ho) (Nat.lt_irrefl _)
 have hD:s₁.heap.get? s.heap.objs.size=some { cls:=.type "dict",data:=.dict #[] }:=st1.keep _ _ (Heap.get?_push_size _ rfl) nf (λq=>nomatch q) nfr;have lk:=ks'.length;have lu:us.length=ks.length:=by rw[lk,<- kv.length,List.length_map]
 refine⟨ks.zip (ps.map (·.2)),ks'.carries,⟨_,#[],0,hD,⟨rfl,rfl,rfl⟩,rfl,λy_ he=>by simp at he,Pairs.nil,List.nodup_nil⟩,λh' hd hsb=>?_⟩;have nf1:¬dA io₁ s.heap.objs.size:=st1.nofoot (Heap.get?_push_size _ rfl) nf;have basD:W.base.get? s.heap.objs.size=none:=by
  cases q:W.base.get? s.heap.objs.size with
  |none=>rfl
  |some o=>exact absurd (Heap.lt_size (Z.H.keep _ _ q)) (Nat.lt_irrefl _)
 rw[merged_nil_of_nodup _ (by rw[List.map_fst_zip (by rw[List.length_map,lk];exact Nat.le_refl _)];exact nd)]at hd;refine e3a6 hd λo' es' n2 d1 d2 d3 d4 d5 d6=>?_;have hk':∀b o,b≠s.heap.objs.size->s₁.heap.get? b=some o->h'.get? b=some o:=λb o q e=>eK hsb b o q e;have hs':∀o,s₁.heap.get? s.heap.objs.size=some o->¬cQ o /\ ∃o',h'.get? s.heap.objs.size=some o':=λo e=>by
  rw[hD]at e;(refine aF e λz1=>?_;clear e;subst z1);refine⟨?_,_,d1⟩;rintro(⟨y_,vs,n,q⟩ | ⟨C,vs,q,y_⟩)
  ·injection q
  ·injection q
 have stD:Step [s.heap.objs.size] (frs fs) s₁.heap io₁ m₁ h' io₁ m₁:=fP H₁ (.head _) hk' hs' nf1;have H2:HR W h' io₁ m₁:=HR.ofOwn (own:=[s.heap.objs.size]) H₁ (.head _) hk' hs' nf1 basD;have st2:Step [] (frs fs) s.heap io m h' io₁ m₁:=Step.shrink Z.H ((st1.wk λy_ q=>nomatch q).trans stD) hkeep (λb hb=>.inl (by rw[List.mem_singleton.mp hb];exact aO _)) λb hb=>.inr hb;have kv2:VRs W h' (io₁++[(s.heap.objs.size,s.heap.objs.size)]) us (ps.map (·.2)):=(kv.step stD).ext λn p e=>by rw[List.getElem?_append_left (List.getElem?_eq_some_iff.mp e).1];exact e
 have ef:((ks.map Ky.str).zip us).map (·.1)=ks.map Ky.str:=List.map_fst_zip (by rw[List.length_map,lu];exact Nat.le_refl _);have es2:((ks.map Ky.str).zip us).map (·.2)=us:=List.map_snd_zip (by rw[List.length_map,lu];exact Nat.le_refl _);obtain⟨st3,H3,v3⟩:=cQ6 (D:=s.heap.objs.size) (ob:=.dict ((ks.map Ky.str).zip us) 0) st2 H2 ⟨rfl,o',es',n2,d1,d2,d3,ERs.of_pairs strEmb (λe he=>d4 e (Array.mem_toList_iff.mp he)) d5 (by
   rw[ef,show(λp:Str×Value=>Ky.str p.1)=Ky.str ∘ Prod.fst from rfl,<- List.map_map,List.map_fst_zip (by rw[List.length_map,lk];exact Nat.le_refl _)]at ⊢) (by rw[es2,List.map_snd_zip (by rw[List.length_map,lk];exact Nat.le_refl _)];exact kv2) (λk u hk hi=>by
   obtain⟨t,z71⟩:=Value.isStrOf_shape hi;rw[z71];rw[ef]at hk;obtain⟨k',hk',e⟩:=List.mem_map.mp hk
   cases (e)
   exact .str _ _ (hok _ hk')),by rw[ef];exact(List.pairwise_map.mpr (nd.imp λh e=>h (ky_s e))),by rw[List.length_zip,List.length_map,lu,Nat.min_self];exact Nat.le_trans hk15 (by decide)⟩ nf1 (aO _) basD
 have ee:bnd (cl r) (λus=>alloc (.dict ((ks.map Ky.str).zip us) 0)) m=.ok (.ref m₁.length) (m₁++[.dict ((ks.map Ky.str).zip us) 0]):=by
  show Res.bind (cl r m) _=_;rw[e1];rfl
 exact⟨_,_,_,ee,st3,H3,v3,sm₁.1,sm₁.2⟩
end Mini.Internal
variable{ps:List Nat}
namespace Mini.Internal
open PySem PySem.W PyProof.Rows PySem.Calls PySem.Builtin PySem.Builtin.ObjectAttr PySem.Builtin.Getset_descriptor
noncomputable def fK(K:Frag)(D:Addr):Bool:=
 findIn K (.ref D) "__getattribute__" == some (some (.builtin "BaseException.__getattribute__"))&&findIn K (.ref D) "__getattr__" == some none&&findIn K (.ref D) "__class__" == some (some (.builtin "object.__class__"))&&specialIn K (.builtin "object.__class__") "__get__" == some (some (.builtin "getset_descriptor.__get__"))&&takesIn K (.builtin "object.__class__") == some true&&
 mroIn K D (.type "object") == some true&&mroIn K D (.type "BaseException") == some true&&(match K.lookup D with | some o=>(match o.data with | .cls _=>true | _=>false) | none=>false)
section
variable{g:Array GenState}{d:Drawn}{t:Nat}{os:OsState}{K:Frag}
theorem cZ9(X:K.In h)(L0:Looks (model prog w) h (typeOf (.ref a)) (.ref D))(hm:mroIn K D (.type "object")=some true)(hq:R (.ok (.ret (.ref D))) ⟨h,g,d,t,os⟩):
  codeAny (model prog w) A (.call (.builtin "getset_descriptor.__get__") ⟨[.builtin "object.__class__",.ref a,.ref D],[]⟩) R ⟨h,g,d,t,os⟩:=by
 have L1:=looks_mroIn (M:=model prog w) X hm;refine codeAny_call_builtin KF.slot_gs.plain KF.entry_gs (KF.slot_gs.check _ _ _ _ _ _ _ _ KF.type_class (KF.args_gs _ _ _) ?_);unfold Builtin.«getset_descriptor.__get__» descrGet;rw[dga_obj];refine wpAny_bind (wpAny_pure ?_);unfold descrGetter descrCheckInstance descrNameAndClass isInstance;simp only[KF.owner_class]
 repeat lk
 refine⟨Code.quiet_builtin _ (by decide +kernel),codeAny_builtin KF.entry_class ?_⟩;unfold Builtin.«object.__class__» shownTypeOf
 repeat lk
 exact hq
theorem bY7{tk:Tok}{Q:Fin->Shared->Prop}(X:K.In h)(L0:Looks (model prog w) h (typeOf (.ref a)) (.ref D))(hm:mroIn K D (.type "object")=some true)(LF:Looks (model prog w) h (find (.ref a) (.ref D) "__class__") (.bind (.builtin "getset_descriptor.__get__") (.builtin "object.__class__")))(hq:Q (.done (.ret (.ref D))) ⟨h,g,d,t,os⟩):
  wpAny (model prog w) A (Builtin.«object.__getattribute__» ⟨[.ref a,.str "__class__" tk],[]⟩) Q E ⟨h,g,d,t,os⟩:=by
 repeat (any_goals (first | assumption | with_reducible refine Looks.at L0 ?_ | with_reducible refine Looks.at LF ?_ | wp_step))
 refine cZ9 X L0 hm ?_
 repeat (any_goals (first | assumption | wp_step))
theorem bY8{nameV:Value}{Q:Unit->Shared->Prop}(X:K.In h)(L0:Looks M h (typeOf (.ref a)) (.ref D))(hb:mroIn K D (.type "BaseException")=some true)(hq:Q () ⟨h,g,d,t,os⟩):wpAny M A (checkBuiltinCall "BaseException.__getattribute__" ⟨[.ref a,nameV],[]⟩) Q E ⟨h,g,d,t,os⟩:=by
 have hk:builtinKind "BaseException.__getattribute__"=some .slot:=by decide +kernel
 have hsplit:splitId "BaseException.__getattribute__"=some ("BaseException","__getattribute__"):=by decide +kernel
 have L1:=looks_mroIn (M:=M) X hb;have ha:=F.args_bexc_ga (.ref a) nameV;simp only[checkBuiltinCall,hk,hsplit];refine wpAny_bind ?_;unfold isInstance
 repeat (first | with_reducible refine Looks.at L0 ?_ | with_reducible refine Looks.at L1 ?_ | wp_step)
 exact hq
theorem cK8{tk:Tok}(X:K.In h)(L0:Looks (model prog w) h (typeOf (.ref a)) (.ref D))(hm:mroIn K D (.type "object")=some true)(hb:mroIn K D (.type "BaseException")=some true)(LF:Looks (model prog w) h (find (.ref a) (.ref D) "__class__") (.bind (.builtin "getset_descriptor.__get__") (.builtin "object.__class__")))(hq:R (.ok (.ret (.ref D))) ⟨h,g,d,t,os⟩):
  codeAny (model prog w) A (.call (.builtin "BaseException.__getattribute__") ⟨[.ref a,.str "__class__" tk],[]⟩) R ⟨h,g,d,t,os⟩:=
 codeAny_call_builtin F.attr_ValueError.ga.plain F.entry_bexc_ga (bY8 X L0 hb (bY7 X L0 hm LF hq))
theorem dK9{tk:Tok}(X:K.In h)(L0:Looks (model prog w) h (typeOf (.ref a)) (.ref D))(hc:fK K D=true)(hq:Q (.ref D) ⟨h,g,d,t,os⟩):
  wpAny (model prog w) A (getAttrBy (.ref a) (.str "__class__" tk) false) Q E ⟨h,g,d,t,os⟩:=by
 simp only[fK,Bool.and_eq_true,beq_iff_eq]at hc;obtain⟨⟨⟨⟨⟨⟨⟨c1,c2⟩,c3⟩,c4⟩,c5⟩,c6⟩,c7⟩,c8⟩:=hc;have L1:=looks_findIn (M:=model prog w) X c1;have L2:=looks_findIn (M:=model prog w) X c2;have f3:=F.attr_ValueError.ga.bind (.ref a);have hx2:(Value.builtin "BaseException.__getattribute__" == Value.builtin "object.__getattribute__")=false:=by decide +kernel
 have hx1:(onTheHeap (Value.ref D)&&Value.builtin "BaseException.__getattribute__" == Value.builtin "object.__getattribute__")=false:=by rw[hx2];rfl
 have LF:Looks (model prog w) h (find (.ref a) (.ref D) "__class__") (.bind (.builtin "getset_descriptor.__get__") (.builtin "object.__class__")):=by
  refine(looks_findIn (M:=model prog w) X c3).andThen ((looks_specialIn (M:=model prog w) X c4).andThen ?_);exact(show Looks (model prog w) h (dataDescriptor? (some (.builtin "object.__class__")) (some (.builtin "getset_descriptor.__get__"))) (some (.builtin "getset_descriptor.__get__",.builtin "object.__class__"))from(looks_takesIn (M:=model prog w) X c5).andThen .now).andThen (Looks.tag .now)
 repeat (any_goals (first | assumption | with_reducible refine Looks.at L0 ?_ | with_reducible refine Looks.at L1 ?_ | with_reducible refine Looks.at L2 ?_ | wp_step))
 refine cK8 X L0 c6 c7 LF ?_
 repeat (any_goals (first | assumption | wp_step))
theorem cK9{Q:Option Value->Shared->Prop}(X:K.In h)(L0:Looks (model prog w) h (typeOf (.ref a)) (.ref D))(hc:fK K D=true)(hq:Q (some (.ref D)) ⟨h,g,d,t+1,os⟩):
  wpAny (model prog w) A (getAttr? (.ref a) "__class__") Q E ⟨h,g,d,t,os⟩:=by
 unfold getAttr? getAttrBy?
 repeat (any_goals (first | assumption | with_reducible apply dK9 X L0 hc | wp_step))
end
noncomputable def ExcAt(a D:Addr)(h:Heap):Prop:=∃o,h.get? a=some o /\ o.cls=.ref D
theorem ExcAt.ty(p:ExcAt a D h):Looks M h (typeOf (.ref a)) (.ref D):=by
 refine e1a2 p λo h1 h2=>?_;exact h2▸(Looks.ld h1).andThen .now
set_option tactic.hygienic true in
theorem cI4{K:Frag}(hc:fK K D=true):KitX K (.ref a) (.ref D) (ExcAt a D) where
 ty:=λy_ y_ y_ p=>p.ty
 it:=λM h X y_=>by
  simp only[fK,Bool.and_eq_true]at hc;have hc:=hc.2
  split at hc
  ·rename_i o ho
   split at hc
   ·rename_i cd hd
    intro A' Q' E' s' k q;obtain⟨oc,odi,oda,osl⟩:=o;dsimp only at hd;subst hd;exact wpAny_bind (wpAny_loadPart (k _ _ (X _ _ ho)) (wpAny_pure q))
   ·injection hc
  ·injection hc
 ne:=λh tp dd its n sl X htp=>by
  refine Bool.eq_false_iff.mpr λq=>?_;have e:D=tp:=Value.ref.inj (beq_iff_eq.mp q);subst e;simp only[fK,Bool.and_eq_true]at hc;have hc:=hc.2
  split at hc
  ·rename_i o ho
   split at hc
   ·rename_i cd hd
    have z:=(X _ _ ho).symm.trans htp
    (refine aF z λz1=>?_;clear z;subst z1)
    injection hd
   ·injection hc
  ·injection hc
 ca:=λ{_ _ _ _ _ s} X p k=>by obtain⟨h,g,d,t,os⟩:=s;exact cK9 X p.ty hc k
theorem bX4{K:Frag}{own:List Addr}{cv:Value}(X:K.In W.base)(hrel:∀d x,S.cls[d]?=some x->x.exc=true->fK K (W.ca d)=true /\ kitOne K (.ref (W.ca d)) cv=some (x.supers.contains c))(H:HR W s.heap io m){v:V}{u:Value}(k:VR W s.heap io v u):Si W own A fs BV (call (.builtin "isinstance") [u,cv]) s io m (aB3 S v (.cls c) m):=by
 induction k using VR.elim with
 | @exc d a o vs h1 h2 h3=>
  have e0:aB3 S (.exc d) (.cls c) m=(match S.cls[d]? with | some x=>if x.exc then .ok (x.supers.contains c) m else .bad | none=>.bad):=rfl;rw[e0]
  cases ed:S.cls[d]? with
  |none=>exact .bad
  |some x=>
   dsimp only;by_cases hx:x.exc=true
   ·rw[if_pos hx]
    refine e0a2 (hrel d x ed hx) λq1 q2=>?_;exact λy_=>kia_one (cI4 q1) (X.keeps H.keep) ⟨o,h1,h2⟩ q2 (by intro q;injection q) λtk=>⟨_,m,io,rfl,.refl,H,rfl,rfl,rfl⟩
   ·rw[if_neg hx];exact .bad
 |_=>exact .bad
end Mini.Internal
variable{Q:V->MH->Prop}{R:List Str}
namespace Mini.Internal
open PySem PyProof.Rows
section
variable{a₀:Array Keyed}
theorem dG9{st:SortSt}{Q:Option Nat->SortSt->Prop}(h0:IntKeys a₀)(h1:1 <= a₀.size)(hB:SBase a₀ st)(hs:SortedTo (arrOf st) a₀.size)(h:Q (some a₀.size) st):wpS (model prog w) A E s (countRun' 0 a₀.size) Q st:=by
 rw[countRun0_eq];refine wpS_bind (wpS_ascLoop h0 (Nat.le_refl _) (Nat.le_refl 1) h1 hB (λi j hij hj=>hs i j hij (Nat.lt_of_lt_of_le hj h1)) λn hn1 hn2 hsn hor=>?_);have e:n=a₀.size:=by
  rcases hor with e | e
  ·exact e
  ·rcases Nat.lt_or_ge n a₀.size with q | q
   ·exact absurd e (Int.not_lt.mpr (hs (n - 1) n (Nat.sub_le _ _) q))
   ·exact Nat.le_antisymm hn2 q
 rw[if_pos (by simpa using e),e];exact wpS_pure h
theorem aV8:∀(f n r:Nat),r <= 1->minRun' f n r <= n+r
 |0,_,_,_=>Nat.le_refl _
 |f+1,n,r,h=>by
  rw[minRun'_succ];by_cases q:n < 64
  ·rw[if_pos q];exact Nat.le_refl _
  ·rw[if_neg q]
   have mx:max r (n % 2) <= 1:=Nat.max_le.mpr ⟨h,Nat.le_of_lt_succ (Nat.mod_lt n (by decide))⟩;have h2:n / 2+1 <= n:=Nat.div_lt_self (Nat.lt_of_lt_of_le (by decide) (Nat.not_lt.mp q)) (by decide);exact Nat.le_trans (aV8 f (n / 2) _ mx) (Nat.le_trans (Nat.add_le_add_left mx _) (Nat.le_trans h2 (Nat.le_add_right _ _)))
theorem cM7{c:Prop}[Decidable c]{x y:StateT SortSt Sem α}{Q:α->SortSt->Prop}{st:SortSt}(h:¬c)(k:wpS (model prog w) A E s y Q st):wpS (model prog w) A E s (if c then x else y) Q st:=by rw[if_neg h];exact k
theorem bN7{c:Prop}[Decidable c]{x y:StateT SortSt Sem α}{Q:α->SortSt->Prop}{st:SortSt}(h:c)(k:wpS (model prog w) A E s x Q st):wpS (model prog w) A E s (if c then x else y) Q st:=by rw[if_pos h];exact k
theorem cT8{st:SortSt}{Q:Unit->SortSt->Prop}(h0:IntKeys (arrOf st))(hB:SBase (arrOf st) st)(h2:1 <= (arrOf st).size)(hs:SortedTo (arrOf st) (arrOf st).size)(h:∀st',(arrOf st').Perm (arrOf st)->failedOf st'=none->SortedTo (arrOf st') (arrOf st).size->Q () st'):wpS (model prog w) A E s sortRuns' Q st:=by
 have hmr:minRun' (arrOf st).size (arrOf st).size 0 <= (arrOf st).size:=aV8 _ _ 0 (Nat.zero_le _);rw[sortRuns'_eq];refine wpS_bind (wpS_get (wpS_bind (wpS_mono (wpS_forRange
  (I:=λx c st'=>(x=0 /\ c=(none,0) /\ st'=st) \/ (1 <= x /\ c=(none,(arrOf st).size) /\ SDone (arrOf st) st'))
  (Q:=λc st'=>c=(none,(arrOf st).size) /\ SDone (arrOf st) st') ?step ?fin (.inl ⟨rfl,rfl,rfl⟩)) ?post)))
 case fin=>
  rintro c st' (⟨hx,y_,y_⟩ | ⟨y_,hc,hD⟩)
  ·lia
  ·exact⟨hc,hD⟩
 case step=>
  rintro x c st' y_ hx (⟨rfl,rfl,rfl⟩ | ⟨hx1,rfl,hD⟩)
  ·refine cM7 (Nat.not_le.mpr h2) (wpS_bind ?_)
   refine dG9 h0 h2 hB hs ?_;refine cM7 (Nat.not_lt.mpr hmr) (wpS_bind (wpS_get ?_));have hb:(pendingOf st').back?=none:=by rw[hB.pend];rfl
   rw[hb];exact wpS_bind (wpS_modify (wpS_pure (.inr ⟨by lia,by rw[Nat.zero_add],hB.done hs⟩)))
  ·exact bN7 (Nat.le_refl _) (wpS_pure ⟨rfl,hD⟩)
 case post=>
  rintro c st' ⟨rfl,hD⟩;refine wpS_bind (wpS_mono (wpS_forRange (I:=λy_ c st''=>st''=st' /\ c=(none,())) (Q:=λc st''=>st''=st' /\ c=(none,())) ?_ (λy_ y_ hh=>hh) ⟨rfl,rfl⟩) ?_)
  ·rintro x c st'' y_ y_ ⟨z71,z72⟩;rw[z71,z72]
   exact wpS_bind (wpS_get (bN7 (by rw[hD.2.2.1];exact Nat.le_refl 1) (wpS_pure ⟨rfl,rfl⟩)))
  ·rintro c st'' ⟨rfl,rfl⟩
   exact wpS_pure (h _ hD.1 hD.2.1 hD.2.2.2)
theorem bR9{vs:List Value}(hI:IntsAre vs ns)(hp:ns.Pairwise (· < ·)):SortedTo (pairsOf vs) (pairsOf vs).size:=by
 intro i j hij hj;have hi:i < (pairsOf vs).size:=Nat.lt_of_le_of_lt hij hj;rw[K_eq hi,K_eq hj];rw[pairsOf_size]at hi hj;have e:∀(k:Nat) (hk:k < vs.length) (hk':k < (pairsOf vs).size),(pairsOf vs)[k].1=vs[k]:=λk hk hk'=>by simp[pairsOf]
 rw[e i hi,e j hj];have hn:=hI.nums;have g:∀(k:Nat) (hk:k < vs.length),∃hk':k < ns.length,numOf vs[k]=ns[k]:=λk hk=>by
  rw[<- hn];exact⟨by rw[List.length_map];exact hk,by rw[List.getElem_map]⟩
 obtain⟨hi',e1⟩:=g i hi;obtain⟨hj',e2⟩:=g j hj;rw[e1,e2];rcases Nat.lt_or_ge i j with q | q
 ·exact Int.le_of_lt (List.pairwise_iff_getElem.mp hp i j hi' hj' q)
 ·have:=Nat.le_antisymm hij q
  subst this;exact Int.le_refl _
theorem aW2{vs:List Value}{P:Fin->Shared->Prop}(ho:s.heap.get? a=some (seqObj "list" vs.toArray n))(hI:IntsAre vs ns)(hc:vs.length < 64 \/ ns.Pairwise (· < ·))(hl:vs.length <= sizeLine)(h:∀(out:Array Value) (ns':List Int),IntsAre out.toList ns'->ns'.Perm ns->ns'.Pairwise (· <= ·)->P (.done (.ret .none)) { s with heap:=sortedHeap s.heap a vs out }):
  wpAny (model prog w) A (Builtin.«list.sort» ⟨[.ref a],[]⟩) P E s:=by
 rcases hc with h64 | hp
 ·exact list_sort_tree ho hI h64 h
 by_cases h64:vs.length < 64
 ·exact list_sort_tree ho hI h64 h
 rw[list_sort_plain];have ha:a < s.heap.objs.size:=Heap.lt_size ho;refine wpAny_bind (listItems_at ho rfl ?_);refine wpAny_bind (listUpdate_at ho rfl ?_ (hsz:=by simpa using hl));obtain⟨e1,ho1⟩:∃e1,(s.heap.update a (Obj.mapSeq λy_=>#[])).get? a=some (seqObj "list" #[] e1):=⟨_,get?_update_seq ho (λy_=>#[])⟩
 refine wpAny_bind (seqEpoch_at ho1 rfl ?_);refine wpAny_bind (wpAny_newTuple ?_ (by simpa using hl));refine wpAny_bind (wpAny_newList ?_);refine wpAny_holding ?_;have ho6:(((s.heap.update a (Obj.mapSeq λy_=>#[])).push (seqObj "tuple" vs.toArray 0)).push (seqObj "list" #[] 0)).get? a=some (seqObj "list" #[] e1):=by
  rw[Heap.get?_push_ne _ _ _ (by rw[size_push',Heap.size_update];exact Nat.ne_of_lt (Nat.lt_succ_of_lt ha)),Heap.get?_push_ne _ _ _ (by rw[Heap.size_update];exact Nat.ne_of_lt ha)];exact ho1
 show wpAny (model prog w) A _ P E { s with heap:=((s.heap.update a (Obj.mapSeq λy_=>#[])).push (seqObj "tuple" vs.toArray 0)).push (seqObj "list" #[] 0) };have hsz:vs.toArray.size=vs.length:=by simp
 have h2:¬vs.toArray.size < 2:=by lia
 rw[if_neg h2,if_neg h2];obtain⟨v₁,v₂,rest,rfl⟩:∃v₁ v₂ rest,vs=v₁::v₂::rest:=by
  cases vs with
  |nil=>exact absurd (by decide) h64
  |cons v₁ vs=>
   cases vs with
   |nil=>exact absurd (show 1 < 64 by decide) h64
   |cons v₂ rest=>exact⟨v₁,v₂,rest,rfl⟩
 rw[keyKind_ints hI];refine wpAny_bind (wpAny_pure ?_);refine wpAny_bind (wpAny_mono (cT8 (st:=SortSt.mk' oneType' ((v₁::v₂::rest).toArray.zip (v₁::v₂::rest).toArray) #[] 7 none)
  (Q:=λy_ st'=>(arrOf st').Perm (pairsOf (v₁::v₂::rest)) /\ failedOf st'=none /\ SortedTo (arrOf st') (pairsOf (v₁::v₂::rest)).size)
  hI.intKeys ⟨Array.Perm.refl _,rfl,rfl,rfl⟩ (by rw[show arrOf _=pairsOf (v₁::v₂::rest)from rfl,pairsOf_size];simp) (bR9 hI hp) λst' a1 a2 a3=>⟨a1,a2,a3⟩) ?_ λy_ y_ e=>e)
 rintro⟨⟨⟩,st'⟩ s' ⟨z71,hp',hf,hs⟩;rw[z71];refine wpAny_bind (seqEpoch_at ho6 rfl ?_);refine wpAny_bind (listUpdate_at ho6 rfl ?_ (hsz2:=by refine Nat.le_trans (Nat.le_of_eq ((Array.size_map ..).trans (hp'.size_eq.trans (pairsOf_size _)))) ?_;exact Nat.le_succ_of_le hl));rw[hf];simp only[bne_self_eq_false,Bool.false_eq_true,if_false];refine e1a3 (sorted_out hI hp' hs) λns' q1 q2 q3=>?_;exact wpAny_pure (h _ ns' q1 q2 q3)
end
end Mini.Internal
variable{E:Nat->MH->Prop}
namespace Mini.Internal
open PySem PySem.W PySem.Calls PyProof.Rows
section
variable{d:Addr}{ep:Nat}{es:Array DictEntry}
noncomputable def cX7(es:Array DictEntry)(i:Nat)(v:Value):Prop:=∃e,es[i]?=some e /\ v=e.key
theorem bX1(hh:A.handled=none){I:Addr}(hne:d≠I)(hdat:o.data=.dict es ep):Walks prog w A I [I,d] [I] es.size (cX7 es) (λi h=>h.IsKeyIter I d i es.size ep /\ h.get? d=some o) where
 sub:=λb hb=>by rw[List.mem_singleton.mp hb];exact .head _
 frame:=λy_ y_ y_ st hk=>⟨st.1.at λo e=>hk I (.head _) o e,hk d (.tail _ (.head _)) o st.2⟩
 item:=λi s Q E hi st hQ=>by
  refine aW4 st.1 st.2 hdat hi λh' hit' hs'=>?_;exact hQ _ h' s.toks ⟨_,Array.getElem?_eq_getElem hi,rfl⟩ ⟨hit',hs'.extBut d o hne st.2⟩ λb o hb e=>hs'.extBut b o (λh=>hb (by rw[h];exact .head _)) e
 done:=λs Q E st hQ=>bG9 hh st.1 st.2 hdat (Nat.le_refl _) λh' he'=>hQ h' s.toks λb o hb e=>he' b o (λh=>hb (by rw[h];exact .head _)) e
 self:=λy_ y_ y_ y_ st hQ=>wpAny_pyIter_keyiter st.1 hQ
theorem kraw(hd:(d == sysModules)=false)(hc:o.ExactDict)(hdat:o.data=.dict es ep):KdlSrc prog w "dict" d d es.size (cX7 es) (λh=>h.get? d=some o) where
 type:=λy_ hm=>⟨o,hm,hc.1⟩
 there:=λy_ hm=>⟨Heap.lt_size hm,Heap.lt_size hm⟩
 keep:=λy_ y_ hm hk=>hk d (.inl rfl) o hm
 notList:=by decide
 notTuple:=by decide
 hint:=λy_ y_ y_ y_ hm hq=>kdl_hint_dict ⟨o,hm,hc.1⟩ hq
 iter:=λy_ y_ hh hm=>⟨_,_,(λy_ y_ hq=>aW5 hd hm hc hdat hq),bX1 hh (Nat.ne_of_lt (Heap.lt_size hm)) hdat,⟨⟨_,Heap.get?_push_size _ rfl,rfl,rfl⟩,Heap.get?_push_of_some _ hm⟩⟩
theorem bL1{acc:Array Value}(h:ItemsOf (cX7 es) acc es.size):acc.toList=es.toList.map (·.key):=by
 refine List.ext_getElem? λi=>?_;rw[Array.getElem?_toList,List.getElem?_map,Array.getElem?_toList];rcases Nat.lt_or_ge i acc.size with q | q
 ·refine e1a2 (h.2 i _ (Array.getElem?_eq_getElem q)) λe h1 h2=>?_
  rw[Array.getElem?_eq_getElem q,h1,h2];rfl
 ·rw[Array.getElem?_eq_none q,Array.getElem?_eq_none (by rw[<- h.1];exact q)];rfl
end
end Mini.Internal
variable{o:Expr}
namespace Mini.Internal
open PySem PySem.W PyProof.Rows
noncomputable def dM8:Bi->Value
 |.len=>.builtin "len"
 |.abs=>.builtin "abs"
 |.int=>.type "int"
 |.str=>.type "str"
 |.list=>.type "list"
 |.tuple=>.type "tuple"
 |.dict=>.type "dict"
 |.sorted=>.builtin "sorted"
 |.max2=>.builtin "max"
 |.min2=>.builtin "min"
 |.max1=>.builtin "max"
 |.lenset=>.none
section
variable{K:Frag}{own:List Addr}
theorem bG0{us:Array Value}{tk:Nat}(H:HR W s.heap io m)(hk:∀b o,s.heap.get? b=some o->h'.get? b=some o)(hD:h'.get? D=some (eZ us c))(hus:VRs W s.heap io L us.toList)(hl:L.length <= lid)(hD0:s.heap.get? D=none):
  NP W own fr s io m (VP W) (alloc (.list L) m) (.ref D) { s with heap:=h',toks:=tk }:=by
 have st:Step own fr s.heap io m h' io m:=.of_keeps H hk;have nf:¬dA io D:=λf=>by
  refine e1a2 (H.foot f) λo ho y_=>?_;rw[hD0]at ho;injection ho
 have basD:W.base.get? D=none:=by
  cases q:W.base.get? D with
  |none=>rfl
  |some o=>rw[H.keep _ _ q]at hD0;injection hD0
 refine e0a3 (dC7 st (H.of_keeps hk) hD (hus.step st) hl nf hD0 basD) λa1 a2 a3=>?_;exact⟨_,_,_,rfl,a1,a2,a3,rfl,rfl⟩
theorem aC1(hk:k <= lid):(k:Int) < 2 ^ 63:=Int.lt_of_le_of_lt (Int.ofNat_le.mpr hk) (by decide)
theorem cC9(k:IntsAre us is):VRs W h io (is.map V.int) us:=by
 induction k with
 |nil=>exact .nil
 |cons n t y_ ih=>exact .cons (.int n t) ih
theorem aE1(x:Int):∀l:List Int,(Mini.Internal.insI x l).Perm (x::l)
 |[]=>.refl _
 |y::r=>by
  unfold Mini.Internal.insI;split
  ·exact .refl _
  ·exact((aE1 x r).cons y).trans (.swap _ _ _)
theorem aA6:∀ns,(Mini.Internal.sortI ns).Perm ns
 |[]=>.refl _
 |x::r=>(aE1 x _).trans ((aA6 r).cons x)
theorem aJ8(x:Int):∀l:List Int,l.Pairwise (· <= ·)->(Mini.Internal.insI x l).Pairwise (· <= ·)
 |[],_=>by simp[Mini.Internal.insI]
 |y::r,h=>by
  refine e0a2 (List.pairwise_cons.mp h) λh1 h2=>?_;unfold Mini.Internal.insI;split
  ·refine List.pairwise_cons.mpr ⟨λz hz=>?_,h⟩
   rcases List.mem_cons.mp hz with rfl | hz
   ·assumption
   ·have:=h1 z hz;lia
  ·refine List.pairwise_cons.mpr ⟨λz hz=>?_,aJ8 x r h2⟩
   rcases List.mem_cons.mp ((aE1 x r).mem_iff.mp hz)with rfl | hz
   ·lia
   ·exact h1 z hz
theorem aE5:∀ns,(Mini.Internal.sortI ns).Pairwise (· <= ·)
 |[]=>.nil
 |x::r=>aJ8 x _ (aE5 r)
theorem bZ1{ns':List Int}(hp:ns'.Perm ns)(hs:ns'.Pairwise (· <= ·)):ns'=Mini.Internal.sortI ns:=
 List.Perm.eq_of_pairwise (λy_ y_ y_ y_ a b=>Int.le_antisymm a b) hs (aE5 ns) (hp.trans (aA6 ns).symm)
theorem int_dict(H:HR W s.heap io m){k:Nat}{p:Addr×Addr}{kvs:List (Ky×V)}{e:Nat}{is:List Int}(hi:io[k]?=some p)(hm:m[k]?=some (.dict kvs e))(hk:aA0 kvs=some is):
  ∃(l:List (Int×Value)) (ep:Nat),s.heap.DictAt (intKind W.prog W.w) p.1 l ep /\ l.map (·.1)=is /\ is.length=kvs.length /\ kvs.length <= lid:=by
 refine hide λG_ g_=>?_;obtain⟨y_,o,es,c,h1,h2,h3,h4,h5,h6⟩:=H.obj _ _ _ hi hm;have keys:∀(kvs:List (Ky×V)) (is:List Int),aA0 kvs=some is->kvs.map (·.1)=is.map Ky.int:=by
  intro kvs
  induction kvs with
  |nil=>intro is h;(refine aF h λz1=>?_;clear h;subst z1);rfl
  |cons q r ih=>
   intro is h;obtain⟨q1,q2⟩:=q
   cases (q1) <;> first | (exact nomatch (show(none:Option (List Int))=some is from h)) | skip
   cases w:aA0 r with
   |none=>have h:(aA0 r).map _=some is:=h;rw[w]at h;injection h
   |some js=>
    have h:(aA0 r).map _=some is:=h;rw[w]at h;simp only[Option.map_some,Option.some.injEq]at h;rw[<- h];simp[ih js w]
 have ke:=keys kvs is hk;have hall:∀q∈kvs,∃j,q.1=Ky.int j:=λq hq=>by
  have:q.1∈kvs.map (·.1):=List.mem_map.mpr ⟨q,hq,rfl⟩;rw[ke]at this;refine e1a2 (List.mem_map.mp this) λj y_ e=>?_;exact⟨j,e.symm⟩
 refine e1a3 (h4.pairs intEmb hall) λl l1 l2 l3=>?_;refine g_ ?_;clear g_ G_;have l4:l.map (·.1)=is:=by
  rw[ke]at l2;have:(l.map (·.1)).map Ky.int=is.map Ky.int:=by rw[List.map_map];exact l2
  exact(List.map_inj_right λy_ y_ e=>dD2 e).mp this
 refine⟨l,c,⟨o,es,h1,h2,h3,?_,l1,?_⟩,l4,?_,h6⟩
 ·intro e he
  exact h4.keysOf intEmb hall e (by simpa using he)
 ·rw[l4]
  rw[ke]at h5;exact(List.pairwise_map.mp h5).imp λh q=>h (by rw[q])
 ·have:=congrArg List.length ke
  simpa using this.symm
noncomputable def dD3:Bi->Bool
 |.len | .abs | .list | .sorted | .min2 | .dict=>true
 |_=>false
set_option tactic.hygienic true in
theorem cI6{l:List (Int×Value)}{acc:Array Value}(h:ItemsOf (λi v=>∃k x,l[i]?=some (k,x) /\ (intKind W.prog W.w).is k v=true) acc l.length):IntsAre acc.toList (l.map (·.1)):=by
 have key:∀(l:List (Int×Value)) (vs:List Value),vs.length=l.length->(∀(j:Nat) (v:Value),vs[j]?=some v->∃k x,l[j]?=some (k,x) /\ (intKind W.prog W.w).is k v=true)->IntsAre vs (l.map (·.1)):=by
  intro l
  induction l with
  |nil=>intro vs hl _;cases vs with
   |nil=>exact .nil
   |cons=>injection hl
  |cons q r ih=>
   intro vs hl hv
   cases vs with
   |nil=>injection hl
   |cons v vs=>
    refine e2a2 (hv 0 v rfl) λk x e1 e2=>?_;simp at e1;rw[e1];have:∃t,v=.int k t:=by
     cases (v) <;> simp[intKind,Value.isInt]at e2
     rename_i j t;exact⟨t,by rw[e2]⟩
    refine e1a1 this λt z71=>?_;rw[z71];exact .cons k t (ih vs (by simpa using hl) λj v e=>by simpa using hv (j+1) v (by simpa using e))
 exact key l acc.toList (by simpa using h.1) λj v e=>h.2 j v (by rw[<- Array.getElem?_toList];exact e)
theorem cM3{Pr:Bi->List V->Prop}(l1:∀s,Pr .len [.str s])(l2:∀xs,Pr .len [.tup xs])(l3:∀ns,Pr .len [.scr ns])(l4:∀n,Pr .len [.ref n])(a1:∀i,Pr .abs [.int i])(i1:∀c,Pr .int [.bool c])(i2:∀s,Pr .int [.str s])(s1:∀i,Pr .str [.int i])(t1:∀xs,Pr .list [.tup xs])(t2:∀n,Pr .list [.ref n])(o1:∀n,Pr .sorted [.ref n])(u1:∀n,Pr .tuple [.ref n])(d1:∀n,Pr .dict [.ref n])(x1:∀i j,Pr .max2 [.int i,.int j])(x2:∀i j,Pr .min2 [.int i,.int j])(bad:∀b vs,dD3 b=false \/ biV b vs=(λy_=>.bad)->Pr b vs)(b:Bi)(vs:List V):Pr b vs:=by
 cases hb:dD3 b with
 |false=>exact bad b vs (.inl hb)
 |true=>
  cases vs with
  |nil=>exact bad b [] (.inr (by cases (b) <;> rfl))
  |cons v vs=>
   cases vs with
   |nil=>
    cases (b) <;> first | ((first|(injection hb;done)|cases (hb));done) | skip
    all_goals cases (v) <;> first | (exact l1 _) | (exact l2 _) | (exact l3 _) | (exact l4 _) | (exact a1 _) | (exact i1 _) | (exact i2 _) | (exact s1 _) | (exact t1 _) | (exact t2 _) | (exact o1 _) | (exact u1 _) | (exact d1 _) | (exact bad _ _ (.inr rfl))
   |cons v' vs=>
    cases vs with
    |nil=>
     cases (b) <;> first | (exact bad _ _ (.inr rfl)) | skip
     all_goals cases (v) <;> first | (exact bad _ _ (.inr rfl)) | skip
     all_goals cases (v') <;> first | (exact x1 _ _) | (exact x2 _ _) | (exact bad _ _ (.inr rfl))
    |cons v'' vs=>exact bad _ _ (.inr (by cases (b) <;> first | rfl | (cases (v) <;> first | rfl | (cases (v') <;> rfl))))
set_option tactic.hygienic true in
theorem dM7(ok:WOk W)(hh:A.handled=none){b:Bi}(hb:dD3 b=true):SiF W A fs (dM8 b) (biV b):=by
 intro s io m vs us H G hu
 revert us
 revert hb
 refine cM3 (Pr:=λb vs=>dD3 b=true->∀us,VRs W s.heap io vs us->Si W [] A fs (VP W) (call (dM8 b) us) s io m (biV b vs m)) ?_ ?_ ?_ ?_ ?_ ?_ ?_ ?_ ?_ ?_ ?_ ?_ ?_ ?_ ?_ ?_ b vs
 ·intro x hb us hu
  refine VRs.d1 hu λy_ k1=>?_;refine VR.dStr k1 λt hx=>?_;show Si W [] A fs (VP W) _ s io m (if x.length <= lid then .ok (.int x.length) m else .bad)
  split
  ·rename_i hl
   exact λy_=>P.len_str (by have:=aC1 hl;lia) (bR H (.int _ _))
  ·exact .bad
 ·intro xs hb us hu
  refine VRs.d1 hu λy_ k1=>?_;refine VR.dTup k1 λa ws c ha hx=>?_;show Si W [] A fs (VP W) _ s io m (if xs.length <= lid then .ok (.int xs.length) m else .bad)
  split
  ·rename_i hl
   have e:ws.size=xs.length:=hx.size;have:=PyProof.Rows.len_tuple (prog:=W.prog) (w:=W.w) (A:=A) (E:=XP W [] fs s io m (.ok (.int xs.length) m:Res V)) (s:=s) (Q:=NP W [] (frs fs) s io m (VP W) (.ok (.int xs.length) m)) ⟨_,ha,rfl,c,rfl⟩ (by rw[e];exact aC1 hl) (by rw[e];exact bR H (.int _ _));exact λy_=>this
  ·exact .bad
 ·intro ns hb us hu
  refine VRs.d1 hu λy_ k1=>?_;refine VR.dScr k1 λl o ws c hl hc hd hi hn=>?_;have e:ws.size=ns.length:=by simpa using hi.length
  refine λy_=>Calls.call_len_list ⟨o,H.keep _ _ hl,hc,c,hd⟩ (by rw[e];exact aC1 hn) ?_;rw[e];exact bR H (.int _ _)
 ·intro k hb us hu
  refine VRs.d1 hu λy_ k1=>?_;refine VR.dRef k1 λa d hi=>?_;show Si W [] A fs (VP W) _ s io m (match m[k]? with | some (.list xs)=>.ok (.int xs.length) m | _=>.bad)
  split
  ·rename_i xs hm
   obtain⟨y_,ws,c,h1,h2,h3⟩:=H.obj _ _ _ hi hm;have e:ws.size=xs.length:=h2.size;refine λy_=>Calls.call_len_list ⟨_,h1,rfl,c,rfl⟩ (by rw[e];exact aC1 h3) ?_;rw[e];exact bR H (.int _ _)
  ·exact .bad
 ·intro i hb us hu
  refine VRs.d1 hu λy_ k1=>?_;refine VR.dInt k1 λy_=>?_;exact λy_=>PyProof.Rows.call_abs_int λu tk=>bR H (.int _ _)
 ·intro i hb;injection hb
 ·intro x hb us hu;exact .bad
 ·intro i hb;injection hb
 ·intro xs hb us hu;exact .bad
 ·intro k hb us hu
  refine VRs.d1 hu λy_ k1=>?_;refine VR.dRef k1 λa d hi=>?_;show Si W [] A fs (VP W) _ s io m (match m[k]? with | some (.list xs)=>alloc (.list xs) m | some (.dict kvs _)=>alloc (.list (kvs.map λp=>p.1.val)) m | _=>.bad)
  split
  ·rename_i xs hm
   obtain⟨y_,ws,c,h1,h2,h3⟩:=H.obj _ _ _ hi hm;refine λy_=>call_list_seq a (.inl rfl) h1 rfl rfl (λh' c' hk hD=>?_) (by rw[h2.size];exact aL h3);exact bG0 (tk:=s.toks) H hk hD h2 h3 (aO _)
  ·rename_i kvs e hm
   obtain⟨y_,o,es,ep,h1,h2,h3,h4,h5⟩:=H.obj _ _ _ hi hm;have ky:=h4.keys;have el:es.size=kvs.length:=by have:=ky.length;simpa using this
   refine λy_=>kdl_call (kraw (H.notSys ok ⟨_,List.mem_of_getElem? hi,.inl rfl⟩) h2 h3) hh h1 (by rw[el];exact aL h5.2) λh' tk acc c' hk' hD hacc=>?_;exact bG0 (tk:=tk) H hk' hD (by rw[bL1 hacc];exact ky) (by rw[List.length_map];exact h5.2) (aO _)
  ·exact .bad
 ·intro k hb us hu
  refine VRs.d1 hu λy_ k1=>?_;refine VR.dRef k1 λa d hi=>?_;show Si W [] A fs (VP W) _ s io m (match m[k]? with | some (.dict kvs _)=>(match aA0 kvs with | some is=>if is.length < 64 \/ is.Pairwise (· < ·)then alloc (.list ((sortI is).map .int)) m else .bad | Option.none=>.bad) | _=>.bad)
  split
  ·rename_i kvs e hm
   split
   ·rename_i is hk
    split
    ·rename_i h64
     refine e2a4 (int_dict H hi hm hk) λl ep q1 q2 q3 q4=>?_;have e:l.length=kvs.length:=by rw[<- q3,<- q2];simp
     intro y_;refine Calls.call_function_entry kind_sorted plain_sorted entry_sorted (args_sorted1 _) ?_;unfold Builtin.«sorted»;refine wpAny_bind (m:=checkCount "sorted" 1 1 _) (wpAny_pure ?_);refine wpAny_bind (kdu_collect (A:=A.in1) (kdl_dict (H.notSys ok ⟨_,List.mem_of_getElem? hi,.inl rfl⟩)) hh q1 (by rw[e];exact aL q4) λh' tk acc hk' hacc=>?_);have ia:=cI6 hacc;rw[q2]at ia;have il:is.length=kvs.length:=q3;have al:acc.toList.length=kvs.length:=by
      have:acc.size=l.length:=hacc.1;simp only[Array.length_toList];lia
     have hl:acc.toList.length < 64 \/ is.Pairwise (· < ·):=h64.imp (λq=>by lia) id;have sl:acc.toList.length <= sizeLine:=by rw[al];exact aL q4
     refine wpAny_bind (wpAny_newList ?_ sl);have hoL:(h'.push (seqObj "list" acc.toList.toArray 0)).get? h'.objs.size=some (seqObj "list" acc.toList.toArray 0):=Heap.get?_push_size _ rfl;refine wpAny_bind (wpAny_holding (wpAny_call_entry slot_list_sort ⟨_,hoL,rfl⟩ entry_list_sort (aW2 hoL ia hl sl λout ns' a1 a2 a3=>⟨_,rfl,?_⟩) (args_list_sort _)));refine wpAny_pure ⟨_,rfl,?_⟩;rw[bZ1 a2 a3]at a1;refine e1a1 (sortedHeap_at (out:=out) hoL) λce hat=>?_;have dead:s.heap.get? h'.objs.size=none:=by
      cases q:s.heap.get? h'.objs.size with
      |none=>rfl
      |some o=>have:=hk' _ _ q;rw[aO]at this;injection this
     refine bG0 (tk:=tk) H (λb o e=>?_) hat (cC9 a1) (by rw[List.length_map,(aA6 is).length_eq,il];exact q4) dead;have e1:=aM (seqObj "list" acc.toList.toArray 0) b o (hk' b o e);rw[sortedHeap_old (Nat.ne_of_lt (Heap.lt_size (hk' b o e))) (Heap.lt_size e1)];exact e1
    ·exact .bad
   ·exact .bad
  ·exact .bad
 ·intro i hb;injection hb
 ·intro k hb us hu
  refine VRs.d1 hu λy_ k1=>?_;refine VR.dRef k1 λa d hi=>?_;show Si W [] A fs (VP W) _ s io m (match m[k]? with | some (.list xs)=>(match aO0 xs with | some l=>(if (l.map (·.1)).Nodup then alloc (.dict (l.map λx=>(.int x.1,x.2)) 0) m else .bad) | Option.none=>.bad) | _=>.bad)
  cases hm:m[k]? with
  |none=>exact .bad
  |some o=>
   cases o with
   |list xs=>
    show Si W [] A fs (VP W) _ s io m (match aO0 xs with | some l=>(if (l.map (·.1)).Nodup then alloc (.dict (l.map λx=>(.int x.1,x.2)) 0) m else .bad) | Option.none=>.bad)
    cases hp:aO0 xs with
    |none=>exact .bad
    |some l=>
     show Si W [] A fs (VP W) _ s io m (if (l.map (·.1)).Nodup then alloc (.dict (l.map λx=>(.int x.1,x.2)) 0) m else .bad);by_cases hk:(l.map (·.1)).Nodup
     ·rw[if_pos hk];exact bM0 ok hh H hi hm hp hk
     ·rw[if_neg hk];exact .bad
   |_=>exact .bad
 ·intro i j hb;injection hb
 ·intro i j hb us hu
  refine VRs.d2 hu λy_ y_ k1 k2=>?_;refine VR.dInt k1 λy_=>?_;refine VR.dInt k2 λy_=>?_;show Si W [] A fs (VP W) _ s io m (.ok (.int (if j < i then j else i)) m);refine λy_=>min_two_ints hh λh' tk hk=>?_;have st:Step [] (frs fs) s.heap io m h' io m:=.of_keeps H hk
  split <;> exact⟨_,m,io,rfl,st,H.of_keeps hk,.int _ _,rfl,rfl⟩
 ·intro b vs hq hb us hu
  rcases hq with hq | hq
  ·rw[hq]at hb;injection hb
  ·rw[hq];exact .bad
end
end Mini.Internal
variable{L:List Int}
namespace Mini.Internal
open PySem PySem.W PyProof.Rows
noncomputable def bS1:Nat->String
 |0=>"list"
 |1=>"dict"
 |_=>"str"
noncomputable def bS2:Sm->String
 |.append=>"append"
 |.pop=>"pop"
 |.clear=>"clear"
 |.get=>"get"
 |.join=>"join"
 |.split=>"split"
 |.count=>"count"
 |.index=>"index"
noncomputable def smId(k:Nat)(n:Sm):String:=match k,n with
 |0,.append=>"list.append"
 |0,.pop=>"list.pop"
 |0,.count=>"list.count"
 |0,.index=>"list.index"
 |1,.pop=>"dict.pop"
 |1,.get=>"dict.get"
 |2,.split=>"str.split"
 |0,.clear=>"list.clear"
 |1,.clear=>"dict.clear"
 |_,_=>"str.join"
section
variable{K:Frag}{own:List Addr}
theorem eG{P:Heap->Io->β->α->Prop}(H:HR W s.heap io m){i:Nat}{p:Addr×Addr}{xs xs':List V}(hi:io[i]?=some p)(hm:m[i]?=some (.list xs)){h':Heap}{tk:Nat}(hs:Heap.SameBut p.1 s.heap h'){us':Array Value}{c':Nat}(h1:h'.get? p.1=some (eZ us' c'))(h2:VRs W s.heap io xs' us'.toList)(h3:xs'.length <= lid){v:β}{u:α}(hP:∀st:Step own fr s.heap io m h' io (m.set i (.list xs')),P h' io v u):NP W own fr s io m P (.ok v (m.set i (.list xs'))) u { s with heap:=h',toks:=tk }:=by
 obtain⟨hpp,y_⟩:=H.obj _ _ _ hi hm;have hk:∀b o,b≠p.1->b≠p.2->s.heap.get? b=some o->h'.get? b=some o:=λb o q y_ ho=>eK hs b o q ho;have hd:∀kv ep,MObj.list xs=.dict kv ep->∃kvs2 e2,MObj.list xs'=.dict kvs2 e2 /\ ep < e2:=λkv ep q=>by injection q
 have st:Step own fr s.heap io m h' io (m.set i (.list xs')):=aG1 H hi hm hk ⟨_,h1⟩ ⟨_,hpp▸h1⟩ hd;exact⟨v,_,io,rfl,st,H.set hi hm hk hd ⟨_,h1⟩ ⟨_,hpp▸h1⟩ ⟨hpp,us',c',h1,h2.step st,h3⟩,hP st,rfl,rfl⟩
set_option tactic.hygienic true in
theorem cF1{l:List Str}(h:eI xs=some l)(k:VRs W s.heap io xs us):∃ts:List (Str×Tok),us=strValues ts /\ ts.map (·.1)=l /\ ∀x∈l,PyData.strOk x=true:=by
 induction xs generalizing l us with
 |nil=>rw[k];(refine aF h λz1=>?_;clear h;subst z1);exact⟨[],rfl,rfl,λy_ q=>nomatch q⟩
 |cons x xs ih=>
  refine VRs.dCons k λy_ y_ k1 k2=>?_
  ·
   induction k1 using VR.elim <;> first | (exact nomatch (show(none:Option (List Str))=some _ from h)) | skip
   rename_i y t hy
   cases q:eI xs with
   |none=>have h:(eI xs).map _=some l:=h;rw[q]at h;injection h
   |some js=>
    have h:(eI xs).map _=some l:=h;rw[q]at h;simp only[Option.map_some,Option.some.injEq]at h;subst h;refine e1a3 (ih q k2) λts a b c=>?_;refine⟨(y,t)::ts,by rw[a];rfl,by simp[b],λz hz=>?_⟩;rcases List.mem_cons.mp hz with rfl | hz
    ·exact hy
    ·exact c z hz
theorem cK0(sep:Str)(l:List Str):Txt.join sep l=aM3 sep l:=by
 cases l with
 |nil=>rfl
 |cons x r=>
  induction r generalizing x with
  |nil=>rfl
  |cons y r ih=>exact ih (x++sep++y)
theorem cI9{sep:Str}{l:List Str}(hs:PyData.strOk sep=true)(hl:∀x∈l,PyData.strOk x=true):PyData.strOk (aM3 sep l)=true:=by
 cases l with
 |nil=>show PyData.strOk Str.empty=true;simp[PyData.strOk,Str.empty]
 |cons x r=>
  have key:∀(r:List Str) (x:Str),PyData.strOk x=true->(∀y∈r,PyData.strOk y=true)->PyData.strOk (r.foldl (λacc p=>acc++sep++p) x)=true:=by
   intro r
   induction r with
   |nil=>intro x hx _;exact hx
   |cons y r ih=>intro x hx hr;exact ih _ (fB (fB hx hs) (hr y (.head _))) λz hz=>hr z (.tail _ hz)
  exact key r x (hl x (.head _)) λy hy=>hl y (.tail _ hy)
theorem cN1{sm:Sm}(h:smH k sm=true):(k=0 /\ sm=.append) \/ (k=0 /\ sm=.pop) \/ (k=2 /\ sm=.join) \/ (k=1 /\ sm=.pop) \/ (k=0 /\ sm=.clear) \/ (k=1 /\ sm=.clear):=by
 rcases k with _ | _ | _ | k <;> cases (sm) <;> first | (exact .inl ⟨rfl,rfl⟩) | (exact .inr (.inl ⟨rfl,rfl⟩)) | (exact .inr (.inr (.inl ⟨rfl,rfl⟩))) | (exact .inr (.inr (.inr (.inl ⟨rfl,rfl⟩)))) | (exact .inr (.inr (.inr (.inr (.inl ⟨rfl,rfl⟩))))) | (exact .inr (.inr (.inr (.inr (.inr ⟨rfl,rfl⟩))))) | (exact absurd h Bool.false_ne_true)
theorem Si.res0{P:Heap->Io->α->β->Prop}{t:Sem β}{R R':Res α}(x:Si W own A fs P t s io m R)(e:R'=R):Si W own A fs P t s io m R':=e▸x
theorem dG3{n:Sm}{o:Option MObj}(hm:m[q]?=o):cU 0 (.ref q) n vs m=(match (generalizing:=false) o with | some (.list xs)=>bK9 q xs n vs m | _=>.bad):=by subst hm;rfl
theorem bA3{o:V}{n:Sm}{t:Sem Value}(kx:VR W s.heap io o u)(h:∀(q:Nat) (a d:Addr) (xs:List V),o=.ref q->u=.ref a->io[q]?=some (a,d)->m[q]?=some (.list xs)->Si W [] A fs (VP W) t s io m (bK9 q xs n vs m)):Si W [] A fs (VP W) t s io m (cU 0 o n vs m):=by
 induction kx using VR.elim with
 | @ref q a d hi=>
  cases hm:m[q]? with
  |none=>rw[dG3 hm];exact .bad
  |some o=>
   rw[dG3 hm]
   cases o with
   |list xs=>exact h q a d xs rfl rfl hi hm
   |_=>exact .bad
 |_=>exact .bad
set_option tactic.hygienic true in
theorem dG2(ok:WOk W){k:Nat}{sm:Sm}(hH:smH k sm=true)(H:HR W s.heap io m){x:V}{u:Value}{vs:List V}{us:List Value}(kx:VR W s.heap io x u)(hu:VRs W s.heap io vs us):
  Si W [] A fs (VP W) (call (.builtin (smId k sm)) (u::us)) s io m (cU k x sm vs m):=by
 rcases cN1 hH with⟨rfl,rfl⟩ | ⟨rfl,rfl⟩ | ⟨rfl,rfl⟩ | ⟨rfl,rfl⟩ | ⟨rfl,rfl⟩ | ⟨rfl,rfl⟩
 ·refine bA3 kx λq a d xs ho hu' hi hm=>?_
  subst ho;subst hu';obtain⟨y_,ws,c,h1,h2,h3⟩:=H.obj _ _ _ hi hm
  induction hu using VRs.elim with
  |nil=>exact .bad
  |cons k1 k2=>
   induction k2 using VRs.elim with
   |cons y_ y_=>exact .bad
   |nil=>
    show Si W [] A fs (VP W) _ s io m (if xs.length < lid then _ else _)
    split
    ·rename_i hl
     refine λy_=>wpAny_list_append_plain ⟨c,h1⟩ (λh' ⟨c',hD⟩ hs=>?_) (by rw[h2.size];exact aL h3);exact eG (tk:=s.toks) H hi hm hs hD (by rw[Array.toList_push];exact h2.snoc k1) (by simp;lia) λy_=>.none
    ·exact .bad
 ·refine bA3 kx λq a d xs ho hu' hi hm=>?_
  rw[ho];subst hu';obtain⟨y_,ws,c,h1,h2,h3⟩:=H.obj _ _ _ hi hm
  induction hu using VRs.elim with
  |nil=>exact .bad
  |cons k1 k2=>
   induction k2 using VRs.elim with
   |cons y_ y_=>exact .bad
   |nil=>
    induction k1 using VR.elim with
    |int j t=>
     show Si W [] A fs (VP W) _ s io m (if 0 <= j then(match xs[j.toNat]? with | some v=>if j.natAbs < 2 ^ 60 then .ok v (m.set q (.list (xs.eraseIdx j.toNat)))else .bad | Option.none=>.bad)else .bad);by_cases hj:0 <= j
     ·rw[if_pos hj]
      cases hv:xs[j.toNat]? with
      |none=>exact .bad
      |some v=>
       show Si W [] A fs (VP W) _ s io m (if j.natAbs < 2 ^ 60 then _ else _);by_cases hlt:j.natAbs < 2 ^ 60
       ·rw[if_pos hlt]
        refine e1a2 (h2.get hv) λy hy ky=>?_;have hlen:j.toNat < xs.length:=(List.getElem?_eq_some_iff.mp hv).1;have hy':ws[j.toNat]?=some y:=by rw[<- Array.getElem?_toList];exact hy
        have hsz:ws.size=xs.length:=h2.size;refine λy_=>call_meets PySem.F.slot_list_pop ⟨_,h1,rfl⟩ PySem.F.entry_list_pop (PySem.F.args_list_pop_2 _ _) (PySem.MeetsSeq.list_pop_at a ws c j t j.toNat y ?_ ?_ hy' (by rw[hsz];exact aL h3)) ⟨h1,?_⟩
        ·unfold Builtin.List.listFitsIndex;simp;lia
        ·unfold seqIndex?
         rw[hsz];simp only[show ¬j < 0 from by lia,if_false];rw[if_pos (by simp;lia)]
        ·have q:=PySem.IsL.update h1 (λxs=>xs.eraseIdxIfInBounds j.toNat)
         have e:(ws.eraseIdxIfInBounds j.toNat).toList=ws.toList.eraseIdx j.toNat:=by
          unfold Array.eraseIdxIfInBounds;rw[dif_pos (by lia)];simp
         exact eG (tk:=s.toks) H hi hm (Heap.SameBut.update ..) q (by rw[e];exact h2.eraseIdx _) (by have:=List.length_eraseIdx_le xs j.toNat;lia) λst=>ky.step st
       ·rw[if_neg hlt];exact .bad
     ·rw[if_neg hj];exact .bad
    |_=>exact .bad
 ·induction kx using VR.elim with
  |str z tz hz=>
   induction hu using VRs.elim with
   |nil=>exact .bad
   |cons k1 k2=>
    induction k2 using VRs.elim with
    |cons y_ y_=>exact .bad
    |nil=>
     induction k1 using VR.elim with
     | @ref q a d hi=>
      show Si W [] A fs (VP W) _ s io m (match m[q]? with | some (.list xs)=>(match eI xs with | some l=>if fV z l <= lid then .ok (.str (aM3 z l)) m else .bad | Option.none=>.bad) | _=>.bad)
      cases hm:m[q]? with
      |none=>exact .bad
      |some o=>
       cases o with
       |list xs=>
        cases hl:eI xs with
        |none=>show Si W [] A fs (VP W) _ s io m (match eI xs with | some l=>if fV z l <= lid then .ok (.str (aM3 z l)) m else .bad | Option.none=>.bad);rw[hl];exact .bad
        |some l=>
         show Si W [] A fs (VP W) _ s io m (match eI xs with | some l=>if fV z l <= lid then .ok (.str (aM3 z l)) m else .bad | Option.none=>.bad);rw[hl];show Si W [] A fs (VP W) _ s io m (if fV z l <= lid then .ok (.str (aM3 z l)) m else .bad);by_cases hlen:fV z l <= lid
         ·rw[if_pos hlen]
          obtain⟨y_,ws,c,h1,h2,h3⟩:=H.obj _ _ _ hi hm;refine e1a3 (cF1 (s:=s) hl h2) λts e1 e2 e3=>?_;have htl:Builtin.Str.tooLong ((ts.map (·.1)).toArray.foldl (·+·.length+z.length) 0)=false:=by
           rw[e2];have:sizeLine=16777216:=sizeLine_eq;have q:(l.toArray.foldl (·+·.length+z.length) 0)=fV z l:=by simp[fV]
           rw[q];unfold Builtin.Str.tooLong;have:lid=4194304:=rfl;simp;lia
          refine λy_=>call_meets PySem.F.slot_str_join (typeIs_str _ _ _) PySem.F.entry_str_join (PySem.F.args_str_join_2 _ _) (meets_str_join_list z tz a ts htl) ⟨⟨_,h1,rfl,c,?_⟩,post_join ts ⟨joinFit_length htl,λt' k'=>?_⟩⟩
          ·show Data.seq ws c=_
           rw[<- e1,Array.toArray_toList]
          ·rw[e2,cK0]
           exact bR H (.str _ _ (cI9 hz e3))
         ·rw[if_neg hlen];exact .bad
       |_=>exact .bad
     |_=>exact .bad
  |_=>exact .bad
 ·induction kx using VR.elim with
  | @ref q a d hi=>
   cases hm:m[q]? with
   |none=>exact Si.res0 .bad (by show(match m[q]? with | some (.dict kvs e)=>aK7 q kvs e .pop vs m | _=>.bad)=_;rw[hm])
   |some o=>
    cases o with
    |dict kvs e=>
     refine Si.res0 (R:=aK7 q kvs e .pop vs m) ?_ (by show(match m[q]? with | some (.dict kvs e)=>aK7 q kvs e .pop vs m | _=>.bad)=_;rw[hm])
     induction hu using VRs.elim with
     |nil=>exact .bad
     |cons k1 k2=>
      induction k2 using VRs.elim with
      |cons y_ y_=>exact .bad
      |nil=>
       induction k1 using VR.elim with
       |int j t=>
        by_cases hs:aN (.int j) kvs=true
        ·cases hl:look (.int j) kvs with
         |none=>exact Si.res0 .bad (by show(if aN (.int j) kvs=true then(match look (.int j) kvs with | some v=>Res.ok v (m.set q (.dict (fL (.int j) kvs) (e+1))) | Option.none=>.bad)else .bad)=_;rw[if_pos hs,hl])
         |some v=>exact Si.res0 (cG4 H hi hm hs hl) (by show(if aN (.int j) kvs=true then(match look (.int j) kvs with | some v=>Res.ok v (m.set q (.dict (fL (.int j) kvs) (e+1))) | Option.none=>.bad)else .bad)=_;rw[if_pos hs,hl])
        ·exact Si.res0 .bad (if_neg hs)
       |_=>exact .bad
    |_=>exact Si.res0 .bad (by show(match m[q]? with | some (.dict kvs e)=>aK7 q kvs e .pop vs m | _=>.bad)=_;rw[hm])
  |_=>exact .bad
 ·refine bA3 kx λq a d xs ho hu' hi hm=>?_
  subst ho;subst hu'
  induction hu using VRs.elim with
  |cons y_ y_=>exact .bad
  |nil=>
   obtain⟨y_,ws,c,h1,h2,h3⟩:=H.obj _ _ _ hi hm;refine λy_=>call_meets PySem.F.slot_list_clear ⟨_,h1,rfl⟩ PySem.F.entry_list_clear (PySem.F.args_list_clear_1 _) (PySem.AutoSeq1.list_clear_list_0 a ws c (by rw[h2.size];exact aL h3)) ⟨h1,?_⟩;exact eG (tk:=s.toks) H hi hm (Heap.SameBut.update ..) (PySem.IsL.update h1 (λy_=>#[])) .nil (Nat.zero_le _) λy_=>.none
 ·induction kx using VR.elim with
  | @ref q a d hi=>
   cases hm:m[q]? with
   |none=>exact Si.res0 .bad (by show(match m[q]? with | some (.dict kvs e)=>aK7 q kvs e .clear vs m | _=>.bad)=_;rw[hm])
   |some o=>
    cases o with
    |dict kvs e=>
     refine Si.res0 (R:=aK7 q kvs e .clear vs m) ?_ (by show(match m[q]? with | some (.dict kvs e)=>aK7 q kvs e .clear vs m | _=>.bad)=_;rw[hm])
     induction hu using VRs.elim with
     |cons y_ y_=>exact .bad
     |nil=>
      by_cases hk:aF8 kvs=true
      ·exact Si.res0 (bM4 H hi hm hk) (if_pos hk)
      ·exact Si.res0 .bad (if_neg hk)
    |_=>exact Si.res0 .bad (by show(match m[q]? with | some (.dict kvs e)=>aK7 q kvs e .clear vs m | _=>.bad)=_;rw[hm])
  |_=>exact .bad
end
noncomputable def cY3(e:Expr):Bool:=e.ctorIdx == 23
noncomputable def fH:Expr->Bool
 |.Call f a b _=>!(cY3 f&&a.isEmpty&&b.isEmpty)
 |_=>true
section
variable{K:Frag}{own:List Addr}{apos:Pos}
set_option tactic.hygienic true in
theorem bD7{name:Str}(h:fH o=true):attributeBase o name env (eval o env)=eval o env:=by
 cases (o) <;> first | rfl | skip
 rename_i f es kws pos
 cases (f) <;> first | rfl | skip
 cases (es) <;> first | rfl | skip
 cases (kws) <;> first | rfl | (exact aF4 h)
theorem aV1(h:aW es=true):(backTo pos (starEach es env)).all (λx=>!x.1)=true:=by
 induction es with
 |nil=>rfl
 |cons e rest ih=>rw[fD h];exact ih (aB2 h)
theorem cT6(k:Nat)(sm:Sm)(h:smH k sm=true):PlainAttrs (bS1 k) /\ Slot (bS1 k) (Str.ofString (bS2 sm)) (smId k sm) /\ typeOf (.builtin (smId k sm))=Pure.pure (.type "method_descriptor"):=by
 rcases cN1 h with⟨rfl,rfl⟩ | ⟨rfl,rfl⟩ | ⟨rfl,rfl⟩ | ⟨rfl,rfl⟩ | ⟨rfl,rfl⟩ | ⟨rfl,rfl⟩
 ·exact⟨PySem.F.plainAttrs_list,slot_list_append,type_list_append⟩
 ·exact⟨PySem.F.plainAttrs_list,PySem.F.slot_list_pop,PySem.F.type_list_pop⟩
 ·exact⟨PySem.F.plainAttrs_str,PySem.F.slot_str_join,PySem.F.type_str_join⟩
 ·exact⟨PySem.F.plainAttrs_dict,PySem.F.slot_dict_pop,PySem.F.type_dict_pop⟩
 ·exact⟨PySem.F.plainAttrs_list,PySem.F.slot_list_clear,PySem.F.type_list_clear⟩
 ·exact⟨PySem.F.plainAttrs_dict,PySem.F.slot_dict_clear,PySem.F.type_dict_clear⟩
theorem Si.res{P:Heap->Io->α->β->Prop}{t:Sem β}{R R':Res α}(x:Si W own A fs P t s io m R)(e:R'=R):Si W own A fs P t s io m R':=e▸x
set_option tactic.hygienic true in
theorem dA4(ok:WOk W){o:Expr}{es:List Expr}{sm:Sm}{co:Lo->Mn V}{cl:Lo->Mn (List V)}(hb:fH o=true)(hs:aW es=true)(hfew:es.length < 29)(hline:(apos.endLine == pos.line)=true)(ho:SiE W A fs env vis (eval o env) co)(hl:SiL W A fs env vis (spliced (backTo pos (starEach es env))) cl):
  SiE W A fs env vis (eval (.Call (.Attribute o (Str.ofString (bS2 sm)) apos) es [] pos) env) (λr=>bnd (co r) λx=>λm=>match smK x m with | some k=>if smH k sm then bnd (cl r) (λvs=>cU k x sm vs) m else .bad | none=>.bad):=by
 intro s io m r Z hne;dsimp only at hne ⊢;refine wpAny_Call_method_late (bD7 hb) ?_ hline rfl ?_
 ·rw[aV1 hs];rw[arm_keywordEach_nil];simp[backToKw];lia
 refine wpAny_mono (ho s io m r Z (Res.bind_ne hne)) (λov s₁ q=>?_) λy_ y_ q=>q.bind .refl (.refl _);obtain⟨x,m₁,io₁,e1,st,H₁,kx,sm₁⟩:=q;have ee:∀f:V->Mn V,bnd (co r) f m=f x m₁:=λf=>by show(co r m).bind _=_;rw[e1];rfl
 rw[ee]at hne ⊢
 cases hk:smK x m₁ with
 |none=>rw[hk]at hne;exact absurd rfl hne
 |some k=>
  rw[hk]at hne;dsimp only at hne ⊢;by_cases hH:smH k sm=true
  ·rw[if_pos hH]at hne ⊢
   have Z₁:=Z.step H₁ st;have ty:s₁.TypeIs ov (bS1 k) /\ (∀a,ov=.ref a->∃ob,s₁.heap.get? a=some ob /\ ob.dict=none):=by
    induction kx using VR.elim with
    | @ref q a d hi=>
     simp only[smK]at hk
     split at hk
     ·rename_i xs hm
      (refine aF hk λz1=>?_;clear hk;rw[<- z1])
      obtain⟨y_,ws,c,h1,y_⟩:=H₁.obj _ _ _ hi hm;exact⟨⟨_,h1,rfl⟩,λb e=>by cases (e);exact⟨_,h1,rfl⟩⟩
     ·rename_i kvs e hm
      (refine aF hk λz1=>?_;clear hk;rw[<- z1])
      obtain⟨y_,o',es',c,h1,h2,y_⟩:=H₁.obj _ _ _ hi hm;exact⟨⟨_,h1,h2.1⟩,λb e=>by cases (e);exact⟨_,h1,h2.2.1⟩⟩
     ·injection hk
    |str x t hx=>(refine aF hk λz1=>?_;clear hk;rw[<- z1]);exact⟨typeIs_str _ _ _,λy_ e=>nomatch e⟩
    |none=>injection hk
    |bool b=>injection hk
    |int i t=>injection hk
    |fn k=>injection hk
    |tup=>injection hk
    |exc=>injection hk
    |scr=>injection hk
   have call:wpAny (model W.prog W.w) A (callWith pos (.builtin (smId k sm)) [ov] (backTo pos (starEach es env)) []) (NP W [] (frs fs) s io m (VP W) (bnd (cl r) (λvs=>cU k x sm vs) m₁)) (XP W [] fs s io m (bnd (cl r) (λvs=>cU k x sm vs) m₁)) s₁:=by
    refine Calls.callWith_builtin (dS hs) (dO hs ?_);refine wpAny_mono (hl s₁ io₁ m₁ r Z₁ (Res.bind_ne hne)) (λus s₂ q=>?_) λy_ y_ q=>(q.mono st sm₁).bind .refl (.refl _);obtain⟨vs,m₂,io₂,e2,st2,H2,kv,sm2⟩:=q;have ee2:bnd (cl r) (λvs=>cU k x sm vs) m₁=cU k x sm vs m₂:=by show(cl r m₁).bind _=_;rw[e2];rfl
    rw[ee2]at hne ⊢;exact wpAny_mono (dG2 ok hH H2 (VR.step st2 kx) kv hne) (λy_ y_ z=>z.mono (st.trans st2) (sm₁.trans sm2)) λy_ y_ z=>z.mono (st.trans st2) (sm₁.trans sm2)
   refine e0a3 (cT6 k sm hH) λp1 p2 p3=>?_;exact⟨_,_,p1,p2,p3,ty.1,ty.2,call⟩
  ·rw[if_neg hH]at hne;exact absurd rfl hne
theorem cU8(R:AR A fs n)(H:HR W s.heap io m){x y v:V}{u iu vu:Value}(kx:VR W s.heap io x u)(ky:VR W s.heap io y iu)(kv:VR W s.heap io v vu):Si W own A fs (λy_ y_ (_ _:Unit)=>True) (setItem u iu vu) s io m (cE x y v m):=by
 have bad:∀{R:Res Unit},R=.bad->Si W own A fs (λy_ y_ (_ _:Unit)=>True) (setItem u iu vu) s io m R:=λe=>e▸.bad
 induction kx using VR.elim with
 | @ref q a d hi=>
  cases hm:m[q]? with
  |none=>exact bad (by unfold cE;dsimp only;rw[hm])
  |some o=>
   cases o with
   |inst c fls=>exact bad (by unfold cE;dsimp only;rw[hm])
   |dict kvs e=>
    have ee:cE (.ref q) y v m=match dP y with | some k=>if aN k kvs&&kvs.length < lid then .ok () (m.set q (.dict (put k v kvs) (e+1)))else .bad | Option.none=>.bad:=by unfold cE;dsimp only;rw[hm] <;> rfl
    refine Si.res ?_ ee
    cases hk:dP y with
    |none=>exact .bad
    |some k=>
     by_cases hc:(aN k kvs&&decide (kvs.length < lid))=true
     ·refine Si.res ?_ (if_pos hc)
      refine e0a2 (Bool.and_eq_true_iff.mp hc) λh1 h2=>?_;exact cF8 H R hi hm ky kv hk h1 (of_decide_eq_true h2)
     ·exact Si.res .bad (if_neg hc)
   |list xs=>
    induction ky using VR.elim with
    |int k t=>
     have ee:cE (.ref q) (.int k) v m=if 0 <= k /\ k < xs.length then .ok () (m.set q (.list (xs.set k.toNat v)))else if k < 0 /\ 0 <= k+xs.length then .ok () (m.set q (.list (xs.set (k+xs.length).toNat v)))else .bad:=by unfold cE;dsimp only;rw[hm]
     refine Si.res ?_ ee;obtain⟨hpp,ws,c,h1,h2,h3⟩:=H.obj _ _ _ hi hm;have hsz:ws.size=xs.length:=h2.size;by_cases hc:0 <= k /\ k < xs.length
     ·refine Si.res ?_ (if_pos hc)
      refine λy_=>bA6 h1 hc.1 (by have:xs.length <= 4194304:=h3;lia) (by lia) ?_;have z:=PySem.IsL.update h1 (λxs=>xs.setIfInBounds k.toNat vu);exact eG (tk:=s.toks) H hi hm (Heap.SameBut.update ..) z (by rw[Array.toList_setIfInBounds];exact h2.set _ kv) (by rw[List.length_set];exact h3) λy_=>trivial
     ·refine Si.res ?_ (if_neg hc)
      by_cases hd:k < 0 /\ 0 <= k+xs.length
      ·refine Si.res ?_ (if_pos hd)
       refine λy_=>bA5 h1 hd.1 (by have:xs.length <= 4194304:=h3;lia) (by lia) ?_;rw[hsz];have z:=PySem.IsL.update h1 (λxs_1=>xs_1.setIfInBounds (k+xs.length).toNat vu);exact eG (tk:=s.toks) H hi hm (Heap.SameBut.update ..) z (by rw[Array.toList_setIfInBounds];exact h2.set _ kv) (by rw[List.length_set];exact h3) λy_=>trivial
      ·exact Si.res .bad (if_neg hd)
    |_=>exact bad (by unfold cE;dsimp only;rw[hm])
 |_=>exact bad rfl
theorem a_idx{i:Expr}{ci:Lo->Mn V}(R:AR A (env::fs) n)(ho:SiE W A (env::fs) env vis (eval o env) co)(hi:SiE W A (env::fs) env vis (eval i env) ci):SiA W A fs env vis (.Subscript o i pos) (λv r=>bnd (co r) λx=>bnd (ci r) λy=>bnd (cE x y v) λy_=>ret r):=by
 intro s io m r v u Z k;rw[arm_assign_Subscript];refine Si.bindE (Si.holding (ho s io m r Z.sit)) λov s₁ io₁ m₁ x y_ st₁ H₁ kx sm₁=>?_;have Z₁:=Z.step H₁ st₁;refine Si.bindE (Si.holding (hi s₁ io₁ m₁ r Z₁.sit)) λiv s₂ io₂ m₂ y y_ st₂ H₂ ky sm₂=>.standAt ?_;have Z₂:=Z₁.step H₂ st₂;refine Si.bindE (Si.holding (cU8 R H₂ (VR.step st₂ kx) ky ((VR.step st₁ k).step st₂))) λy_ s₃ io₃ m₃ y_ y_ st₃ H₃ y_ sm₃=>?_;exact λy_=>wpAny_release ⟨r,m₃,io₃,rfl,.refl,H₃,Z₂.F.step0 Z₂.H st₃,.refl _⟩
theorem dA8:SiE W A fs env vis (eval (.Dict [] [] pos) env) (λy_=>alloc (.dict [] 0)):=by
 intro s io m r Z;exact λy_=>wpAny_Dict_empty (cW4 (tk:=s.toks) Z.H)
theorem bD4{p' pos':Pos}(hh:A.handled=none)(gl:Gl W K)(e:nsIn K mainGlobals x=some none)(hv:bootBuiltins x=some (.type "range"))(hn:(x == ("__name__":Str))=false)(hx:env.kindOf x=some .globalImplicit)(hd:(x == ("__debug__":Str))=false)(e':nsIn K mainGlobals y=some none)(hv':bootBuiltins y=some (.type "list"))(hn':(y == ("__name__":Str))=false)(hx':env.kindOf y=some .globalImplicit)(hd':(y == ("__debug__":Str))=false)(hs:aW es=true)(hl:SiL W A fs env vis (spliced (backTo pos (starEach es env))) cl):
  SiE W A fs env vis (eval (.Call (.Name y p') [.Call (.Name x p) es [] pos] [] pos') env) (λr=>bnd (cl r) λvs=>match eE vs with | some l=>if l.length <= lid then alloc (.list l)else bad | none=>bad):=by
 intro s io m r Z hne;dsimp only at hne ⊢;refine wpAny_Call_NameR (aE8 gl Z e' hv' hn' hx' hd' (PySem.callWith_type rfl (dO (s:=s) (es:=[.Call (.Name x p) es [] pos]) rfl ?_)));refine PyProof.Rows.spliced_more ?_;refine wpAny_Call_NameR (aE8 gl Z e hv hn hx hd (PySem.callWith_type (dS hs) (dO hs ?_)));refine wpAny_mono (hl s io m r Z (Res.bind_ne hne)) (λus s₁ q=>?_) λy_ y_ q=>q.bind .refl (.refl _);obtain⟨vs,m₁,io₁,e1,st,H,k,sm⟩:=q;have ee:∀f:List V->Mn V,bnd (cl r) f m=f vs m₁:=λf=>by show(cl r m).bind _=_;rw[e1];rfl
 rw[ee]at hne ⊢;show wpAny (model W.prog W.w) A (call (.type "range") us) _ _ s₁
 cases hr:eE vs with
 |none=>rw[hr]at hne;exact absurd rfl hne
 |some l=>
  rw[hr]at hne;dsimp only at hne ⊢;by_cases hll:l.length <= lid
  ·rw[if_pos hll]at hne ⊢
   refine aA1 H k hr λa b c o tk t u v ha hb hc h0 hsz hle hR=>?_;refine PyProof.Rows.spliced_none ?_;have st1:Step [] (frs fs) s₁.heap io₁ m₁ (s₁.heap.push o) io₁ m₁:=.of_keeps H (aM _);have H1:HR W (s₁.heap.push o) io₁ m₁:=H.of_keeps (aM _);refine call_list_range hh hR (aI7 ha hb hc h0) hsz.symm (Nat.le_trans hll (by decide)) λh' tk' acc c' hk hD hacc=>?_;have va:VRs W (s₁.heap.push o) io₁ l acc.toList:=by
    have key:∀(l:List V) (us:List Value),us.length=l.length->(∀(i:Nat) (v:V) (w:Value),l[i]?=some v->us[i]?=some w->VR W (s₁.heap.push o) io₁ v w)->VRs W (s₁.heap.push o) io₁ l us:=by
     intro l
     induction l with
     |nil=>intro us hl _;cases us with
      |nil=>exact .nil
      |cons=>injection hl
     |cons z zs ih=>
      intro us hl hv
      cases us with
      |nil=>injection hl
      |cons w ws=>exact .cons (hv 0 z w rfl rfl) (ih ws (by simpa using hl) λi v w' h1 h2=>hv (i+1) v w' (by simpa using h1) (by simpa using h2))
    refine key l acc.toList ?_ λi v w h1 h2=>?_
    ·have:acc.size=l.length:=hacc.1
     simpa using this
    ·refine e1a1 (hacc.2 i w (by rw[<- Array.getElem?_toList];exact h2)) λt' q=>?_
     rw[hle i v h1,q];exact .int _ _
   have dead:s₁.heap.get? (s₁.heap.push o).objs.size=none:=by
    cases q:s₁.heap.get? (s₁.heap.push o).objs.size with
    |none=>rfl
    |some o'=>have:=aM o _ _ q;rw[aO]at this;injection this
   exact(bG0 (s:={ s₁ with heap:=s₁.heap.push o,toks:=tk }) (tk:=tk') H1 hk hD va hll (aO _)).mono (st.trans st1) (sm.trans ⟨rfl,rfl⟩)
  ·rw[if_neg hll]at hne;exact absurd rfl hne
end
section
variable{K:Frag}
end
section
variable{K:Frag}{own:List Addr}{apos:Pos}
theorem bY0{v:V}(k:VR W h io v u):handedOut u=Pure.pure u:=by induction k using VR.elim <;> rfl
theorem bB8{d:Addr}(hne:a≠d)(h1:h.get? a=some (cY7 (W.ca c) d))(h2:h.Ns1 d mA):h.Inst a (W.ca c) mA:=
 ⟨_,h1,rfl,(λy_ q=>by injection q),.inr ⟨d,rfl,λq=>hne q.symm,h2⟩⟩
theorem cM4{v:V}(hx:W.S.attrs[k]?=some x)(hf:∀(c:Nat) (D:ClsD),W.S.cls[c]?=some D->D.meths.lookup k=none)(H:HR W s.heap io m)(kv:VR W s.heap io v u):Si W own A fs (VP W) (getAttr u x true) s io m (aD2 v k m):=by
 intro hne;have bad:aD2 v k m=.bad->False:=hne
 induction kv using VR.elim with
 | @ref q a d hi=>
  cases hm:m[q]? with
  |none=>exact(bad (by unfold aD2;dsimp only;rw[hm])).elim
  |some o=>
   cases o with
   |list xs=>exact(bad (by unfold aD2;dsimp only;rw[hm])).elim
   |dict kvs e=>exact(bad (by unfold aD2;dsimp only;rw[hm])).elim
   |inst c fls=>
    have ea:aD2 (.ref q) k m=ofO (aL7 k fls) m:=by unfold aD2;dsimp only;rw[hm]
    rw[ea]at hne ⊢
    cases hg:aL7 k fls with
    |none=>rw[hg]at hne;exact absurd rfl hne
    |some w=>
     obtain⟨e1,mA,h1,h2,h3,D,N,mN,C⟩:=H.obj _ _ _ hi hm;refine e2a3 (h3.2 k w hg) λx' u' ex' hu kw=>?_;rw[hx]at ex'
     (refine aF ex' λz1=>?_;clear ex';subst z1)
     obtain⟨nm,qn,bs,sn,sub,col,dd,k0,k1,k2,k3,k5,hC⟩:=C.obj;have hna:mN x=none:=by rw[C.has k x hx,hf c D C.dat];rfl
     exact load_attr (H.keep _ _ hC) (C.ns.keeps H.keep) C.ga hna (C.low k x hx) (bB8 e1 h1 h2) hu (bY0 kw) ⟨w,m,io,rfl,.refl,H,kw,.refl _⟩
 |none=>exact(bad rfl).elim
 |bool b=>exact(bad rfl).elim
 |int i t=>exact(bad rfl).elim
 |str y t hy=>exact(bad rfl).elim
 |fn k=>exact(bad rfl).elim
 |tup=>exact(bad rfl).elim
 |exc=>exact(bad rfl).elim
 |scr=>exact(bad rfl).elim
theorem dL7(hb:fH o=true)(hx:W.S.attrs[k]?=some x)(hf:∀(c:Nat) (D:ClsD),W.S.cls[c]?=some D->D.meths.lookup k=none)(ho:SiE W A fs env vis (eval o env) ca):
  SiE W A fs env vis (eval (.Attribute o x apos) env) (λr=>bnd (ca r) λv=>aD2 v k):=by
 intro s io m r Z;refine Si.res (R:=(ca r m).bind λv=>aD2 v k) ?_ rfl;intro hne;refine Attribute_any_ ?_ (by rw[arm_eval_Attribute,bD7 hb]);refine wpAny_mono (ho s io m r Z (Res.bind_ne hne)) (λu s₁ q=>?_) λy_ y_ q=>q.bind .refl (.refl _);obtain⟨v,m₁,io₁,e1,st,H₁,kv,sm⟩:=q;have ee:(ca r m).bind (λv=>aD2 v k)=aD2 v k m₁:=by rw[e1];rfl
 rw[ee]at hne ⊢;exact wpAny_mono (cM4 (own:=[]) (fs:=fs) hx hf H₁ kv hne) (λy_ y_ z=>z.mono st sm) λy_ y_ z=>z.mono st sm
theorem aG9{v:V}:∀{fls:List (Nat×V)},aL7 j (e9 k v fls)=if j=k then some v else aL7 j fls
 |[]=>by
  show(if k=j then some v else none)=_;by_cases q:j=k
  ·rw[if_pos q,if_pos q.symm]
  ·rw[if_neg q,if_neg (λz=>q z.symm)];rfl
 |(i,w)::fls=>by
  show aL7 j (if i=k then(i,v)::fls else(i,w)::e9 k v fls)=_;by_cases z:i=k
  ·rw[if_pos z]
   subst z;show(if i=j then some v else aL7 j fls)=if j=i then some v else if i=j then some w else aL7 j fls
   by_cases q:j=i
   ·rw[if_pos q,if_pos q.symm]
   ·rw[if_neg q,if_neg (λz=>q z.symm),if_neg (λz=>q z.symm)]
  ·rw[if_neg z]
   show(if i=j then some w else aL7 j (e9 k v fls))=if j=k then some v else if i=j then some w else aL7 j fls
   rw[aG9];by_cases q:i=j
   ·rw[if_pos q,if_neg (λe=>z (q.trans e)),if_pos q]
   ·rw[if_neg q,if_neg q]
theorem FEs.put{fls:List (Nat×V)}{v:V}(e:FEs W h io fls mA)(hx:W.S.attrs[k]?=some x)(hu:∀(i j:Nat) (x:Str),W.S.attrs[i]?=some x->W.S.attrs[j]?=some x->i=j)(kv:VR W h io v u):
  FEs W h io (e9 k v fls) (λy=>if y=x then some u else mA y):=by
 constructor
 ·intro y w q
  by_cases z:y=x
  ·subst z
   have q':some u=some w:=by rw[<- q];exact(if_pos rfl).symm
   (refine aF q' λz1=>?_;clear q';rw[<- z1])
   exact⟨k,v,hx,by rw[aG9,if_pos rfl],kv⟩
  ·have q':mA y=some w:=by rw[<- q];exact(if_neg z).symm
   refine e2a3 (e.1 y w q') λi w' a b c=>?_;refine⟨i,w',a,?_,c⟩;rw[aG9,if_neg (λik=>?_)]at ⊢
   ·exact b
   ·subst ik;rw[hx]at a;(refine aF a λz1=>?_;clear a;subst z1);exact z rfl
 ·intro i w q
  rw[aG9]at q;by_cases z:i=k
  ·rw[if_pos z]at q
   (refine aF q λz1=>?_;clear q;subst z1)
   rw[z];exact⟨x,u,hx,if_pos rfl,kv⟩
  ·rw[if_neg z]at q
   refine e2a3 (e.2 i w q) λy w' a b c=>?_;refine⟨y,w',a,?_,c⟩;show(if y=x then some u else mA y)=some w';rw[if_neg (λyx=>?_)]at ⊢
   ·exact b
   ·subst yx;exact z (hu i k y a hx)
theorem bN9{fls:List (Nat×V)}(e:FEs W h io fls mA):Within mA W.S.attrs:=by
 intro y hy
 cases q:mA y with
 |none=>exact absurd q hy
 |some u=>
  refine e2a2 (e.1 y u q) λi v a y_=>?_;exact List.mem_of_getElem? a
theorem bA4{v y:V}{w:Value}(hx:W.S.attrs[k]?=some x)(hf:∀(c:Nat) (D:ClsD),W.S.cls[c]?=some D->D.meths.lookup k=none)(H:HR W s.heap io m)(kv:VR W s.heap io v u)(ky:VR W s.heap io y w):Si W own A fs (λy_ y_ (_ _:Unit)=>True) (setAttr u x w) s io m (dX v k y m):=by
 intro hne;have bad:dX v k y m=.bad->False:=hne
 induction kv using VR.elim with
 | @ref q a d hi=>
  cases hm:m[q]? with
  |none=>exact(bad (by unfold dX;dsimp only;rw[hm])).elim
  |some o=>
   cases o with
   |list xs=>exact(bad (by unfold dX;dsimp only;rw[hm])).elim
   |dict kvs e=>exact(bad (by unfold dX;dsimp only;rw[hm])).elim
   |inst c fls=>
    have ea:dX (.ref q) k y m=.ok () (m.set q (.inst c (e9 k y fls))):=by unfold dX;dsimp only;rw[hm]
    rw[ea];obtain⟨e1,mA,h1,h2,h3,D,N,mN,C⟩:=H.obj _ _ _ hi hm;obtain⟨nm,qn,bs,sn,sub,col,dd,k0,k1,k2,k3,k5,hC⟩:=C.obj;have hna:mN x=none:=by rw[C.has k x hx,hf c D C.dat];rfl
    have hac:a≠W.ca c:=λq=>by
     have:=H.fresh a ⟨_,List.mem_of_getElem? hi,.inl rfl⟩;rw[q,hC]at this;injection this
    refine store_attr F.store_object (H.keep _ _ hC) (C.ns.keeps H.keep) C.sa hna (C.low k x hx) hac (bB8 e1 h1 h2) (λh' tk' I' hk hsame=>?_) (bN9 h3) (Nat.le_trans C.few (by decide));refine e1a5 (hsame _ h1) λo₁ g1 c1 c2 c3 c4=>?_;have eo:o₁=cY7 (W.ca c) d:=by
     obtain⟨oc,od,odt,osl⟩:=o₁;have c4':=c4 d rfl;dsimp only at c1 c2 c3 c4';rw[c1,c2,c3,c4']
    rw[eo]at g1;refine e1a4 I' λo₂ g2 y_ y_ hd=>?_;rw[g1]at g2
    (refine aF g2 λz1=>?_;clear g2;subst z1)
    rcases hd with⟨q,_⟩ | ⟨d',ed,_,hns⟩
    ·injection q
    (refine aF ed λz1=>?_;clear ed;subst z1)
    have hk':∀b o,b≠a->b≠d->s.heap.get? b=some o->h'.get? b=some o:=λb o n1 n2 e=>hk b o n1 (λo₀ dx e0 e2=>by rw[h1]at e0;(refine aF e0 λz1=>?_;clear e0;subst z1);(refine aF e2 λz1=>?_;clear e2;subst z1);exact n2) e;have hd':∃o',h'.get? d=some o':=let ⟨o',_,_,e,_⟩:=hns;⟨o',e⟩
    have st:Step own (frs fs) s.heap io m h' io (m.set q (.inst c (e9 k y fls))):=aG1 H hi hm hk' ⟨_,g1⟩ hd' (λy_ y_ q=>by injection q);exact⟨(),_,io,rfl,st,H.set hi hm hk' (λy_ y_ q=>by injection q) ⟨_,g1⟩ hd' ⟨e1,_,g1,hns,(h3.step st).put hx C.uniq (ky.step st),D,N,mN,C⟩,trivial,rfl,rfl⟩
 |none=>exact(bad rfl).elim
 |bool b=>exact(bad rfl).elim
 |int i t=>exact(bad rfl).elim
 |str y t hy=>exact(bad rfl).elim
 |fn k=>exact(bad rfl).elim
 |tup=>exact(bad rfl).elim
 |exc=>exact(bad rfl).elim
 |scr=>exact(bad rfl).elim
theorem dN4(hx:W.S.attrs[k]?=some x)(hf:∀(c:Nat) (D:ClsD),W.S.cls[c]?=some D->D.meths.lookup k=none)(ho:SiE W A (env::fs) env vis (eval o env) co):SiA W A fs env vis (.Attribute o x pos) (λv r=>bnd (co r) λy=>bnd (dX y k v) λy_=>ret r):=by
 intro s io m r v u Z kv;rw[arm_assign_Attribute];refine Si.bindE (Si.holding (ho s io m r Z.sit)) λov s₁ io₁ m₁ y y_ st₁ H₁ ky sm₁=>.standAt ?_;have Z₁:=Z.step H₁ st₁;refine Si.bindE (Si.holding (bA4 hx hf H₁ ky (VR.step st₁ kv))) λy_ s₃ io₃ m₃ y_ y_ st₃ H₃ y_ sm₃=>?_;exact λy_=>wpAny_release ⟨r,m₃,io₃,rfl,.refl,H₃,Z₁.F.step0 Z₁.H st₃,.refl _⟩
theorem dL3(gl:Gl W K)(hb:fH o=true)(hs:aW es=true)(hfew:es.length < 29)(hline:(apos.endLine == pos.line)=true)(hx:W.S.attrs[k]?=some x)(hobj:∀j,j < W.S.fns.length->∃ob fd,K.lookup (W.fa j)=some ob /\ ob.data=.func fd /\ ob.cls=.type "function")(hF:∀j,j < W.S.fns.length->SiF W A fs (.ref (W.fa j)) (F j))(ho:SiE W A fs env vis (eval o env) co)(hl:SiL W A fs env vis (spliced (backTo pos (starEach es env))) cl):
  SiE W A fs env vis (eval (.Call (.Attribute o x apos) es [] pos) env) (λr=>bnd (co r) λv=>bnd (fT W.S k v) λj=>bnd (cl r) λvs=>F j (v::vs)):=by
 intro s io m r Z hne;dsimp only at hne ⊢;rw[arm_eval_Call,bD7 hb];refine wpAny_bind (wpAny_mono (ho s io m r Z (Res.bind_ne hne)) (λu s₁ q=>?_) λy_ y_ q=>q.bind .refl (.refl _));obtain⟨v,m₁,io₁,e1,st,H₁,kv,sm⟩:=q;have ee:∀f:V->Mn V,bnd (co r) f m=f v m₁:=λf=>by show(co r m).bind _=_;rw[e1];rfl
 rw[ee]at hne ⊢;refine wpAny_bind (wpAny_standAt ?_);have hform:methodCallForm (es.length+([]:List Keyword).length) (backTo pos (starEach es env)) (backToKw pos (keywordEach [] env))=true:=by
  unfold methodCallForm;rw[aV1 hs];rw[arm_keywordEach_nil];simp[backToKw];lia
 have hpos:methodCallPos true o env apos pos=Pure.pure pos:=by unfold methodCallPos;rw[hline];rfl
 unfold methodCall;rw[hform];have bad:fT W.S k v m₁=.bad->False:=λq=>hne (by show(fT W.S k v m₁).bind _=_;rw[q];rfl)
 induction kv using VR.elim with
 | @ref q0 a d hi=>
  cases hm:m₁[q0]? with
  |none=>exact(bad (by unfold fT;dsimp only;rw[hm])).elim
  |some ob=>
   cases ob with
   |list xs=>exact(bad (by unfold fT;dsimp only;rw[hm])).elim
   |dict kvs e=>exact(bad (by unfold fT;dsimp only;rw[hm])).elim
   |inst c fls=>
    obtain⟨g1,mA,h1,h2,h3,D,N,mN,C⟩:=H₁.obj _ _ _ hi hm
    cases hg:aL7 k fls with
    |some w=>exact(bad (by unfold fT;dsimp only;rw[hm];dsimp only;rw[C.dat];dsimp only;rw[hg])).elim
    |none=>
     cases hq:D.meths.lookup k with
     |none=>exact(bad (by unfold fT;dsimp only;rw[hm];dsimp only;rw[C.dat];dsimp only;rw[hg];dsimp only;rw[hq];rfl)).elim
     |some j=>
      have em:fT W.S k (.ref q0) m₁=.ok j m₁:=by unfold fT;dsimp only;rw[hm];dsimp only;rw[C.dat];dsimp only;rw[hg];dsimp only;rw[hq];rfl
      have e2:bnd (fT W.S k (.ref q0)) (λj=>bnd (cl r) λvs=>F j (.ref q0::vs)) m₁=bnd (cl r) (λvs=>F j (.ref q0::vs)) m₁:=by show(fT W.S k (.ref q0) m₁).bind _=_;rw[em];rfl
      rw[e2]at hne ⊢;obtain⟨nm,qn,bs,sn,sub,col,dd,k0,k1,k2,k3,k5,hC⟩:=C.obj;refine e2a3 (hobj j (C.mlt k j hq)) λfo fd f1 f2 f3=>?_;have hmn:mN x=some (.ref (W.fa j)):=by rw[C.has k x hx,hq];rfl
      have hma:mA x=none:=by
       cases z:mA x with
       |none=>rfl
       |some w=>
        refine e2a3 (h3.1 x w z) λi' v' a1 a2 y_=>?_;rw[C.uniq i' k x a1 hx,hg]at a2;injection a2
      have Z₁:=Z.step H₁ st;refine wpAny_bind (wpAny_holding ?_);unfold calleeOf;rw[if_pos rfl];refine method_of (H₁.keep _ _ hC) (C.ns.keeps H₁.keep) C.ga C.gh hmn (H₁.get gl f1) f3 (C.low k x hx) (bB8 g1 h1 h2) hma ?_;refine wpAny_bind (wpAny_of_eq hpos ?_);refine Calls.callWith_function (o:=fo) (fd:=fd) (dO hs ?_);refine wpAny_mono (hl s₁ io₁ m₁ r Z₁ (Res.bind_ne hne)) (λus s₂ q=>?_) λy_ y_ q=>(q.mono st sm).bind .refl (.refl _);obtain⟨vs,m₂,io₂,e3,st2,H2,kvs,sm2⟩:=q;have ee2:bnd (cl r) (λvs=>F j (.ref q0::vs)) m₁=F j (.ref q0::vs) m₂:=by show(cl r m₁).bind _=_;rw[e3];rfl
      rw[ee2]at hne ⊢;refine⟨⟨H2.get gl f1,f2⟩,?_⟩;exact wpAny_mono (hF j (C.mlt k j hq) _ _ _ _ _ H2 (Z₁.G.step0 st2) (.cons (.ref (st2.io_get hi)) kvs) hne) (λy_ y_ z=>z.mono (st.trans st2) (sm.trans sm2)) λy_ y_ z=>z.mono (st.trans st2) (sm.trans sm2)
 |none=>exact(bad rfl).elim
 |bool b=>exact(bad rfl).elim
 |int i t=>exact(bad rfl).elim
 |str y t hy=>exact(bad rfl).elim
 |fn k=>exact(bad rfl).elim
 |tup=>exact(bad rfl).elim
 |exc=>exact(bad rfl).elim
 |scr=>exact(bad rfl).elim
theorem bQ1{C:Addr}{rest:List Value}:A.under (.builtin "type.__call__" ⟨.ref C::rest,[]⟩)=born A:=by
 have h1:(Code.builtin "type.__call__" ⟨.ref C::rest,[]⟩).weight=1:=by kernel_rfl
 have h2:(Code.builtin "type.__call__" ⟨.ref C::rest,[]⟩).cUnits=1:=by kernel_rfl
 have h3:(Code.builtin "type.__call__" ⟨.ref C::rest,[]⟩).envs=[]:=by kernel_rfl
 have h4:(Code.builtin "type.__call__" ⟨.ref C::rest,[]⟩).guards=[]:=by kernel_rfl
 rw[h1,h2,h3,h4];rfl
theorem e_new{k0:Nat}{D:ClsD}{N:Addr}{mN:Str->Option Value}(gl:Gl W K)(e:nsIn K mainGlobals x=some (some (.ref (W.ca c))))(hx:env.kindOf x=some .globalImplicit)(hd:(x == ("__debug__":Str))=false)(hs:aW es=true)(C:ClsOk W c D N mN)(hD:D.init=some k0)(hkeep:keepIn K (.ref (W.ca c))=true)(hmk:makesIn K (W.ca c)=true)(hin:findIn K (.ref (W.ca c)) "__init__"=some (some (.ref (W.fa k0))))(hty:typeIn K (.ref (W.fa k0))=some (.type "function"))(hF:SiK W (born A) fs (.ref (W.fa k0)) (F k0))(hl:SiL W A fs env vis (spliced (backTo pos (starEach es env))) cl):
  SiE W A fs env vis (eval (.Call (.Name x p) es [] pos) env) (λr=>bnd (cl r) λvs=>cW9 W.S F c vs):=by
 intro s io m r Z hne;dsimp only at hne ⊢;refine wpAny_Call_NameR (aO4 gl Z e hx hd (callWith_of (P:=λh=>K.In h) (by rw[dS hs];rfl) (λh X=>keeps_K hkeep h X) (dO hs ?_)));refine wpAny_mono (hl s io m r Z (Res.bind_ne hne)) (λus s₁ q=>?_) λy_ y_ q=>q.bind .refl (.refl _);obtain⟨vs,m₁,io₁,e1,st,H₁,kvs,sm⟩:=q;have X:K.In s₁.heap:=λa o h=>H₁.get gl h;have ee:bnd (cl r) (λvs=>cW9 W.S F c vs) m=(F k0 (.ref m₁.length::vs) (m₁++[.inst c []])).bind (dI3 (.ref m₁.length)):=by
  show(cl r m).bind _=_;rw[e1];show cW9 W.S F c vs m₁=_;unfold cW9;rw[C.dat];dsimp only;rw[C.exc,hD];rfl
 rw[ee]at hne ⊢;refine⟨X,?_⟩;obtain⟨hh,gg,dr,tk,os⟩:=s₁;dsimp only at st H₁ kvs X;refine wpAny_call (make_core (makes_of X hmk) (looks_findIn X hin) (λself=>bind_fn X self hty) (.inl rfl) ?_);rw[bQ1];have keeps:∀b o,hh.get? b=some o->((hh.push emptyDict).push (instObj (W.ca c) hh.objs.size)).get? b=some o:=λb o h=>Heap.get?_push_of_some _ (Heap.get?_push_of_some _ h);have nx:hh.get? (hh.objs.size+1)=none:=Heap.get?_none_of_le (Nat.le_succ _);have nd:hh.get? hh.objs.size=none:=aO hh;have gx:((hh.push emptyDict).push (instObj (W.ca c) hh.objs.size)).get? (hh.objs.size+1)=some (instObj (W.ca c) hh.objs.size):=by heap_get
 have gd:((hh.push emptyDict).push (instObj (W.ca c) hh.objs.size)).get? hh.objs.size=some emptyDict:=Heap.get?_push_of_some _ (Heap.get?_push_at rfl rfl);have st2:Step [] (frs fs) hh io₁ m₁ ((hh.push emptyDict).push (instObj (W.ca c) hh.objs.size)) (io₁++[(hh.objs.size+1,hh.objs.size)]) (m₁++[.inst c []]):=eB H₁ keeps nx nd;have H2:HR W ((hh.push emptyDict).push (instObj (W.ca c) hh.objs.size)) (io₁++[(hh.objs.size+1,hh.objs.size)]) (m₁++[.inst c []]):=
  H₁.alloc keeps nx nd ⟨λq=>absurd q (Nat.succ_ne_self _),λy_=>none,gx,Heap.Ns1.of_empty ⟨_,#[],_,gd,rfl,λe he=>absurd he (by simp),λy_=>rfl⟩,⟨(λy_ y_ q=>by injection q),(λy_ y_ q=>by injection q)⟩,D,N,mN,C⟩
 have last:(io₁++[(hh.objs.size+1,hh.objs.size)])[m₁.length]?=some (hh.objs.size+1,hh.objs.size):=by rw[<- H₁.len];simp
 refine codeAny_mono (hF ⟨_,gg,dr,tk,os⟩ _ _ (.ref m₁.length::vs) (.ref (hh.objs.size+1)::us) H2 ((Z.G.step0 st).step0 st2) (.cons (.ref last) (kvs.step st2)) (Res.bind_ne hne)) (λrr s' z=>?_);have st3:=st.trans st2
 cases rr with
 |error e=>exact(XP.mono (s₁:=⟨_,gg,dr,tk,os⟩) z st3 sm).bind .refl (.refl _)
 |ok f=>
  cases f with
  |ret v=>
   obtain⟨u,m3,io3,e3,st4,H3,ku,sm3⟩:=z;have e4:(F k0 (.ref m₁.length::vs) (m₁++[.inst c []])).bind (dI3 (.ref m₁.length))=dI3 (.ref m₁.length) u m3:=by rw[e3];rfl
   rw[e4]at hne;have hu:u=.none:=by
    cases (u) <;> first | rfl | exact absurd rfl hne
   subst hu;rw[ku];refine⟨rfl,?_⟩;show NP W [] (frs fs) s io m (VP W) _ _ s';rw[e4];exact⟨_,m3,io3,rfl,st3.trans st4,H3,.ref (st4.io_get last),sm.trans sm3⟩
  |_=>exact z
end
end Mini.Internal
variable{a:Bool}{o:Option Expr}{j:Int}{F:Fns}
namespace Mini.Internal
open PySem PySem.W PyProof.Rows
structure Cx where
 sc:Scope
 vis:List (Option Str)
structure Px where
 K:Frag
 S:Sig
 fa:Nat->Addr
 ca:Nat->Addr
 /-- loops may stand here (no exception is handled) -/
 loud:Bool
 /-- what may be called: all,or these -/
 ok:Option (List Nat)
 /-- what may be called while an exception is handled -/
 qok:List Nat
noncomputable def Px.can(P:Px)(k:Nat):Bool:=match P.ok with
 |none=>true
 |some l=>l.contains k
noncomputable def Px.quiet(P:Px):Px:={ P with loud:=false,ok:=some P.qok,qok:=[] }
noncomputable def dJ7(Γ:Cx)(i:Nat)(x:Str):Bool:=(Γ.vis[i]? == some (some x))&&(Γ.sc.names.lookup x == some .local||Γ.sc.names.lookup x == some .cell||Γ.sc.names.lookup x == some .free)&&!(x == ("__debug__":Str))&&!(x == ("__classdict__":Str))
noncomputable def bL2(Γ:Cx)(i:Nat)(x:Str):Bool:=(Γ.vis[i]? == some (some x))&&(Γ.sc.names.lookup x == some .local||Γ.sc.names.lookup x == some .cell)
noncomputable def bL3(Γ:Cx)(x:Str):Bool:=(Γ.sc.names.lookup x == some .globalImplicit)&&!(x == ("__debug__":Str))&&!(x == ("__name__":Str))
noncomputable def cJ4(P:Px)(Γ:Cx)(x:Str)(id:String):Bool:=bL3 Γ x&&(nsIn P.K mainGlobals x == some none)&&(bootBuiltins x == some (.builtin id))
noncomputable def aR9(P:Px)(Γ:Cx)(x:Str)(id:String):Bool:=bL3 Γ x&&(nsIn P.K mainGlobals x == some none)&&(bootBuiltins x == some (.type id))
noncomputable def isFd(d:Data):Bool:=match d with
 |.func _=>true
 |_=>false
noncomputable def dJ8(P:Px)(Γ:Cx)(k:Nat)(x:Str):Bool:=P.can k&&bL3 Γ x&&(nsIn P.K mainGlobals x == some (some (.ref (P.fa k))))&&(P.K.lookup (P.fa k)).any λo=>isFd o.data
noncomputable def isBi(P:Px)(Γ:Cx)(b:Bi)(x:Str):Bool:=match dM8 b with
 |.builtin id=>cJ4 P Γ x id
 |.type id=>aR9 P Γ x id
 |_=>false
noncomputable def bmV:List Value:=[.type "ValueError",.type "Exception",.type "BaseException",.type "object"]
noncomputable def clsV(P:Px)(c:Nat):Value:=match c with
 |0=>.type "ValueError"
 |c=>.ref (P.ca c)
noncomputable def aW6(P:Px)(Γ:Cx)(c:Nat)(x:Str):Bool:=bL3 Γ x&&(nsIn P.K mainGlobals x == some (some (.ref (P.ca c))))
noncomputable def isCls(P:Px)(Γ:Cx)(c:Nat)(x:Str):Bool:=match c with
 |0=>aR9 P Γ x "ValueError"
 |c+1=>aW6 P Γ (c+1) x
noncomputable def aZ3(f:Nat->ClsD->Bool):Nat->List ClsD->Bool
 |_,[]=>true
 |k,d::ds=>f k d&&aZ3 f (k+1) ds
noncomputable def relI(P:Px)(c:Nat)(d:Nat)(x:ClsD):Bool:=!x.exc||(fK P.K (P.ca d)&&kitOne P.K (.ref (P.ca d)) (clsV P c) == some (x.supers.contains c))
noncomputable def relT(P:Px)(c:Nat)(d:Nat)(x:ClsD):Bool:=!(x.supers.contains c)||exmOne P.K (.ref (P.ca d)) (.ref (P.ca c)) == some true
noncomputable def bX6(P:Px)(n:Nat)(x:Str):Bool:=match P.S.attrs[n]? with | some y=>y == x | none=>false
noncomputable def cY4(P:Px)(n:Nat)(x:Str):Bool:=bX6 P n x&&P.S.cls.all λd=>(d.meths.lookup n).isNone
noncomputable def aH3(P:Px)(N:Addr)(D:ClsD):Nat->List Str->Bool
 |_,[]=>true
 |i,x::r=>nsIn P.K N x == some ((D.meths.lookup i).map λk=>.ref (P.fa k))&&(match fastLookup "object" x with | some none=>true | _=>false)&&aH3 P N D (i+1) r
noncomputable def six{α:Type}(l:List α):Option (α×α×α×α×α×α):=match l with
 |[]=>none
 |a::l=>match l with
  |[]=>none
  |b::l=>match l with
   |[]=>none
   |c::l=>match l with
    |[]=>none
    |d::l=>match l with
     |[]=>none
     |e::l=>match l with
      |[]=>none
      |f::l=>match l with
       |[]=>some (a,b,c,d,e,f)
       |_::_=>none
noncomputable def dM0(d:Data):Option ClassData:=match d with
 |.cls cd=>some cd
 |_=>none
noncomputable def bF4(K:Frag)(C:Addr):Option Addr:=(K.lookup C).bind λo=>(dM0 o.data).bind λcd=>(six o.slots.toList).bind λq=>
 if o.cls == .type "type"&&cd.mro == [.ref C,.type "object"]&&q.2.2.2.2.1 == some (.builtin "object.__new__")&&!cd.hasDel&&cd.hasDict&&!cd.abstract&&nsOkIn K cd.ns then some cd.ns else none
noncomputable def cH3(P:Px)(c:Nat):Bool:=match P.S.cls[c]? with
 |some d=>!d.exc&&(match d.init with | some k=>decide (k < P.S.fns.length)&&findIn P.K (.ref (P.ca c)) "__init__" == some (some (.ref (P.fa k)))&&typeIn P.K (.ref (P.fa k)) == some (.type "function") | none=>false)
  &&keepIn P.K (.ref (P.ca c))&&makesIn P.K (P.ca c)
  &&(match bF4 P.K (P.ca c)with
   |some N=>nsIn P.K N "__getattribute__" == some none&&nsIn P.K N "__getattr__" == some none&&nsIn P.K N "__setattr__" == some none&&aH3 P N d 0 P.S.attrs
   |none=>false)
  &&decide P.S.attrs.Nodup&&decide (P.S.attrs.length <= 1000)&&(d.meths.all λq=>decide (q.2 < P.S.fns.length))
 |none=>false
noncomputable def cY5:Lt->Const->Bool
 |.none,.none=>true
 |.bool b,.bool d=>b == d
 |.int i,.int j=>i == j
 |.str x,.str y=>x == y&&PyData.strOk x
 |_,_=>false
noncomputable def dJ5(v:Value)(l:Lt):Bool:=match l with
 |.int i=>(match v with | .int j _=>i == j | _=>false)
 |.str x=>(match v with | .str y _=>x == y&&PyData.strOk x | _=>false)
 |.bool b=>(match v with | .bool c=>b == c | _=>false)
 |.none=>(match v with | .none=>true | _=>false)
noncomputable def dJ9(P:Px)(Γ:Cx)(i:Nat)(x:Str):Bool:=bL3 Γ x&&(nsIn P.K mainGlobals x).any λo=>o.any λv=>(P.S.globs[i]?).any λp=>dJ5 v p.2
noncomputable def dJ6:Bool->BoolOp->Bool
 |true,.And=>true
 |false,.Or=>true
 |_,_=>false
noncomputable def eV{β:Type}(d:β)(hBoolOp:BoolOp->List Expr->β)(hBinOp:Expr->Operator->Expr->β)(hUnaryOp:UnaryOp->Expr->β)(hIfExp:Expr->Expr->Expr->β)(hDict:List (Option Expr)->List Expr->β)(hSet:β)(hListComp:Expr->List Comprehension->Scope->β)(hSetComp:β)(hDictComp:β)(hCompare:Expr->List CmpOp->List Expr->β)(hCall:Expr->List Expr->List Keyword->Pos->β)(hConstant:Const->β)(hAttribute:Expr->Str->Pos->β)(hSubscript:Expr->Expr->β)(hName:Str->Pos->β)(hList:List Expr->β)(hTuple:List Expr->β)(hSlice:Option Expr->Option Expr->Option Expr->β)(e:Expr):β:=Expr.casesOn (motive_1:=λy_=>β) e (λa0 a1 y_=>hBoolOp a0 a1) (λy y y=>d) (λa0 a1 a2 y_=>hBinOp a0 a1 a2) (λa0 a1 y_=>hUnaryOp a0 a1) (λy y y y=>d) (λa0 a1 a2 y_=>hIfExp a0 a1 a2) (λa0 a1 y_=>hDict a0 a1) (λy y y=>hSet) (λa0 a1 a2 y_=>hListComp a0 a1 a2) (λy y y y=>hSetComp) (λy y y y y=>hDictComp) (λy y y y=>d) (λy y=>d) (λy y=>d) (λy y=>d) (λa0 a1 a2 y_=>hCompare a0 a1 a2) (λa0 a1 a2 a3=>hCall a0 a1 a2 a3) (λy y y y=>d) (λy y=>d) (λa0 y_ y_=>hConstant a0) (λa0 a1 a2=>hAttribute a0 a1 a2) (λa0 a1 y_=>hSubscript a0 a1) (λy y=>d) (λa0 a1=>hName a0 a1) (λa0 y_=>hList a0) (λa0 y_ y_=>hTuple a0) (λa0 a1 a2 y_=>hSlice a0 a1 a2)
noncomputable def cW7:Expr->Bool:=eV true (λy y=>true) (λy y y=>true) (λy y=>true) (λy y y=>true) (λy y=>true) true (λy y y=>true) true true (λy y y=>true) (λy y y y=>true) (λy=>true) (λy y y=>true) (λy y=>true) (λy y=>true) (λy=>true) (λy=>true) (λy y y=>false)
noncomputable def aR5:Expr->Bool:=eV true (λy y=>true) (λy y y=>true) (λy y=>true) (λy y y=>true) (λy y=>true) false (λy y y=>true) true true (λy y y=>true) (λy y y y=>true) (λy=>true) (λy y y=>true) (λy y=>true) (λy y=>true) (λy=>true) (λy=>true) (λy y y=>true)
noncomputable def bK5:CE->Bool
 |.cnst .none=>true
 |_=>false
noncomputable def cJ3:UnaryOp->Bool | .Not=>true | _=>false
noncomputable def aV2:Expr->Bool:=eV true (λy y=>false) (λy y y=>true) (λop y_=>!cJ3 op) (λy y y=>false) (λy y=>true) true (λy y y=>true) true true (λy y y=>false) (λy y y y=>true) (λy=>true) (λy y y=>true) (λy y=>true) (λy y=>true) (λy=>true) (λy=>true) (λy y y=>true)
noncomputable def aL3(scope:Scope)(x:List Str):List (Option Str)->List (Option Str)
 |[]=>x.map some
 |o::r=>(match o with | some y=>(match scope.names.lookup y with | some .free=>some y | _=>none) | none=>none)::aL3 scope x r
noncomputable def cU6(scope:Scope)(sc:Scope):Scope:=
 { scope with names:=scope.names.map λ(n,k)=>if (k == .free&&sc.kind == .function&&sc.names.lookup n == some .cell)then(n,.cell)else(n,k) }
noncomputable def aP2(scope:Scope)(x:List Str)(Γ:Cx):Cx:=⟨cU6 scope Γ.sc,aL3 scope x Γ.vis⟩
noncomputable def cA1(scope:Scope)(x:List Str)(Γ:Cx):Bool:=
 scope.kind == .function&&(scope.names.all λp=>!(p.2 == .local)||scope.names.lookup p.1 == some .local)&&(scope.names.all λp=>!(p.2 == .cell))&&
 (scope.names.all λp=>!(p.2 == .free)||(Γ.vis.contains (some p.1)&&(Γ.sc.names.lookup p.1 == some .cell||Γ.sc.names.lookup p.1 == some .free)))&&(x.all λx=>scope.names.lookup x == some .local)&&decide (x.Nodup /\ (Γ.vis.filterMap id).Nodup)&&Γ.sc.kind == .function
noncomputable def aH7:Expr->Option Const:=eV none (λy y=>none) (λy y y=>none) (λy y=>none) (λy y y=>none) (λy y=>none) none (λy y y=>none) none none (λy y y=>none) (λy y y y=>none) (λc=>some c) (λy y y=>none) (λy y=>none) (λy y=>none) (λy=>none) (λy=>none) (λy y y=>none)
noncomputable def bS:Expr->Option (Str×Pos):=eV none (λy y=>none) (λy y y=>none) (λy y=>none) (λy y y=>none) (λy y=>none) none (λy y y=>none) none none (λy y y=>none) (λy y y y=>none) (λy=>none) (λy y y=>none) (λy y=>none) (λx p=>some (x,p)) (λy=>none) (λy=>none) (λy y y=>none)
noncomputable def dF2:Expr->Option (Expr×Operator×Expr):=eV none (λy y=>none) (λl op r=>some (l,op,r)) (λy y=>none) (λy y y=>none) (λy y=>none) none (λy y y=>none) none none (λy y y=>none) (λy y y y=>none) (λy=>none) (λy y y=>none) (λy y=>none) (λy y=>none) (λy=>none) (λy=>none) (λy y y=>none)
noncomputable def vUn:Expr->Option (UnaryOp×Expr):=eV none (λy y=>none) (λy y y=>none) (λop x=>some (op,x)) (λy y y=>none) (λy y=>none) none (λy y y=>none) none none (λy y y=>none) (λy y y y=>none) (λy=>none) (λy y y=>none) (λy y=>none) (λy y=>none) (λy=>none) (λy=>none) (λy y y=>none)
noncomputable def aZ9:Expr->Option (BoolOp×List Expr):=eV none (λop es=>some (op,es)) (λy y y=>none) (λy y=>none) (λy y y=>none) (λy y=>none) none (λy y y=>none) none none (λy y y=>none) (λy y y y=>none) (λy=>none) (λy y y=>none) (λy y=>none) (λy y=>none) (λy=>none) (λy=>none) (λy y y=>none)
noncomputable def cM9:Expr->Option (Expr×List CmpOp×List Expr):=eV none (λy y=>none) (λy y y=>none) (λy y=>none) (λy y y=>none) (λy y=>none) none (λy y y=>none) none none (λl ops cs=>some (l,ops,cs)) (λy y y y=>none) (λy=>none) (λy y y=>none) (λy y=>none) (λy y=>none) (λy=>none) (λy=>none) (λy y y=>none)
noncomputable def vIf:Expr->Option (Expr×Expr×Expr):=eV none (λy y=>none) (λy y y=>none) (λy y=>none) (λt x y=>some (t,x,y)) (λy y=>none) none (λy y y=>none) none none (λy y y=>none) (λy y y y=>none) (λy=>none) (λy y y=>none) (λy y=>none) (λy y=>none) (λy=>none) (λy=>none) (λy y y=>none)
noncomputable def bE1:Expr->Option (List Expr):=eV none (λy y=>none) (λy y y=>none) (λy y=>none) (λy y y=>none) (λy y=>none) none (λy y y=>none) none none (λy y y=>none) (λy y y y=>none) (λy=>none) (λy y y=>none) (λy y=>none) (λy y=>none) (λy=>none) (λes=>some es) (λy y y=>none)
noncomputable def bO9:Expr->Option (List Expr):=eV none (λy y=>none) (λy y y=>none) (λy y=>none) (λy y y=>none) (λy y=>none) none (λy y y=>none) none none (λy y y=>none) (λy y y y=>none) (λy=>none) (λy y y=>none) (λy y=>none) (λy y=>none) (λes=>some es) (λy=>none) (λy y y=>none)
noncomputable def bP3:Expr->Option (List (Option Expr)×List Expr):=eV none (λy y=>none) (λy y y=>none) (λy y=>none) (λy y y=>none) (λes fs=>some (es,fs)) none (λy y y=>none) none none (λy y y=>none) (λy y y y=>none) (λy=>none) (λy y y=>none) (λy y=>none) (λy y=>none) (λy=>none) (λy=>none) (λy y y=>none)
noncomputable def cD2:Expr->Option (Expr×Expr):=eV none (λy y=>none) (λy y y=>none) (λy y=>none) (λy y y=>none) (λy y=>none) none (λy y y=>none) none none (λy y y=>none) (λy y y y=>none) (λy=>none) (λy y y=>none) (λx y=>some (x,y)) (λy y=>none) (λy=>none) (λy=>none) (λy y y=>none)
noncomputable def aU0:Expr->Option (Option Expr×Option Expr×Option Expr):=eV none (λy y=>none) (λy y y=>none) (λy y=>none) (λy y y=>none) (λy y=>none) none (λy y y=>none) none none (λy y y=>none) (λy y y y=>none) (λy=>none) (λy y y=>none) (λy y=>none) (λy y=>none) (λy=>none) (λy=>none) (λl h s=>some (l,h,s))
noncomputable def aQ0:Expr->Option (Expr×List Expr×List Keyword×Pos):=eV none (λy y=>none) (λy y y=>none) (λy y=>none) (λy y y=>none) (λy y=>none) none (λy y y=>none) none none (λy y y=>none) (λf es kws pos=>some (f,es,kws,pos)) (λy=>none) (λy y y=>none) (λy y=>none) (λy y=>none) (λy=>none) (λy=>none) (λy y y=>none)
noncomputable def aH8:Expr->Option (Expr×Str×Pos):=eV none (λy y=>none) (λy y y=>none) (λy y=>none) (λy y y=>none) (λy y=>none) none (λy y y=>none) none none (λy y y=>none) (λy y y y=>none) (λy=>none) (λx nm p=>some (x,nm,p)) (λy y=>none) (λy y=>none) (λy=>none) (λy=>none) (λy y y=>none)
noncomputable def aU2:Expr->Option (Expr×List Comprehension×Scope):=eV none (λy y=>none) (λy y y=>none) (λy y=>none) (λy y y=>none) (λy y=>none) none (λe gs sc=>some (e,gs,sc)) none none (λy y y=>none) (λy y y y=>none) (λy=>none) (λy y y=>none) (λy y=>none) (λy y=>none) (λy=>none) (λy=>none) (λy y y=>none)
noncomputable def cC1{α:Type}:List α->Option α | [x]=>some x | _=>none
noncomputable def cS4{α:Type}:List α->Option (α×α) | [x,y]=>some (x,y) | _=>none
noncomputable def cA(e:Expr):Option (Str×List Expr):=(aQ0 e).bind λq=>if q.2.2.1.isEmpty then(bS q.1).map λx=>(x.1,q.2.1)else none
noncomputable def mSrc(P:Px)(Γ:Cx)(f:List Expr->Bool)(k:IK)(e:Expr):Bool:=P.loud&&match k with
 |.expr=>f [e]
 |.range=>(cA e).any λq=>aR9 P Γ q.1 "range"&&aW q.2&&f q.2
 |.enum=>false
noncomputable def vTg(l:Bool)(n:Nat)(t:CT)(e:Expr):Option (List Str):=match t with
 |.one i=>if i=n then(bS e).map λx=>[x.1]else none
 |.many is=>if l=true /\ is=[n,n+1]then(bE1 e).bind λes=>(cS4 es).bind λp=>(bS p.1).bind λx=>(bS p.2).map λy=>[x.1,y.1]else none
noncomputable def cI0(P:Px)(Γ:Cx)(f:List Expr->Bool)(k:IK)(t:CT)(e:Expr):Bool:=match k with
 |.enum=>false
 |k=>mSrc P Γ f k e
noncomputable def isTy(P:Px)(Γ:Cx)(t:Ty)(y:Str):Bool:=match t with
 |.cls c=>isCls P Γ c y&&aZ3 (relI P c) 0 P.S.cls
 |t=>aR9 P Γ y (eA t)&&!(eA t == "")
noncomputable def kEs:List Str->List (Option Expr)->Bool
 |[],es=>es.isEmpty
 |k::ks,es=>match es with
  |[]=>false
  |o::es=>(o.any λe=>(aH7 e).any λc=>cY5 (.str k) c)&&kEs ks es
mutual
noncomputable def mE(P:Px)(Γ:Cx):CE->Expr->Bool
 |.cnst v,e=>(aH7 e).any λc=>cY5 v c
 |.var i,e=>(bS e).any λx=>dJ7 Γ i x.1
 |.bin op a b,e=>(dF2 e).any λq=>decide (op=q.2.1)&&mE P Γ a q.1&&mE P Γ b q.2.2
 |.neg _,_=>false
 |.not a,e=>(vUn e).any λq=>cJ3 q.1&&mE P Γ a q.2
 |.boolop c as,e=>(aZ9 e).any λq=>dJ6 c q.1&&mEs P Γ as q.2&&!as.isEmpty
 |.cmp a ops bs,e=>(cM9 e).any λq=>decide (ops=q.2.1)&&mE P Γ a q.1&&mEs P Γ bs q.2.2&&decide (ops.length=bs.length)&&!bs.isEmpty&&q.2.2.all aR5
 |.ite c a b,e=>(vIf e).any λq=>mB P Γ c q.1&&mE P Γ a q.2.1&&mE P Γ b q.2.2
 |.tup as,e=>(bE1 e).any λes=>mEs P Γ as es&&aW es&&decide (as.length <= 1000)
 |.list as,e=>(bO9 e).any λes=>mEs P Γ as es&&aW es&&decide (as.length <= 1000)
 |.dict ks vs,e=>(bP3 e).any λq=>if ks.isEmpty then vs.isEmpty&&q.1.isEmpty&&q.2.isEmpty else kEs ks q.1&&decide (ks.length <= 15)&&decide ks.Nodup&&decide (q.1.length=q.2.length)&&mEs P Γ vs q.2
 |.idx a i,e=>(cD2 e).any λq=>cW7 q.2&&mE P Γ a q.1&&mE P Γ i q.2
 |.slice a lo hi st,e=>(cD2 e).any λq=>mE P Γ a q.1&&(aU0 q.2).any λt=>t.1.elim (bK5 lo) (λl=>mE P Γ lo l)&&t.2.1.elim (bK5 hi) (λl=>mE P Γ hi l)&&t.2.2.elim (bK5 st) (λl=>mE P Γ st l)
 |.call k as,e=>(cA e).any λq=>dJ8 P Γ k q.1&&aW q.2&&mEs P Γ as q.2
 |.bi b as,e=>(cA e).any λq=>P.loud&&(dD3 b&&isBi P Γ b q.1&&aW q.2&&mEs P Γ as q.2)
 |.smeth o n as,e=>(aQ0 e).any λq=>(aH8 q.1).any λt=>t.2.1 == Str.ofString (bS2 n)&&fH t.1&&aW q.2.1&&decide (q.2.1.length < 29)&&t.2.2.endLine == q.2.2.2.line&&q.2.2.1.isEmpty&&mE P Γ o t.1&&mEs P Γ as q.2.1
 |.isi a t,e=>(cA e).any λq=>(cS4 q.2).any λp=>(bS p.2).any λy=>cJ4 P Γ q.1 "isinstance"&&isTy P Γ t y.1&&aW [p.1]&&mE P Γ a p.1
 |.listrange as,e=>(cA e).any λq=>(cC1 q.2).any λe1=>(cA e1).any λp=>P.loud&&aR9 P Γ q.1 "list"&&aR9 P Γ p.1 "range"&&aW p.2&&mEs P Γ as p.2
 |.comp elt t nl k src ifs,e=>(aU2 e).any λq=>(cC1 q.2.1).any λg=>(vTg P.loud Γ.vis.length t g.target).any λx=>decide (nl=x.length)&&g.is_async == 0&&cA1 q.2.2 x Γ&&aR5 g.iter&&mSrc P Γ (λes=>mEs P Γ src es) k g.iter&&cI1 P (aP2 q.2.2 x Γ) ifs g.ifs&&mE P (aP2 q.2.2 x Γ) elt q.1
 |.glob i,e=>(bS e).any λx=>dJ9 P Γ i x.1
 |.fnv _,_=>false
 |.attr a n,e=>(aH8 e).any λq=>fH q.1&&cY4 P n q.2.1&&mE P Γ a q.1
 |.callv _ _,_=>false
 |.new c as,e=>(cA e).any λq=>P.ok.isNone&&aW6 P Γ c q.1&&cH3 P c&&aW q.2&&mEs P Γ as q.2
 |.meth o n as,e=>(aQ0 e).any λq=>(aH8 q.1).any λt=>P.ok.isNone&&bX6 P n t.2.1&&fH t.1&&aW q.2.1&&decide (q.2.1.length < 29)&&t.2.2.endLine == q.2.2.2.line&&q.2.2.1.isEmpty&&mE P Γ o t.1&&mEs P Γ as q.2.1
noncomputable def mEs(P:Px)(Γ:Cx):List CE->List Expr->Bool
 |[],es=>es.isEmpty
 |a::as,es=>match es with
  |[]=>false
  |e::es=>mE P Γ a e&&mEs P Γ as es
noncomputable def mB(P:Px)(Γ:Cx):CB->Expr->Bool
 |.not b,e=>(vUn e).any λq=>cJ3 q.1&&mB P Γ b q.2
 |.all c bs,e=>(aZ9 e).any λq=>dJ6 c q.1&&cI1 P Γ bs q.2
 |.val c,e=>(aV2 e||(cM9 e).isSome)&&mE P Γ c e
noncomputable def cI1(P:Px)(Γ:Cx):List CB->List Expr->Bool
 |[],es=>es.isEmpty
 |b::bs,es=>match es with
  |[]=>false
  |e::es=>mB P Γ b e&&cI1 P Γ bs es
end
noncomputable def aD1:Expr->Bool:=eV false (λy y=>false) (λy y y=>false) (λy y=>false) (λy y y=>false) (λy y=>false) false (λy y y=>true) true true (λy y y=>false) (λy y y y=>false) (λy=>false) (λy y y=>false) (λy y=>false) (λy y=>false) (λy=>false) (λy=>false) (λy y y=>false)
noncomputable def sV{β:Type}(d:β)(hReturn:Option Expr->β)(hAssign:List Expr->Expr->Pos->β)(hFor:Expr->Expr->List Stmt->List Stmt->β)(hWhile:Expr->List Stmt->List Stmt->β)(hIf:Expr->List Stmt->List Stmt->β)(hRaise:Option Expr->Option Expr->β)(hTry:List Stmt->List ExceptHandler->List Stmt->List Stmt->β)(hExpr:Expr->β)(hPass:β)(hContinue:β)(e:Stmt):β:=Stmt.casesOn (motive_2:=λy_=>β) e (λy y y y y y y y y y=>d) (λy y y y y y y y y y=>d) (λy y y y y y y y y y y=>d) (λa0 y_=>hReturn a0) (λy y=>d) (λa0 a1 a2=>hAssign a0 a1 a2) (λy y y y y y y=>d) (λy y y y=>d) (λy y y y y=>d) (λa0 a1 a2 a3 y_=>hFor a0 a1 a2 a3) (λy y y y y=>d) (λa0 a1 a2 y_=>hWhile a0 a1 a2) (λa0 a1 a2 y_=>hIf a0 a1 a2) (λy y y=>d) (λy y y=>d) (λy y y=>d) (λa0 a1 y_=>hRaise a0 a1) (λa0 a1 a2 a3 y_=>hTry a0 a1 a2 a3) (λy y y y y=>d) (λy y y=>d) (λy y=>d) (λy y y y=>d) (λy y=>d) (λy y=>d) (λa0 y_=>hExpr a0) (λy=>hPass) (λy=>d) (λy=>hContinue)
noncomputable def dF3:Stmt->Option (List Expr×Expr×Pos):=sV none (λy=>none) (λts v pos=>some (ts,v,pos)) (λy y y y=>none) (λy y y=>none) (λy y y=>none) (λy y=>none) (λy y y y=>none) (λy=>none) none none
noncomputable def dC9:Stmt->Option Expr:=sV none (λy=>none) (λy y y=>none) (λy y y y=>none) (λy y y=>none) (λy y y=>none) (λy y=>none) (λy y y y=>none) (λv=>some v) none none
noncomputable def dC8:Stmt->Option (Expr×List Stmt×List Stmt):=sV none (λy=>none) (λy y y=>none) (λy y y y=>none) (λy y y=>none) (λt x y=>some (t,x,y)) (λy y=>none) (λy y y y=>none) (λy=>none) none none
noncomputable def dF1:Stmt->Option (Expr×Expr×List Stmt×List Stmt):=sV none (λy=>none) (λy y y=>none) (λt i b e=>some (t,i,b,e)) (λy y y=>none) (λy y y=>none) (λy y=>none) (λy y y y=>none) (λy=>none) none none
noncomputable def vWh:Stmt->Option (Expr×List Stmt×List Stmt):=sV none (λy=>none) (λy y y=>none) (λy y y y=>none) (λt b e=>some (t,b,e)) (λy y y=>none) (λy y=>none) (λy y y y=>none) (λy=>none) none none
noncomputable def cD4:Stmt->Option (Option Expr):=sV none (λv=>some v) (λy y y=>none) (λy y y y=>none) (λy y y=>none) (λy y y=>none) (λy y=>none) (λy y y y=>none) (λy=>none) none none
noncomputable def cE4:Stmt->Bool:=sV false (λy=>false) (λy y y=>false) (λy y y y=>false) (λy y y=>false) (λy y y=>false) (λy y=>false) (λy y y y=>false) (λy=>false) false true
noncomputable def cD6:Stmt->Bool:=sV false (λy=>false) (λy y y=>false) (λy y y y=>false) (λy y y=>false) (λy y y=>false) (λy y=>false) (λy y y y=>false) (λy=>false) true false
noncomputable def vRse:Stmt->Option (Option Expr×Option Expr):=sV none (λy=>none) (λy y y=>none) (λy y y y=>none) (λy y y=>none) (λy y y=>none) (λe c=>some (e,c)) (λy y y y=>none) (λy=>none) none none
noncomputable def vTry:Stmt->Option (List Stmt×List ExceptHandler×List Stmt×List Stmt):=sV none (λy=>none) (λy y y=>none) (λy y y y=>none) (λy y y=>none) (λy y y=>none) (λy y=>none) (λb h o f=>some (b,h,o,f)) (λy=>none) none none
noncomputable def cS8:ExceptHandler->Option (Expr×Option Str×Expr)
 |.ExceptHandler (some t) nm [s] _=>(cD4 s).bind λo=>o.map λe=>(t,nm,e)
 |_=>none
noncomputable def okNm(Γ:Cx)(ni:Option Nat)(nm:Option Str):Bool:=match ni,nm with
 |none,none=>true
 |_,_=>false
mutual
noncomputable def qS:CS->Bool
 |.exp _=>true
 |.ret _=>true
 |.ite _ a b=>qSs a&&qSs b
 |_=>false
noncomputable def qSs:List CS->Bool
 |[]=>true
 |c::cs=>qS c&&qSs cs
end
noncomputable def bV0(Γ:Cx)(y:Str×Pos)(v:Expr):Bool:=!aD1 v||(aU2 v).any λq=>!(Γ.sc.names.lookup y.1 == some .local)||(y.2.line == v.pos.line&&!(q.2.2.names.any λ(n,k)=>n == y.1&&(k == .local||k == .cell)))
noncomputable def mT(Γ:Cx)(t:CT)(e:Expr):Bool:=match t with
 |.one i=>(bS e).any λx=>bL2 Γ i x.1
 |.many _=>false
noncomputable def mTs(Γ:Cx):List Nat->List Expr->Bool
 |[],es=>es.isEmpty
 |i::is,es=>match es with
  |[]=>false
  |e::es=>(bS e).any (λx=>bL2 Γ i x.1)&&mTs Γ is es
noncomputable def mTF(Γ:Cx)(t:CT)(e:Expr):Bool:=match t with
 |.one i=>(bS e).any λx=>bL2 Γ i x.1
 |.many is=>(bE1 e).any λes=>mTs Γ is es
noncomputable def mAsg(P:Px)(Γ:Cx)(t:CTgt)(c:CE)(tg v:Expr):Bool:=match t with
 |.one t=>match t with
  |.one i=>mT Γ (.one i) tg&&mE P Γ c v&&(bS tg).any λy=>bV0 Γ y v
  |.many is=>P.loud&&mTF Γ (.many is) tg&&mE P Γ c v&&!aD1 v&&(bE1 v).isNone
 |.idx o i=>(cD2 tg).any λq=>mE P Γ o q.1&&mE P Γ i q.2&&mE P Γ c v&&!aD1 v
 |.attr o n=>(aH8 tg).any λq=>cY4 P n q.2.1&&mE P Γ o q.1&&mE P Γ c v&&!aD1 v
 |.idx2 _ _ _ _=>false
mutual
noncomputable def mS(P:Px)(Γ:Cx):CS->Stmt->Bool
 |.asg t e,s=>(dF3 s).any λq=>(cC1 q.1).any λtg=>mAsg P Γ t e tg q.2.1
 |.exp e,s=>(dC9 s).any λv=>mE P Γ e v&&!aD1 v
 |.ite c a b,s=>(dC8 s).any λq=>mB P Γ c q.1&&mSs P Γ a q.2.1&&mSs P Γ b q.2.2
 |.for_ k t src body,s=>(dF1 s).any λq=>q.2.2.2.isEmpty&&mTF Γ t q.1&&aR5 q.2.1&&cI0 P Γ (λes=>mEs P Γ src es) k t q.2.1&&mSs P Γ body q.2.2.1
 |.wh c body,s=>(vWh s).any λq=>q.2.2.isEmpty&&mB P Γ c q.1&&mSs P Γ body q.2.1
 |.ret e,s=>(cD4 s).any λo=>o.any λv=>mE P Γ e v
 |.cont,s=>cE4 s
 |.pass,s=>cD6 s
 |.rse c msg,s=>(vRse s).any λq=>q.2.isNone&&q.1.any λe=>(cA e).any λt=>P.loud&&aW6 P Γ c t.1&&excIn P.K (P.ca c) bmV "ValueError.__new__"&&aW t.2&&mEs P Γ [.cnst (.str msg)] t.2
 |.try_ body c ni h,s=>(vTry s).any λq=>q.2.2.1.isEmpty&&q.2.2.2.isEmpty&&(cC1 q.2.1).any λhd=>(cS8 hd).any λt=>(bS t.1).any λx=>aW6 P Γ c x.1&&aZ3 (relT P c) 0 P.S.cls&&okNm Γ ni t.2.1&&qSs body&&mSs P Γ body q.1&&mE P.quiet Γ h t.2.2
noncomputable def mSs(P:Px)(Γ:Cx):List CS->List Stmt->Bool
 |[],ss=>ss.isEmpty
 |a::as,ss=>match ss with
  |[]=>false
  |s::ss=>mS P Γ a s&&mSs P Γ as ss
end
noncomputable def mF(P:Px)(k:Nat)(d:FnD):Bool:=match P.K.lookup (P.fa k)with
 |some o=>(match o.data with
  |.func fd=>(match fd.body with
   |.stmts body=>o.cls == .type "function"&&bY2 P.K fd d&&mSs P ⟨fd.scope,d.names.map some⟩ d.body body
   |_=>false)
  |_=>false)
 |none=>false
noncomputable def mFs(P:Px):Nat->List FnD->Bool
 |_,[]=>true
 |k,d::ds=>(!P.can k||mF P k d)&&mFs P (k+1) ds
end Mini.Internal
variable{P:Px}{Γ:Cx}
namespace Mini.Internal
open PySem PySem.W PyProof.Rows
structure Fx(W:Wd)(P:Px)(A:Around)(fs:List Env)(n:Nat)(F:Fns):Prop where
 gl:Gl W P.K
 R:AR A fs n
 S:W.S=P.S
 fa:W.fa=P.fa
 ca:W.ca=P.ca
 hh:P.loud=true->A.handled=none
 calls:∀k,P.can k=true->SiF W A fs (.ref (W.fa k)) (F k)
 new:P.ok=none->∀k,k < P.S.fns.length->SiK W (born A) fs (.ref (W.fa k)) (F k)
 qcalls:∀A',AR A' fs n->∀k,P.qok.contains k=true->SiF W A' fs (.ref (W.fa k)) (F k)
 objs:P.ok=none->∀k,k < P.S.fns.length->∃o fd,P.K.lookup (P.fa k)=some o /\ o.data=.func fd /\ o.cls=.type "function"
section
theorem bD(h:(a&&b)=true):a=true /\ b=true:=Bool.and_eq_true_iff.mp h
theorem cN7(h:(!a)=true):a=false:=(Bool.not_eq_true' _).mp h
theorem aW8(hsc:env.scope=Γ.sc)(h:bL3 Γ x=true):env.kindOf x=some .globalImplicit /\ (x == ("__debug__":Str))=false /\ (x == ("__name__":Str))=false:=by
 refine⟨?_,cN7 (bD (bD h).1).2,cN7 (bD h).2⟩;show env.scope.names.lookup x=_;rw[hsc];exact eq_of_beq (bD (bD h).1).1
theorem cP8{id:String}(hsc:env.scope=Γ.sc)(h:cJ4 P Γ x id=true):env.kindOf x=some .globalImplicit /\ (x == ("__debug__":Str))=false /\ (x == ("__name__":Str))=false /\ nsIn P.K mainGlobals x=some none /\ bootBuiltins x=some (.builtin id):=
 have g:=aW8 hsc (bD (bD h).1).1
 ⟨g.1,g.2.1,g.2.2,eq_of_beq (bD (bD h).1).2,eq_of_beq (bD h).2⟩
theorem aN1{id:String}(hsc:env.scope=Γ.sc)(h:aR9 P Γ x id=true):env.kindOf x=some .globalImplicit /\ (x == ("__debug__":Str))=false /\ (x == ("__name__":Str))=false /\ nsIn P.K mainGlobals x=some none /\ bootBuiltins x=some (.type id):=
 have g:=aW8 hsc (bD (bD h).1).1
 ⟨g.1,g.2.1,g.2.2,eq_of_beq (bD (bD h).1).2,eq_of_beq (bD h).2⟩
theorem fd_of{d:Data}(h:isFd d=true):∃fd,d=.func fd:=by
 cases d with
 |func fd=>exact⟨fd,rfl⟩
 |_=>exact absurd h Bool.false_ne_true
theorem dK5(hsc:env.scope=Γ.sc)(h:dJ8 P Γ k x=true):P.can k=true /\ env.kindOf x=some .globalImplicit /\ (x == ("__debug__":Str))=false /\ nsIn P.K mainGlobals x=some (some (.ref (P.fa k))) /\ ∃o fd,P.K.lookup (P.fa k)=some o /\ o.data=.func fd:=by
 have h1:=bD (bD h).1;have g:=aW8 hsc (bD h1.1).2;refine⟨(bD h1.1).1,g.1,g.2.1,eq_of_beq h1.2,?_⟩;have h2:=(bD h).2
 cases q:P.K.lookup (P.fa k)with
 |none=>rw[q]at h2;exact absurd h2 Bool.false_ne_true
 |some o=>rw[q]at h2;exact(fd_of h2).elim λfd e=>⟨o,fd,rfl,e⟩
theorem bF9(hsc:env.scope=Γ.sc)(h:aW6 P Γ c x=true):env.kindOf x=some .globalImplicit /\ (x == ("__debug__":Str))=false /\ nsIn P.K mainGlobals x=some (some (.ref (P.ca c))):=
 have g:=aW8 hsc (bD h).1
 ⟨g.1,g.2.1,eq_of_beq (bD h).2⟩
theorem aE3{f:Nat->ClsD->Bool}:∀{ds:List ClsD} {j i:Nat} {d:ClsD},aZ3 f j ds=true->ds[i]?=some d->f (j+i) d=true
 |[],j,i,d,_,h=>by simp at h
 |x::ds,j,i,d,hm,h=>by
  refine e0a2 (Bool.and_eq_true_iff.mp hm) λh1 h2=>?_
  cases i with
  |zero=>
   have e:x=d:=by simpa using h
   rw[e]at h1;exact h1
  |succ i=>
   have:=aE3 h2 (show ds[i]?=some d by simpa using h)
   rwa [show j+1+i=j+(i+1) by lia]at this
theorem bD1:∀{cs:List CE} {r:Lo} {m:MH} {vs:List V} {m':MH},evs S F cs r m=.ok vs m'->vs.length=cs.length
 |[],r,m,vs,m',h=>by (refine aL5 h λz1 z2=>?_;clear h;subst z1;subst z2);rfl
 |c::cs,r,m,vs,m',h=>by
  have h':(ev S F c r m).bind (λx=>bnd (evs S F cs r) λxs=>ret (x::xs))=.ok vs m':=h
  cases e1:ev S F c r m with
  |bad=>rw[e1]at h';injection h'
  |exc k m1=>rw[e1]at h';injection h'
  |ok x m1=>
   rw[e1]at h';have h2:(evs S F cs r m1).bind (λxs=>ret (x::xs))=.ok vs m':=h'
   cases e2:evs S F cs r m1 with
   |bad=>rw[e2]at h2;injection h2
   |exc k m2=>rw[e2]at h2;injection h2
   |ok xs m2=>
    rw[e2]at h2;(refine aL5 h2 λz1 z2=>?_;clear h2;rw[<- z1];rw[z2]);simp[bD1 e2]
theorem cW1{c:Bool}(h:dJ6 c op=true):(op=.And /\ c=true) \/ (op=.Or /\ c=false):=by
 cases (c) <;> cases (op) <;> first | (exact absurd h Bool.false_ne_true) | simp
theorem bE7(scope:Scope)(x:List Str):∀vis,(aL3 scope x vis).length=vis.length+x.length
 |[]=>by rw[aL3,List.length_map,List.length_nil,Nat.zero_add]
 |_::r=>by show(aL3 scope x r).length+1=_;rw[bE7 scope x r,List.length_cons,Nat.add_right_comm]
set_option tactic.hygienic true in
theorem aG2(scope:Scope)(x:List Str):∀(vis:List (Option Str)) (i:Nat) (y:Str),(aL3 scope x vis)[i]?=some (some y)->(vis.length <= i /\ x[i - vis.length]?=some y) \/ (vis[i]?=some (some y) /\ scope.names.lookup y=some .free)
 |[],i,y,h=>by
  rw[aL3,List.getElem?_map]at h;refine .inl ⟨Nat.zero_le _,?_⟩
  cases q:x[i]? with
  |none=>rw[q]at h;injection h
  |some z=>rw[q]at h;exact Option.some.inj h
 |o::r,i,y,h=>by
  cases i with
  |zero=>
   simp only[aL3,List.getElem?_cons_zero,Option.some.injEq]at h
   right
   split at h
   ·split at h
    ·rename_i e;(refine aF h λz1=>?_;clear h;subst z1);exact⟨rfl,e⟩
    ·injection h
   ·injection h
  |succ i=>
   simp only[aL3,List.getElem?_cons_succ]at h;rcases aG2 scope x r i y h with⟨a,b⟩ | a
   ·exact .inl ⟨Nat.succ_le_succ a,by rw[List.length_cons,Nat.add_sub_add_right];exact b⟩
   ·exact .inr (by simpa using a)
theorem aC3(scope:Scope)(x:List Str)(k:Nat):∀(vis:List (Option Str)),(aL3 scope x vis)[vis.length+k]?=x[k]?.map some
 |[]=>by rw[aL3,List.length_nil,Nat.zero_add,List.getElem?_map]
 |_::r=>by
  rw[List.length_cons,Nat.add_right_comm];exact aC3 scope x k r
theorem aV7:∀{vis:List (Option Str)},(vis.filterMap id).Nodup->∀(i j:Nat) (y:Str),vis[i]?=some (some y)->vis[j]?=some (some y)->i=j
 |[],_,i,j,y,h,_=>by simp at h
 |o::r,hn,i,j,y,h1,h2=>by
  have tail:(r.filterMap id).Nodup:=by
   cases o with
   |none=>simpa using hn
   |some z=>simp at hn;exact hn.2
  have no:o=some y->∀k:Nat,r[k]?=some (some y)->False:=λe k hk=>by
   subst e;simp at hn;exact hn.1 (List.mem_of_getElem? hk)
  cases i with
  |zero=>
   cases j with
   |zero=>rfl
   |succ j=>simp at h1 h2;exact(no h1 j h2).elim
  |succ i=>
   cases j with
   |zero=>simp at h1 h2;exact(no h2 i h1).elim
   |succ j=>simp at h1 h2;rw[aV7 tail i j y h1 h2]
theorem aY2{x:List Str}(hsc:env.scope=Γ.sc)(h:cA1 scope x Γ=true):CompOk scope env Γ.vis (aL3 scope x Γ.vis) x.length:=by
 simp only[cA1,Bool.and_eq_true,beq_iff_eq,decide_eq_true_eq]at h;obtain⟨⟨⟨⟨⟨⟨h1,h2⟩,h3⟩,h4⟩,h5⟩,h6⟩,h7⟩:=h;refine⟨h1,λq hq e=>?_,λq hq e=>?_,λq hq e=>?_,λi y hy=>?_,λi j y h1' h2'=>?_,bE7 ..⟩
 ·have:=List.all_eq_true.mp h2 q hq
  simpa [e]using this
 ·have:=List.all_eq_true.mp h3 q hq
  simp[e]at this
 ·have:=List.all_eq_true.mp h4 q hq
  simp only[e,beq_self_eq_true,Bool.not_true,Bool.false_or,Bool.and_eq_true,Bool.or_eq_true,beq_iff_eq]at this;refine e0a2 this λa b=>?_;refine e1a1 (List.getElem?_of_mem (List.contains_iff_mem.mp a)) λi hi=>?_;refine⟨i,hi,?_⟩;show env.scope.names.lookup q.1=_ \/ env.scope.names.lookup q.1=_;rw[hsc];exact b
 ·rcases aG2 scope x Γ.vis i y hy with⟨a,b⟩ | ⟨a,b⟩
  ·exact .inl ⟨a,beq_iff_eq.mp (List.all_eq_true.mp h5 y (List.mem_of_getElem? b))⟩
  ·exact .inr ⟨a,b⟩
 ·have loc:∀{i:Nat},x[i]?=some y->scope.names.lookup y=some .local:=λb=>beq_iff_eq.mp (List.all_eq_true.mp h5 y (List.mem_of_getElem? b))
  rcases aG2 scope x Γ.vis i y h1' with⟨a,b⟩ | ⟨a,b⟩ <;> rcases aG2 scope x Γ.vis j y h2' with⟨c,d⟩ | ⟨c,d⟩
  ·have:=(List.getElem?_inj (List.getElem?_eq_some_iff.mp b).1 h6.1).mp (b.trans d.symm)
   rw[<- Nat.sub_add_cancel a,this,Nat.sub_add_cancel c]
  ·rw[loc b]at d;(refine aF d λz1=>?_;clear d;(first | (injection z1;done) | subst z1 | cases (z1)))
  ·rw[loc d]at b;(refine aF b λz1=>?_;clear b;(first | (injection z1;done) | subst z1 | cases (z1)))
  ·exact aV7 h6.2 i j y a c
theorem aG4(hsc:env.scope=Γ.sc):relabel scope env=cU6 scope Γ.sc:=by
 unfold relabel cU6 Env.kindOf;rw[hsc]
theorem bE6(h:aR5 iter=true)(x:Value):foldedSetIterable iter env x=Pure.pure x:=by
 cases (iter) <;> first | (exact absurd h Bool.false_ne_true) | rfl
theorem bG2{op:CmpOp}(h:aR5 e=true):behindInMarks op e=false:=by
 cases (e) <;> first | (exact absurd h Bool.false_ne_true) | rfl
set_option tactic.hygienic true in
theorem aR2(h:aV2 e=true):isTrue e env (eval e env)=(do let v <- eval e env;PySem.standAt e.pos;PySem.holding [v] (truthy v)):=by
 cases (e) <;> first | rfl | (exact absurd h Bool.false_ne_true) | skip
 rename_i op x pos
 cases (op) <;> first | rfl | (exact absurd h Bool.false_ne_true)
end
end Mini.Internal
variable{c:List Expr}{op:Operator}
namespace Mini.Internal
open PySem PySem.W PyProof.Rows
theorem aD(h:false=true):C:=by injection h
theorem aB(h:(a&&b)=true):a=true /\ b=true:=by cases (a) <;> cases (b) <;> first | (exact⟨rfl,rfl⟩) | (exact aD h)
theorem aBB2(h:(a0&&a1)=true)(k:a0=true->a1=true->X):X:=k (aB h).1 (aB h).2
theorem aBB3(h:(a0&&a1&&a2)=true)(k:a0=true->a1=true->a2=true->X):X:=aBB2 (aB h).1 λh0 h1=>k h0 h1 (aB h).2
theorem aBB4(h:(a0&&a1&&a2&&a3)=true)(k:a0=true->a1=true->a2=true->a3=true->X):X:=aBB3 (aB h).1 λh0 h1 h2=>k h0 h1 h2 (aB h).2
theorem aBB5(h:(a0&&a1&&a2&&a3&&a4)=true)(k:a0=true->a1=true->a2=true->a3=true->a4=true->X):X:=aBB4 (aB h).1 λh0 h1 h2 h3=>k h0 h1 h2 h3 (aB h).2
theorem aBB6(h:(a0&&a1&&a2&&a3&&a4&&a5)=true)(k:a0=true->a1=true->a2=true->a3=true->a4=true->a5=true->X):X:=aBB5 (aB h).1 λh0 h1 h2 h3 h4=>k h0 h1 h2 h3 h4 (aB h).2
theorem aBB7(h:(a0&&a1&&a2&&a3&&a4&&a5&&a6)=true)(k:a0=true->a1=true->a2=true->a3=true->a4=true->a5=true->a6=true->X):X:=aBB6 (aB h).1 λh0 h1 h2 h3 h4 h5=>k h0 h1 h2 h3 h4 h5 (aB h).2
theorem aBB8{a7:Bool}(h:(a0&&a1&&a2&&a3&&a4&&a5&&a6&&a7)=true)(k:a0=true->a1=true->a2=true->a3=true->a4=true->a5=true->a6=true->a7=true->X):X:=aBB7 (aB h).1 λh0 h1 h2 h3 h4 h5 h6=>k h0 h1 h2 h3 h4 h5 h6 (aB h).2
theorem aBB9{a7 a8:Bool}(h:(a0&&a1&&a2&&a3&&a4&&a5&&a6&&a7&&a8)=true)(k:a0=true->a1=true->a2=true->a3=true->a4=true->a5=true->a6=true->a7=true->a8=true->X):X:=aBB8 (aB h).1 λh0 h1 h2 h3 h4 h5 h6 h7=>k h0 h1 h2 h3 h4 h5 h6 h7 (aB h).2
theorem cV{p:Prop}[Decidable p](h:decide p=true):p:=of_decide_eq_true h
section
variable{K:Frag}
theorem dG5{l:List α}{q:α×α×α×α×α×α}(h:six l=some q):l=[q.1,q.2.1,q.2.2.1,q.2.2.2.1,q.2.2.2.2.1,q.2.2.2.2.2]:=by
 cases l with
 |nil=>injection h
 |cons a l=>cases l with
  |nil=>injection h
  |cons b l=>cases l with
   |nil=>injection h
   |cons c l=>cases l with
    |nil=>injection h
    |cons d l=>cases l with
     |nil=>injection h
     |cons e l=>cases l with
      |nil=>injection h
      |cons f l=>cases l with
       |nil=>(refine aF h λz1=>?_;clear h;subst z1);rfl
       |cons y_ y_=>injection h
theorem cM1{d:Data}{cd:ClassData}(h:dM0 d=some cd):d=.cls cd:=by
 cases (d) <;> (first|(injection h;done)|(refine aF h λz1=>?_;clear h;(first | (injection z1;done) | subst z1 | cases (z1))))
 rfl
theorem dP1{c:Prop}[Decidable c]{a b:α}(h:(if c then some a else none)=some b):c /\ a=b:=by
 by_cases q:c
 ·rw[if_pos q]at h;exact⟨q,Option.some.inj h⟩
 ·rw[if_neg q]at h;(first|(injection h;done)|(refine aF h λz1=>?_;clear h;(first | (injection z1;done) | subst z1 | cases (z1)))|(refine aL5 h λz1 z2=>?_;clear h;(first | (injection z1;done) | subst z1 | cases (z1));(first | (injection z2;done) | subst z2 | cases (z2)))|subst h|refine VR.dInt h λy_=>?_|cases (h))
theorem dP0{o:Obj}{c:Value}{d:Data}{s:Array (Option Value)}(a:o.cls=c)(b:o.data=d)(e:o.slots=s):o=⟨c,o.dict,d,s⟩:=by rw[<- a,<- b,<- e]
theorem cd_of{cd:ClassData}{m:List Value}(a:cd.mro=m)(b:cd.hasDict=true)(c:cd.abstract=false)(d:cd.hasDel=false):cd=⟨cd.name,cd.bases,m,cd.ns,cd.qualname,true,cd.slotNames,cd.subclasses,false,cd.collection,false⟩:=by
 rw[<- a,<- b];exact(congrArg (λx=>ClassData.mk cd.name cd.bases cd.mro cd.ns cd.qualname cd.hasDict cd.slotNames cd.subclasses x cd.collection cd.hasDel) c).trans (congrArg (ClassData.mk cd.name cd.bases cd.mro cd.ns cd.qualname cd.hasDict cd.slotNames cd.subclasses false cd.collection) d)
theorem bU6{C N:Addr}(X:K.In h)(e:bF4 K C=some N):(∃nm q bs sn sub col dd k0 k1 k2 k3 k5,h.get? C=some (excClassObj nm q C N bs [.type "object"] true sn sub false col dd k0 k1 k2 k3 k5 "object.__new__")) /\ nsOkIn K N=true:=by
 refine e1a2 (Option.bind_eq_some_iff.mp e) λo ho e=>?_;refine e1a2 (Option.bind_eq_some_iff.mp e) λcd hd e=>?_;refine e1a2 (Option.bind_eq_some_iff.mp e) λq hq e=>?_;refine e0a2 (dP1 e) λhc eN=>?_;rw[<- eN];have h7:=aB hc;have h6:=aB h7.1;have h5:=aB h6.1;have h4:=aB h5.1;have h3:=aB h4.1;have h2:=aB h3.1;refine⟨⟨cd.name,cd.qualname,cd.bases,cd.slotNames,cd.subclasses,cd.collection,o.dict,q.1,q.2.1,q.2.2.1,q.2.2.2.1,q.2.2.2.2.2,(X _ _ ho).trans (congrArg some ?_)⟩,h7.2⟩;exact dP0 (beq_iff_eq.mp h2.1) ((cM1 hd).trans (congrArg Data.cls (cd_of (beq_iff_eq.mp h2.2) h5.2 (Bool.not_eq_true' _ |>.mp h6.2) (Bool.not_eq_true' _ |>.mp h4.2)))) (Array.toArray_toList.symm.trans (congrArg List.toArray ((dG5 hq).trans (by rw[beq_iff_eq.mp h3.2]))))
theorem dI0{N:Addr}{mN:Str->Option Value}{v:Value}(X:K.In h)(G:h.Ns N mN)(e:nsIn K N x=some (some v)):mN x=some v:=by
 refine e3a4 G λob es ep ho hd y_ hf=>?_;rw[<- hf x]
 cases q:K.lookup N with
 |none=>unfold nsIn at e;rw[q]at e;injection e
 |some o2=>
  have z:=(X _ _ q).symm.trans ho
  (refine aF z λz1=>?_;clear z;subst z1)
  obtain⟨o1,o5,o3,o4⟩:=o2;have hd:o3=_:=hd;subst hd;unfold nsIn at e;rw[q]at e;have e:(match es.toList.find? (·.key.isStr x)with | some en=>some (some en.val) | none=>if es.toList.any (·.refKey)then none else some none)=some (some v):=e;unfold nsFind findBy;rw[<- Array.find?_toList]
  cases he:es.toList.find? (·.key.isStr x)with
  |none=>
   rw[he]at e;have e:(if es.toList.any (·.refKey)then none else some none)=some (some v):=e;by_cases w:es.toList.any (·.refKey)=true
   ·rw[if_pos w]at e;injection e
   ·rw[if_neg w]at e;injection e
  |some en=>
   rw[he]at e;have e:some (some en.val)=some (some v):=e;injection e
theorem dI6(e:fastLookup "object" x=some none):typeLookup (.type "object") x=Pure.pure none:=by
 rw[typeLookup_type,builtinLookup_eq_fast,e]
theorem aT6{N:Addr}{D:ClsD}:∀{xs:List Str} {j i:Nat} {x:Str},aH3 P N D j xs=true->xs[i]?=some x->nsIn P.K N x=some ((D.meths.lookup (j+i)).map λk=>.ref (P.fa k)) /\ fastLookup "object" x=some none
 |[],_,_,_,_,e=>by simp at e
 |y::ys,j,i,x,h,e=>by
  refine e0a2 (aB (b:=aH3 P N D (j+1) ys) h) λh h3=>?_;have h2:=(aB h).2;have h1:=(aB h).1
  cases i with
  |zero=>
   have q:y=x:=by simpa using e
   rw[<- q];refine⟨beq_iff_eq.mp h1,?_⟩
   split at h2
   ·assumption
   ·injection h2
  |succ i=>
   have:=aT6 (i:=i) h3 (by simpa using e);rw[show j+(i+1)=j+1+i by lia];exact this
theorem dL9(X:Fx W P A fs n F){c:Nat}(h:cH3 P c=true):∃D N mN k0,ClsOk W c D N mN /\ D.init=some k0 /\ k0 < P.S.fns.length /\ keepIn P.K (.ref (W.ca c))=true /\ makesIn P.K (W.ca c)=true /\ findIn P.K (.ref (W.ca c)) "__init__"=some (some (.ref (W.fa k0))) /\ typeIn P.K (.ref (W.fa k0))=some (.type "function"):=by
 refine hide λG_ g_=>?_;unfold cH3 at h
 cases hD:P.S.cls[c]? with
 |none=>rw[hD]at h;exact aD h
 |some D=>
  rw[hD]at h;dsimp only at h;refine aBB8 h λh1 h2 h3 h4 h5 h6 h7 h8=>?_
  cases hi:D.init with
  |none=>rw[hi]at h2;exact aD h2
  |some k0=>
   rw[hi]at h2;dsimp only at h2;refine aBB3 h2 λt1 t2 t3=>?_
   cases hN:bF4 P.K (P.ca c)with
   |none=>rw[hN]at h5;exact aD h5
   |some N=>
    rw[hN]at h5;dsimp only at h5;refine aBB4 h5 λg1 g2 g3 g4=>?_;refine e0a2 (bU6 X.gl.X hN) λob hok=>?_;have ns:W.base.Ns N (W.base.nsMap N):=.of_isNs (isNs_of_in X.gl.X hok);have nd:P.S.attrs.Nodup:=cV h6;refine g_ ⟨D,N,_,k0,⟨X.S▸hD,(Bool.not_eq_true' _).mp h1,X.ca▸ob,ns,ns_none_of X.gl.X ns (beq_iff_eq.mp g1),ns_none_of X.gl.X ns (beq_iff_eq.mp g2),ns_none_of X.gl.X ns (beq_iff_eq.mp g3),?_,?_,?_,X.S▸cV h7,?_⟩,hi,cV t1,X.ca▸h3,X.ca▸h4,X.ca▸X.fa▸beq_iff_eq.mp t2,X.fa▸beq_iff_eq.mp t3⟩
    ·intro i x e
     rw[X.S]at e;refine e0a2 (aT6 g4 e) λq y_=>?_;rw[Nat.zero_add]at q;rw[X.fa]
     cases hl:D.meths.lookup i with
     |none=>rw[hl]at q;exact ns_none_of X.gl.X ns q
     |some k=>rw[hl]at q;exact dI0 X.gl.X ns q
    ·intro i x e
     rw[X.S]at e;exact dI6 (aT6 g4 e).2
    ·intro i j x e1 e2
     rw[X.S]at e1 e2;have l1:=(List.getElem?_eq_some_iff.mp e1).1;exact(List.getElem?_inj l1 nd).mp (e1.trans e2.symm)
    ·intro i k e
     rw[X.S];have:∀(l:List (Nat×Nat)),(l.all λq=>decide (q.2 < P.S.fns.length))=true->l.lookup i=some k->k < P.S.fns.length:=by
      intro l
      induction l with
      |nil=>intro _ q;injection q
      |cons a l ih=>
       intro ha q;rw[List.all_cons]at ha;have a2:=(aB ha).2;have a1:=(aB ha).1;obtain⟨a0,a3⟩:=a;rw[List.lookup_cons]at q
       cases z:i == a0 with
       |true=>rw[z]at q;(refine aF q λz1=>?_;clear q;rw[<- z1]);exact cV a1
       |false=>rw[z]at q;exact ih a2 q
     exact this _ h8 e
theorem cQ4(h:bX6 P k x=true):P.S.attrs[k]?=some x:=by
 unfold bX6 at h
 cases q:P.S.attrs[k]? with
 |none=>rw[q]at h;exact aD h
 |some y=>rw[q]at h;rw[beq_iff_eq.mp h]
theorem cP4(h:cY4 P k x=true):P.S.attrs[k]?=some x /\ ∀(c:Nat) (D:ClsD),P.S.cls[c]?=some D->D.meths.lookup k=none:=by
 have h2:=(aB h).2;have h1:=(aB h).1;exact⟨cQ4 h1,λc D e=>Option.isNone_iff_eq_none.mp (List.all_eq_true.mp h2 D (List.mem_of_getElem? e))⟩
end
end Mini.Internal
variable{a:Expr}{b:CE}{k:IK}
namespace Mini.Internal
open PySem PySem.W PyProof.Rows
theorem dA6{px py:Pos}{t:Ty}{tv:Value}{K:Frag}(gl:Gl W K)(e1:nsIn K mainGlobals x=some none)(b1:bootBuiltins x=some (.builtin "isinstance"))(n1:(x == ("__name__":Str))=false)(k1:env.kindOf x=some .globalImplicit)(d1:(x == ("__debug__":Str))=false)(hy:∀{s:Shared} {io:Io} {m:MH} {r:Lo} {Q:Value->Shared->Prop} {E:Value->Shared->Prop},Sit W fs env vis s io m r->Q tv s->wpAny (model W.prog W.w) A (eval (.Name y py) env) Q E s)(hsim:∀{s:Shared} {io:Io} {m:MH} {v:V} {u:Value},HR W s.heap io m->VR W s.heap io v u->Si W [] A fs BV (call (.builtin "isinstance") [u,tv]) s io m (aB3 W.S v t m))(hs:aW [a]=true)(ha:SiE W A fs env vis (eval a env) ca):
  SiE W A fs env vis (eval (.Call (.Name x px) [a,.Name y py] [] pos) env) (λr=>bnd (ca r) λv=>bnd (aB3 W.S v t) λb=>ret (.bool b)):=by
 intro s io m r Z hne;dsimp only at hne ⊢;have hs':aW [a,.Name y py]=true:=by cases (a) <;> first | rfl | exact absurd hs Bool.false_ne_true
 refine wpAny_Call_NameR (aE8 gl Z e1 b1 n1 k1 d1 (Calls.callWith_builtin (dS hs') (dO hs' ?_)));refine PyProof.Rows.spliced_more ?_ (fD hs');refine wpAny_mono (ha s io m r Z (Res.bind_ne hne)) (λu s₁ q=>?_) λy_ y_ q=>q.bind .refl (.refl _);obtain⟨v,m₁,io₁,e,st,H,k,sm⟩:=q;have ee:∀f:V->Mn V,bnd (ca r) f m=f v m₁:=λf=>by show(ca r m).bind _=_;rw[e];rfl
 rw[ee]at hne ⊢;refine PyProof.Rows.spliced_more (hy (Z.step H st) ?_) rfl;refine PyProof.Rows.spliced_none ?_;refine wpAny_mono (hsim H k (Res.bind_ne hne)) (λw s₂ q=>?_) λy_ y_ q=>(q.mono st sm).bind .refl (.refl _);obtain⟨b,m₂,io₂,e',st2,H2,k2',sm2⟩:=q;subst k2';exact⟨.bool b,m₂,io₂,by show(aB3 W.S v t m₁).bind _=_;rw[e'];rfl,st.trans st2,H2,.bool b,sm.trans sm2⟩
theorem ty_of{t:Ty}(h:(!(eA t == ""))=true):∀c,t≠.cls c:=λc e=>by subst e;exact absurd h Bool.false_ne_true
theorem aA{a:α}(h:(none:Option α)=some a):C:=by injection h
theorem cW6{a:α}{l:List α}(h:[]=a::l):C:=by injection h
theorem bV1(h:0=n+1):C:=by injection h
theorem aI{o:Option α}{f:α->Bool}{G:Prop}(h:o.any f=true)(k:∀a,o=some a->f a=true->G):G:=by
 cases o with
 |none=>exact aD h
 |some a=>exact k a rfl h
noncomputable def cC0(c:Const)(e:Expr):Prop:=∃k pos,e=.Constant c k pos
theorem bK0{c:Const}(h:aH7 e=some c):cC0 c e:=
 Expr.casesOn (motive_1:=λe=>aH7 e=some c->cC0 c e) e (λy y y=>aA) (λy y y=>aA) (λy y y y=>aA) (λy y y=>aA) (λy y y y=>aA) (λy y y y=>aA) (λy y y=>aA) (λy y y=>aA) (λy y y y=>aA) (λy y y y=>aA) (λy y y y y=>aA) (λy y y y=>aA) (λy y=>aA) (λy y=>aA) (λy y=>aA) (λy y y y=>aA) (λy y y y=>aA) (λy y y y=>aA) (λy y=>aA) (λy_ y_ y_ h=>by (refine aF h λz1=>?_;clear h;rw[<- z1]);exact⟨_,_,rfl⟩) (λy y y=>aA) (λy y y=>aA) (λy y=>aA) (λy y=>aA) (λy y=>aA) (λy y y=>aA) (λy y y y=>aA) h
theorem aU1{c:Const}(h:aH7 e=some c):∃k pos,e=.Constant c k pos:=bK0 h
noncomputable def cR0(c:Str×Pos)(e:Expr):Prop:=e=.Name c.1 c.2
theorem bO7{c:Str×Pos}(h:bS e=some c):cR0 c e:=
 Expr.casesOn (motive_1:=λe=>bS e=some c->cR0 c e) e (λy y y=>aA) (λy y y=>aA) (λy y y y=>aA) (λy y y=>aA) (λy y y y=>aA) (λy y y y=>aA) (λy y y=>aA) (λy y y=>aA) (λy y y y=>aA) (λy y y y=>aA) (λy y y y y=>aA) (λy y y y=>aA) (λy y=>aA) (λy y=>aA) (λy y=>aA) (λy y y y=>aA) (λy y y y=>aA) (λy y y y=>aA) (λy y=>aA) (λy y y=>aA) (λy y y=>aA) (λy y y=>aA) (λy y=>aA) (λy_ y_ h=>by (refine aF h λz1=>?_;clear h;rw[<- z1]);rfl) (λy y=>aA) (λy y y=>aA) (λy y y y=>aA) h
theorem b7{c:Str×Pos}(h:bS e=some c):e=.Name c.1 c.2:=bO7 h
noncomputable def dO5(c:Expr×Operator×Expr)(e:Expr):Prop:=∃pos,e=.BinOp c.1 c.2.1 c.2.2 pos
theorem cE6{c:Expr×Operator×Expr}(h:dF2 e=some c):dO5 c e:=
 Expr.casesOn (motive_1:=λe=>dF2 e=some c->dO5 c e) e (λy y y=>aA) (λy y y=>aA) (λy_ y_ y_ y_ h=>by (refine aF h λz1=>?_;clear h;rw[<- z1]);exact⟨_,rfl⟩) (λy y y=>aA) (λy y y y=>aA) (λy y y y=>aA) (λy y y=>aA) (λy y y=>aA) (λy y y y=>aA) (λy y y y=>aA) (λy y y y y=>aA) (λy y y y=>aA) (λy y=>aA) (λy y=>aA) (λy y=>aA) (λy y y y=>aA) (λy y y y=>aA) (λy y y y=>aA) (λy y=>aA) (λy y y=>aA) (λy y y=>aA) (λy y y=>aA) (λy y=>aA) (λy y=>aA) (λy y=>aA) (λy y y=>aA) (λy y y y=>aA) h
theorem cT0{c:Expr×Operator×Expr}(h:dF2 e=some c):∃pos,e=.BinOp c.1 c.2.1 c.2.2 pos:=cE6 h
noncomputable def IsUn(c:UnaryOp×Expr)(e:Expr):Prop:=∃pos,e=.UnaryOp c.1 c.2 pos
theorem cS3{c:UnaryOp×Expr}(h:vUn e=some c):IsUn c e:=
 Expr.casesOn (motive_1:=λe=>vUn e=some c->IsUn c e) e (λy y y=>aA) (λy y y=>aA) (λy y y y=>aA) (λy_ y_ y_ h=>by (refine aF h λz1=>?_;clear h;rw[<- z1]);exact⟨_,rfl⟩) (λy y y y=>aA) (λy y y y=>aA) (λy y y=>aA) (λy y y=>aA) (λy y y y=>aA) (λy y y y=>aA) (λy y y y y=>aA) (λy y y y=>aA) (λy y=>aA) (λy y=>aA) (λy y=>aA) (λy y y y=>aA) (λy y y y=>aA) (λy y y y=>aA) (λy y=>aA) (λy y y=>aA) (λy y y=>aA) (λy y y=>aA) (λy y=>aA) (λy y=>aA) (λy y=>aA) (λy y y=>aA) (λy y y y=>aA) h
theorem cM8{c:UnaryOp×Expr}(h:vUn e=some c):∃pos,e=.UnaryOp c.1 c.2 pos:=cS3 h
noncomputable def cR5(c:BoolOp×List Expr)(e:Expr):Prop:=∃pos,e=.BoolOp c.1 c.2 pos
theorem bP8{c:BoolOp×List Expr}(h:aZ9 e=some c):cR5 c e:=
 Expr.casesOn (motive_1:=λe=>aZ9 e=some c->cR5 c e) e (λy_ y_ y_ h=>by (refine aF h λz1=>?_;clear h;rw[<- z1]);exact⟨_,rfl⟩) (λy y y=>aA) (λy y y y=>aA) (λy y y=>aA) (λy y y y=>aA) (λy y y y=>aA) (λy y y=>aA) (λy y y=>aA) (λy y y y=>aA) (λy y y y=>aA) (λy y y y y=>aA) (λy y y y=>aA) (λy y=>aA) (λy y=>aA) (λy y=>aA) (λy y y y=>aA) (λy y y y=>aA) (λy y y y=>aA) (λy y=>aA) (λy y y=>aA) (λy y y=>aA) (λy y y=>aA) (λy y=>aA) (λy y=>aA) (λy y=>aA) (λy y y=>aA) (λy y y y=>aA) h
theorem bE3{c:BoolOp×List Expr}(h:aZ9 e=some c):∃pos,e=.BoolOp c.1 c.2 pos:=bP8 h
noncomputable def dO4(c:Expr×List CmpOp×List Expr)(e:Expr):Prop:=∃pos,e=.Compare c.1 c.2.1 c.2.2 pos
theorem cE5{c:Expr×List CmpOp×List Expr}(h:cM9 e=some c):dO4 c e:=
 Expr.casesOn (motive_1:=λe=>cM9 e=some c->dO4 c e) e (λy y y=>aA) (λy y y=>aA) (λy y y y=>aA) (λy y y=>aA) (λy y y y=>aA) (λy y y y=>aA) (λy y y=>aA) (λy y y=>aA) (λy y y y=>aA) (λy y y y=>aA) (λy y y y y=>aA) (λy y y y=>aA) (λy y=>aA) (λy y=>aA) (λy y=>aA) (λy_ y_ y_ y_ h=>by (refine aF h λz1=>?_;clear h;subst z1);exact⟨_,rfl⟩) (λy y y y=>aA) (λy y y y=>aA) (λy y=>aA) (λy y y=>aA) (λy y y=>aA) (λy y y=>aA) (λy y=>aA) (λy y=>aA) (λy y=>aA) (λy y y=>aA) (λy y y y=>aA) h
theorem bP6{c:Expr×List CmpOp×List Expr}(h:cM9 e=some c):∃pos,e=.Compare c.1 c.2.1 c.2.2 pos:=cE5 h
noncomputable def IsIf(c:Expr×Expr×Expr)(e:Expr):Prop:=∃pos,e=.IfExp c.1 c.2.1 c.2.2 pos
theorem cS7{c:Expr×Expr×Expr}(h:vIf e=some c):IsIf c e:=
 Expr.casesOn (motive_1:=λe=>vIf e=some c->IsIf c e) e (λy y y=>aA) (λy y y=>aA) (λy y y y=>aA) (λy y y=>aA) (λy y y y=>aA) (λy_ y_ y_ y_ h=>by (refine aF h λz1=>?_;clear h;rw[<- z1]);exact⟨_,rfl⟩) (λy y y=>aA) (λy y y=>aA) (λy y y y=>aA) (λy y y y=>aA) (λy y y y y=>aA) (λy y y y=>aA) (λy y=>aA) (λy y=>aA) (λy y=>aA) (λy y y y=>aA) (λy y y y=>aA) (λy y y y=>aA) (λy y=>aA) (λy y y=>aA) (λy y y=>aA) (λy y y=>aA) (λy y=>aA) (λy y=>aA) (λy y=>aA) (λy y y=>aA) (λy y y y=>aA) h
theorem dF0{c:Expr×Expr×Expr}(h:vIf e=some c):∃pos,e=.IfExp c.1 c.2.1 c.2.2 pos:=cS7 h
noncomputable def dN6(c:List Expr)(e:Expr):Prop:=∃k pos,e=.Tuple c k pos
theorem cD0(h:bE1 e=some c):dN6 c e:=
 Expr.casesOn (motive_1:=λe=>bE1 e=some c->dN6 c e) e (λy y y=>aA) (λy y y=>aA) (λy y y y=>aA) (λy y y=>aA) (λy y y y=>aA) (λy y y y=>aA) (λy y y=>aA) (λy y y=>aA) (λy y y y=>aA) (λy y y y=>aA) (λy y y y y=>aA) (λy y y y=>aA) (λy y=>aA) (λy y=>aA) (λy y=>aA) (λy y y y=>aA) (λy y y y=>aA) (λy y y y=>aA) (λy y=>aA) (λy y y=>aA) (λy y y=>aA) (λy y y=>aA) (λy y=>aA) (λy y=>aA) (λy y=>aA) (λy_ y_ y_ h=>by (refine aF h λz1=>?_;clear h;subst z1);exact⟨_,_,rfl⟩) (λy y y y=>aA) h
theorem aP8(h:bE1 e=some c):∃k pos,e=.Tuple c k pos:=cD0 h
noncomputable def IsList(c:List Expr)(e:Expr):Prop:=∃pos,e=.List c pos
theorem bO8(h:bO9 e=some c):IsList c e:=
 Expr.casesOn (motive_1:=λe=>bO9 e=some c->IsList c e) e (λy y y=>aA) (λy y y=>aA) (λy y y y=>aA) (λy y y=>aA) (λy y y y=>aA) (λy y y y=>aA) (λy y y=>aA) (λy y y=>aA) (λy y y y=>aA) (λy y y y=>aA) (λy y y y y=>aA) (λy y y y=>aA) (λy y=>aA) (λy y=>aA) (λy y=>aA) (λy y y y=>aA) (λy y y y=>aA) (λy y y y=>aA) (λy y=>aA) (λy y y=>aA) (λy y y=>aA) (λy y y=>aA) (λy y=>aA) (λy y=>aA) (λy_ y_ h=>by (refine aF h λz1=>?_;clear h;rw[<- z1]);exact⟨_,rfl⟩) (λy y y=>aA) (λy y y y=>aA) h
theorem cD7(h:bO9 e=some c):∃pos,e=.List c pos:=bO8 h
noncomputable def cR1(c:List (Option Expr)×List Expr)(e:Expr):Prop:=∃pos,e=.Dict c.1 c.2 pos
theorem bP2{c:List (Option Expr)×List Expr}(h:bP3 e=some c):cR1 c e:=
 Expr.casesOn (motive_1:=λe=>bP3 e=some c->cR1 c e) e (λy y y=>aA) (λy y y=>aA) (λy y y y=>aA) (λy y y=>aA) (λy y y y=>aA) (λy y y y=>aA) (λy_ y_ y_ h=>by (refine aF h λz1=>?_;clear h;rw[<- z1]);exact⟨_,rfl⟩) (λy y y=>aA) (λy y y y=>aA) (λy y y y=>aA) (λy y y y y=>aA) (λy y y y=>aA) (λy y=>aA) (λy y=>aA) (λy y=>aA) (λy y y y=>aA) (λy y y y=>aA) (λy y y y=>aA) (λy y=>aA) (λy y y=>aA) (λy y y=>aA) (λy y y=>aA) (λy y=>aA) (λy y=>aA) (λy y=>aA) (λy y y=>aA) (λy y y y=>aA) h
theorem cE2{c:List (Option Expr)×List Expr}(h:bP3 e=some c):∃pos,e=.Dict c.1 c.2 pos:=bP2 h
noncomputable def dN8(c:Expr×Expr)(e:Expr):Prop:=∃pos,e=.Subscript c.1 c.2 pos
theorem cD1{c:Expr×Expr}(h:cD2 e=some c):dN8 c e:=
 Expr.casesOn (motive_1:=λe=>cD2 e=some c->dN8 c e) e (λy y y=>aA) (λy y y=>aA) (λy y y y=>aA) (λy y y=>aA) (λy y y y=>aA) (λy y y y=>aA) (λy y y=>aA) (λy y y=>aA) (λy y y y=>aA) (λy y y y=>aA) (λy y y y y=>aA) (λy y y y=>aA) (λy y=>aA) (λy y=>aA) (λy y=>aA) (λy y y y=>aA) (λy y y y=>aA) (λy y y y=>aA) (λy y=>aA) (λy y y=>aA) (λy y y=>aA) (λy_ y_ y_ h=>by (refine aF h λz1=>?_;clear h;rw[<- z1]);exact⟨_,rfl⟩) (λy y=>aA) (λy y=>aA) (λy y=>aA) (λy y y=>aA) (λy y y y=>aA) h
theorem aZ7{c:Expr×Expr}(h:cD2 e=some c):∃pos,e=.Subscript c.1 c.2 pos:=cD1 h
noncomputable def cB9(c:Option Expr×Option Expr×Option Expr)(e:Expr):Prop:=∃pos,e=.Slice c.1 c.2.1 c.2.2 pos
theorem bJ9{c:Option Expr×Option Expr×Option Expr}(h:aU0 e=some c):cB9 c e:=
 Expr.casesOn (motive_1:=λe=>aU0 e=some c->cB9 c e) e (λy y y=>aA) (λy y y=>aA) (λy y y y=>aA) (λy y y=>aA) (λy y y y=>aA) (λy y y y=>aA) (λy y y=>aA) (λy y y=>aA) (λy y y y=>aA) (λy y y y=>aA) (λy y y y y=>aA) (λy y y y=>aA) (λy y=>aA) (λy y=>aA) (λy y=>aA) (λy y y y=>aA) (λy y y y=>aA) (λy y y y=>aA) (λy y=>aA) (λy y y=>aA) (λy y y=>aA) (λy y y=>aA) (λy y=>aA) (λy y=>aA) (λy y=>aA) (λy y y=>aA) (λy_ y_ y_ y_ h=>by (refine aF h λz1=>?_;clear h;rw[<- z1]);exact⟨_,rfl⟩) h
theorem bO5{c:Option Expr×Option Expr×Option Expr}(h:aU0 e=some c):∃pos,e=.Slice c.1 c.2.1 c.2.2 pos:=bJ9 h
noncomputable def cR4(c:Expr×List Expr×List Keyword×Pos)(e:Expr):Prop:=e=.Call c.1 c.2.1 c.2.2.1 c.2.2.2
theorem bP7{c:Expr×List Expr×List Keyword×Pos}(h:aQ0 e=some c):cR4 c e:=
 Expr.casesOn (motive_1:=λe=>aQ0 e=some c->cR4 c e) e (λy y y=>aA) (λy y y=>aA) (λy y y y=>aA) (λy y y=>aA) (λy y y y=>aA) (λy y y y=>aA) (λy y y=>aA) (λy y y=>aA) (λy y y y=>aA) (λy y y y=>aA) (λy y y y y=>aA) (λy y y y=>aA) (λy y=>aA) (λy y=>aA) (λy y=>aA) (λy y y y=>aA) (λy_ y_ y_ y_ h=>by (refine aF h λz1=>?_;clear h;rw[<- z1]);rfl) (λy y y y=>aA) (λy y=>aA) (λy y y=>aA) (λy y y=>aA) (λy y y=>aA) (λy y=>aA) (λy y=>aA) (λy y=>aA) (λy y y=>aA) (λy y y y=>aA) h
theorem aP9{c:Expr×List Expr×List Keyword×Pos}(h:aQ0 e=some c):e=.Call c.1 c.2.1 c.2.2.1 c.2.2.2:=bP7 h
noncomputable def cR6(c:Expr×Str×Pos)(e:Expr):Prop:=e=.Attribute c.1 c.2.1 c.2.2
theorem bP9{c:Expr×Str×Pos}(h:aH8 e=some c):cR6 c e:=
 Expr.casesOn (motive_1:=λe=>aH8 e=some c->cR6 c e) e (λy y y=>aA) (λy y y=>aA) (λy y y y=>aA) (λy y y=>aA) (λy y y y=>aA) (λy y y y=>aA) (λy y y=>aA) (λy y y=>aA) (λy y y y=>aA) (λy y y y=>aA) (λy y y y y=>aA) (λy y y y=>aA) (λy y=>aA) (λy y=>aA) (λy y=>aA) (λy y y y=>aA) (λy y y y=>aA) (λy y y y=>aA) (λy y=>aA) (λy y y=>aA) (λy_ y_ y_ h=>by (refine aF h λz1=>?_;clear h;rw[<- z1]);rfl) (λy y y=>aA) (λy y=>aA) (λy y=>aA) (λy y=>aA) (λy y y=>aA) (λy y y y=>aA) h
theorem aG0{c:Expr×Str×Pos}(h:aH8 e=some c):e=.Attribute c.1 c.2.1 c.2.2:=bP9 h
noncomputable def cR3(c:Expr×List Comprehension×Scope)(e:Expr):Prop:=∃pos,e=.ListComp c.1 c.2.1 c.2.2 pos
theorem bP5{c:Expr×List Comprehension×Scope}(h:aU2 e=some c):cR3 c e:=
 Expr.casesOn (motive_1:=λe=>aU2 e=some c->cR3 c e) e (λy y y=>aA) (λy y y=>aA) (λy y y y=>aA) (λy y y=>aA) (λy y y y=>aA) (λy y y y=>aA) (λy y y=>aA) (λy y y=>aA) (λy_ y_ y_ y_ h=>by (refine aF h λz1=>?_;clear h;rw[<- z1]);exact⟨_,rfl⟩) (λy y y y=>aA) (λy y y y y=>aA) (λy y y y=>aA) (λy y=>aA) (λy y=>aA) (λy y=>aA) (λy y y y=>aA) (λy y y y=>aA) (λy y y y=>aA) (λy y=>aA) (λy y y=>aA) (λy y y=>aA) (λy y y=>aA) (λy y=>aA) (λy y=>aA) (λy y=>aA) (λy y y=>aA) (λy y y y=>aA) h
theorem bE2{c:Expr×List Comprehension×Scope}(h:aU2 e=some c):∃pos,e=.ListComp c.1 c.2.1 c.2.2 pos:=bP5 h
theorem aH6{l:List α}{x:α}(h:cC1 l=some x):l=[x]:=by
 cases l with
 |nil=>exact aA h
 |cons y l=>cases l with
  |nil=>(refine aF h λz1=>?_;clear h;subst z1);rfl
  |cons y_ y_=>exact aA h
theorem bO4{l:List α}{x:α×α}(h:cS4 l=some x):l=[x.1,x.2]:=by
 cases l with
 |nil=>exact aA h
 |cons y l=>cases l with
  |nil=>exact aA h
  |cons z l=>cases l with
   |nil=>(refine aF h λz1=>?_;clear h;subst z1);rfl
   |cons y_ y_=>exact aA h
theorem cK{c:Str×List Expr}(h:cA e=some c):∃p pos,e=.Call (.Name c.1 p) c.2 [] pos:=by
 unfold cA at h
 cases q:aQ0 e with
 |none=>rw[q]at h;exact aA h
 |some a=>
  rw[q]at h;have h':(if a.2.2.1.isEmpty then(bS a.1).map λx=>(x.1,a.2.1)else none)=some c:=h;by_cases k:a.2.2.1.isEmpty=true
  ·rw[if_pos k]at h'
   cases r:bS a.1 with
   |none=>rw[r]at h';exact aA h'
   |some x=>
    rw[r]at h'
    (refine aF h' λz1=>?_;clear h';rw[<- z1])
    refine⟨x.2,a.2.2.2,?_⟩;rw[aP9 q,b7 r,List.isEmpty_iff.mp k]
  ·rw[if_neg k]at h';exact aA h'
theorem bH1{op:UnaryOp}(h:cJ3 op=true):op=.Not:=by cases (op) <;> first | rfl | (exact aD h)
theorem aC9{l:List α}(h:(!l.isEmpty)=true):l≠[]:=by intro q;rw[q]at h;exact aD h
theorem dL{l:List α}(h:l.isEmpty=true):l=[]:=List.isEmpty_iff.mp h
theorem cX8(h:kEs ks []=true):ks=[]:=by
 cases ks with
 |nil=>rfl
 |cons k ks=>exact aD h
theorem cO2{k:Str}(h:(o.any λe=>(aH7 e).any λc=>cY5 (.str k) c)=true):∃j p,o=some (.Constant (.str k) j p) /\ PyData.strOk k=true:=by
 refine aI h λe he h=>aI h λc hc h=>?_;refine e2a1 (aU1 hc) λj p z71=>?_;subst z71
 cases c with
 |str y=>
  have h:(k == y&&PyData.strOk k)=true:=h;have e:=eq_of_beq (aB h).1;subst e;exact⟨j,p,he,(aB h).2⟩
 |_=>exact aD h
theorem cI7{keys:List (Option Expr)}(h:kEs ks keys=true)(hl:keys.length=n+1):∃k ks' j p keys',ks=k::ks' /\ keys=some (.Constant (.str k) j p)::keys' /\ PyData.strOk k=true /\ kEs ks' keys'=true:=by
 cases ks with
 |nil=>rw[dL h]at hl;exact absurd hl (by simp)
 |cons k ks=>
  cases keys with
  |nil=>exact aD h
  |cons o keys=>
   refine e2a2 (cO2 (aB h).1) λj p e ok=>?_;exact⟨k,ks,j,p,keys,rfl,by rw[e],ok,(aB h).2⟩
theorem cO3:∀{ks:List Str} {keys:List (Option Expr)},kEs ks keys=true->ks.length=keys.length /\ keys.all (·.isSome)=true /\ ∀k∈ks,PyData.strOk k=true
 |[],keys,h=>by rw[dL h];exact⟨rfl,rfl,λy_ h=>nomatch h⟩
 |k::ks,[],h=>aD h
 |k::ks,o::keys,h=>by
  refine e2a2 (cO2 (aB h).1) λj p e ok=>?_;refine e0a3 (cO3 (aB h).2) λa b c=>?_;refine⟨congrArg (·+1) a,?_,λx hx=>?_⟩
  ·rw[e,List.all_cons,b];rfl
  ·rcases List.mem_cons.mp hx with q | q
   ·rw[q];exact ok
   ·exact c x q
theorem aJ2(h:mEs P Γ [] es=true):es=[]:=dL h
theorem bY{c:CE}{cs:List CE}(h:mEs P Γ (c::cs) es=true):∃e es',es=e::es' /\ mE P Γ c e=true /\ mEs P Γ cs es'=true:=by
 cases es with
 |nil=>exact aD h
 |cons e es=>have:=aB (a:=mE P Γ c e) (b:=mEs P Γ cs es) h;exact⟨e,es,rfl,this.1,this.2⟩
theorem bG4(h:cI1 P Γ [] es=true):es=[]:=dL h
theorem aW0{c:CB}{cs:List CB}(h:cI1 P Γ (c::cs) es=true):∃e es',es=e::es' /\ mB P Γ c e=true /\ cI1 P Γ cs es'=true:=by
 cases es with
 |nil=>exact aD h
 |cons e es=>have:=aB (a:=mB P Γ c e) (b:=cI1 P Γ cs es) h;exact⟨e,es,rfl,this.1,this.2⟩
theorem aN5(X:Fx W P A fs n F)(hsc:env.scope=Γ.sc)(h:mSrc P Γ (λes=>mEs P Γ src es) k iter=true)(one:∀e c,src=[c]->mE P Γ c e=true->SiE W A fs env Γ.vis (eval e env) (λr=>ev P.S F c r))(all:∀es pos,aW es=true->mEs P Γ src es=true->SiL W A fs env Γ.vis (spliced (backTo pos (starEach es env))) (λr=>evs P.S F src r)):
  SiSrc W A fs env Γ.vis iter (λr=>bnd (evs P.S F src r) (aD4 k)):=by
 refine e0a2 (aB h) λhl h=>?_;have hh:=X.hh hl
 cases k with
 |expr=>
  have h1:mEs P Γ src [iter]=true:=h
  cases src with
  |nil=>exact aD h1
  |cons c cs=>
   refine e2a3 (bY h1) λe es' he hm hr=>?_
   cases (he)
   cases cs with
   |cons c' cs=>exact aD hr
   |nil=>
    have:=cF5 X.gl.ok hh (one _ c rfl hm);intro s io m r Z;have eq:bnd (evs P.S F [c] r) (aD4 .expr)=bnd (ev P.S F c r) eW:=by
     funext m
     show Res.bind (Res.bind (ev P.S F c r m) _) _=Res.bind (ev P.S F c r m) _
     cases ev P.S F c r m <;> rfl
    dsimp only;rw[eq];exact this s io m r Z
 |range=>
  refine aI (o:=cA iter) h λq hq h=>?_;refine e2a1 (cK hq) λpx pos z71=>?_;rw[z71];have h3:=(aB h).2;have h12:=(aB h).1;have h2:=(aB h12).2;have h1:=(aB h12).1;refine e0a5 (aN1 hsc h1) λa b c d e=>?_;exact bR5 hh X.gl d e c a b h2 (all q.2 pos h2 h3)
 |enum=>exact aD h
theorem cF6(X:Fx W P A fs n F)(hsc:env.scope=Γ.sc)(h:cI0 P Γ (λes=>mEs P Γ src es) k (.one i) iter=true)(one:∀e c,src=[c]->mE P Γ c e=true->SiE W A fs env Γ.vis (eval e env) (λr=>ev P.S F c r))(all:∀es pos,aW es=true->mEs P Γ src es=true->SiL W A fs env Γ.vis (spliced (backTo pos (starEach es env))) (λr=>evs P.S F src r)):
  bM8 W A fs env Γ.vis tg iter (λr=>bnd (evs P.S F src r) (aD4 k)):=by
 cases k with
 |enum=>exact aD h
 |expr=>exact(aN5 X hsc (k:=.expr) h one all).forF
 |range=>exact(aN5 X hsc (k:=.range) h one all).forF
theorem bR6{is:List Nat}{ts:List Expr}{x1:Nat}{tp:Pos}(X:Fx W P A fs n F)(hsc:env.scope=Γ.sc)(h:cI0 P Γ (λes=>mEs P Γ src es) k (.many is) iter=true)(one:∀e c,src=[c]->mE P Γ c e=true->SiE W A fs env Γ.vis (eval e env) (λr=>ev P.S F c r))(all:∀es pos,aW es=true->mEs P Γ src es=true->SiL W A fs env Γ.vis (spliced (backTo pos (starEach es env))) (λr=>evs P.S F src r)):
  bM8 W A fs env Γ.vis (.Tuple ts x1 tp) iter (λr=>bnd (evs P.S F src r) (aD4 k)):=by
 cases k with
 |enum=>exact aD h
 |expr=>exact(aN5 X hsc (k:=.expr) h one all).forF
 |range=>exact(aN5 X hsc (k:=.range) h one all).forF
theorem bR7{f:List Expr->Bool}(h:cI0 P Γ f k t iter=true):P.loud=true:=by
 cases (k) <;> first | exact aD h | exact(aB h).1
theorem cP7{ca:CE}{cops:List CmpOp}{cbs:List CE}(h:mE P Γ (.cmp ca cops cbs) (.Compare a ops bs pos)=true):cops=ops /\ mE P Γ ca a=true /\ mEs P Γ cbs bs=true /\ cops.length=cbs.length /\ cbs≠[] /\ bs.all aR5=true:=by
 have h:(decide (cops=ops)&&mE P Γ ca a&&mEs P Γ cbs bs&&decide (cops.length=cbs.length)&&!cbs.isEmpty&&bs.all aR5)=true:=h;refine aBB6 h λh0 h1 h2 h3 h4 h5=>?_;exact⟨cV h0,h1,h2,cV h3,aC9 h4,h5⟩
theorem dE8{c:CE}(h:mB P Γ (.val c) e=true):(aV2 e=true /\ mE P Γ c e=true) \/ ∃a ops bs pos,e=.Compare a ops bs pos /\ mE P Γ c e=true:=by
 refine e0a2 (aB (a:=aV2 e||(cM9 e).isSome) (b:=mE P Γ c e) h) λh1 h2=>?_
 cases q:aV2 e with
 |true=>exact .inl ⟨rfl,h2⟩
 |false=>
  rw[q]at h1
  cases r:cM9 e with
  |none=>rw[r]at h1;exact aD h1
  |some x=>refine e1a1 (bP6 r) λpos he=>?_;exact .inr ⟨_,_,_,_,he,h2⟩
theorem cH2{c:CE}(h:bK5 c=true):(λr=>ev P.S F c r)=λy_=>ret V.none:=by
 cases c with
 |cnst v=>cases (v) <;> first | rfl | (exact aD h)
 |_=>exact aD h
theorem o_of{c:CE}(h:o.elim (bK5 c) (λl=>mE P Γ c l)=true)(k:∀l,mE P Γ c l=true->SiE W A fs env Γ.vis (eval l env) (λr=>ev P.S F c r)):SiO W A fs env Γ.vis o (λr=>ev P.S F c r):=by
 cases o with
 |some l=>exact dH8 (k l h)
 |none=>
  have hc:bK5 c=true:=h;have:(λr=>ev P.S F c r)=λy_=>ret V.none:=by
   exact cH2 hc
  rw[this];exact dH9
theorem e_loc(hsc:env.scope=Γ.sc)(h:dJ7 Γ i x=true):SiE W A fs env Γ.vis (eval (.Name x pos) env) (λr=>match r[i]? with | some (some v)=>ret v | _=>bad):=by
 refine aBB4 h λh1 h2 h3 h4=>?_;refine e_var ?_ ?_ (Bool.not_eq_true' _▸h3) (Bool.not_eq_true' _▸h4)
 ·exact eq_of_beq h1
 ·show env.scope.names.lookup x=_ \/ env.scope.names.lookup x=_ \/ env.scope.names.lookup x=_
  rw[hsc];rcases Bool.or_eq_true_iff.mp h2 with q | q
  ·rcases Bool.or_eq_true_iff.mp q with q | q
   ·exact .inl (eq_of_beq q)
   ·exact .inr (.inl (eq_of_beq q))
  ·exact .inr (.inr (eq_of_beq q))
theorem e_bi{b:Bi}(X:Fx W P A fs n F)(hsc:env.scope=Γ.sc)(hl0:P.loud=true)(h1:dD3 b=true)(h2:isBi P Γ b x=true)(h3:aW es=true)(hl:∀pos,SiL W A fs env Γ.vis (spliced (backTo pos (starEach es env))) cl):SiE W A fs env Γ.vis (eval (.Call (.Name x p) es [] pos) env) (λr=>bnd (cl r) λvs=>biV b vs):=by
 have hf:=dM7 (W:=W) (A:=A) (fs:=fs) X.gl.ok (X.hh hl0) h1;have h2:(match dM8 b with | .builtin id=>cJ4 P Γ x id | .type id=>aR9 P Γ x id | _=>false)=true:=h2
 generalize dM8 b=fv at hf h2
 cases fv with
 |builtin id=>
  have g:=cP8 hsc (id:=id) h2;exact dB1 X.gl g.2.2.2.1 g.2.2.2.2 g.2.2.1 g.1 g.2.1 h3 (hl _) hf
 |type id=>
  have g:=aN1 hsc (id:=id) h2;exact dA9 X.gl g.2.2.2.1 g.2.2.2.2 g.2.2.1 g.1 g.2.1 h3 (hl _) hf
 |_=>exact aD h2
theorem dE7{v:Value}{l:Lt}(k:dJ5 v l=true):VR W h io l.val v:=by
 cases l with
 |int i=>cases (v) <;> first | (exact aD k) | (rw[show i=_ from eq_of_beq k];exact .int _ _)
 |str x=>cases (v) <;> first | (exact aD k) | (refine e0a2 (aB k) λk1 k2=>?_;rw[show x=_ from eq_of_beq k1]at k2 ⊢;exact .str _ _ k2)
 |bool b=>cases (v) <;> first | (exact aD k) | (rw[show b=_ from eq_of_beq k];exact .bool _)
 |none=>cases (v) <;> first | (exact aD k) | exact .none
theorem dL5(X:Fx W P A fs n F)(hsc:env.scope=Γ.sc)(h:dJ9 P Γ i x=true):SiE W A fs env Γ.vis (eval (.Name x pos) env) (λr=>ev P.S F (.glob i) r):=by
 have h2:=(aB h).2;have h1:=(aB h).1;refine e0a3 (aW8 hsc h1) λa b y_=>?_;refine aI h2 λo e1 h3=>?_;refine aI h3 λv e2 h4=>?_;refine aI h4 λp e3 h5=>?_;rw[e2]at e1;intro s io m r Z hne;refine aO4 X.gl Z e1 a b ⟨p.2.val,m,io,?_,.refl,Z.H,dE7 h5,.refl _⟩;show(match P.S.globs[i]? with | some p=>ret p.2.val | Option.none=>bad) m=_;rw[e3];rfl
theorem bQ2{c c':CE}{cs:List CE}(h:ops.length=(c::c'::cs).length):∃op op' ops',ops=op::op'::ops':=by
 cases ops with
 |nil=>exact bV1 h
 |cons op ops=>cases ops with
  |nil=>exact bV1 (Nat.succ.inj h)
  |cons op' ops=>exact⟨op,op',ops,rfl⟩
theorem cP3{g:Comprehension}(h0:(g.is_async == 0)=true):g=⟨g.target,g.iter,g.ifs,0⟩:=by
 cases (g)
 rw[<- beq_iff_eq.mp h0]
theorem cP5(X:Fx W P A fs n F){Γ:Cx}{scope:Scope}{t:CT}{e:Expr}{x:List Str}(h:vTg P.loud Γ.vis.length t e=some x):CTg A Γ.vis (aL3 scope x Γ.vis) t e:=by
 cases t with
 |one i=>
  have h:(if i=Γ.vis.length then(bS e).map λx=>[x.1]else none)=some x:=h;by_cases q:i=Γ.vis.length
  ·rw[if_pos q]at h
   cases hv:bS e with
   |none=>rw[hv]at h;injection h
   |some y=>
    rw[hv]at h
    (refine aF h λz1=>?_;clear h;rw[<- z1])
    rw[b7 hv,q];exact .one _ _ _ (aC3 scope [y.1] 0 Γ.vis) (Nat.le_refl _)
  ·rw[if_neg q]at h;injection h
 |many is=>
  have h:(if P.loud=true /\ is=[Γ.vis.length,Γ.vis.length+1]then(bE1 e).bind λes=>(cS4 es).bind λp=>(bS p.1).bind λx=>(bS p.2).map λy=>[x.1,y.1]else none)=some x:=h;by_cases q:P.loud=true /\ is=[Γ.vis.length,Γ.vis.length+1]
  ·rw[if_pos q]at h
   cases h1:bE1 e with
   |none=>rw[h1]at h;injection h
   |some es=>
    rw[h1]at h;have h:((cS4 es).bind λp=>(bS p.1).bind λx=>(bS p.2).map λy=>[x.1,y.1])=some x:=h
    cases h2:cS4 es with
    |none=>rw[h2]at h;injection h
    |some p=>
     rw[h2]at h;have h:((bS p.1).bind λx=>(bS p.2).map λy=>[x.1,y.1])=some x:=h
     cases h3:bS p.1 with
     |none=>rw[h3]at h;injection h
     |some a=>
      rw[h3]at h;have h:((bS p.2).map λy=>[a.1,y.1])=some x:=h
      cases h4:bS p.2 with
      |none=>rw[h4]at h;injection h
      |some c=>
       rw[h4]at h
       (refine aF h λz1=>?_;clear h;rw[<- z1])
       refine e2a1 (aP8 h1) λk pt z71=>?_;rw[z71];rw[bO4 h2,b7 h3,b7 h4,q.2];exact .many _ _ _ _ (X.hh q.1) ⟨_,_,_,rfl,aC3 scope [a.1,c.1] 0 Γ.vis,Nat.le_refl _,_,_,_,rfl,aC3 scope [a.1,c.1] 1 Γ.vis,Nat.le_succ _,rfl⟩
  ·rw[if_neg q]at h;injection h
theorem cL9{e0:Expr}{ifs':List Expr}{x:List Str}(hg:CTg A Γ.vis (aL3 scope x Γ.vis) t tg)(ck:CompOk scope env Γ.vis (aL3 scope x Γ.vis) x.length)(hs:∀y,foldedSetIterable iter env y=Pure.pure y)(hsrc:SiSrc W A fs env Γ.vis iter (λr=>bnd (evs P.S F src r) (aD4 k)))(hifs:∀cl C,SiB W A fs (compEnvC scope cl C env) (aL3 scope x Γ.vis) (aA4 ifs' (compEnvC scope cl C env) true) (λr=>bN4 P.S F ifs r))(helt:∀cl C,SiE W A fs (compEnvC scope cl C env) (aL3 scope x Γ.vis) (eval e0 (compEnvC scope cl C env)) (λr=>ev P.S F elt r)):
  SiE W A fs env Γ.vis (eval (.ListComp e0 [⟨tg,iter,ifs',0⟩] scope pos) env) (λr=>ev P.S F (.comp elt t x.length k src ifs) r):=by
 have:=dL6 (pos:=pos) ck hs hg hsrc hifs helt;intro s io m r Z;have eq:ev P.S F (.comp elt t x.length k src ifs) r=bnd (bnd (evs P.S F src r) (aD4 k)) λp=>bnd (bK p.2 (fC t (r++List.replicate x.length none) (λr=>bN4 P.S F ifs r) (λr=>ev P.S F elt r)) p.1) λl=>if l.length <= lid then alloc (.list l)else bad:=by
  rw[bX];rfl
 dsimp only;rw[eq];exact this s io m r Z
theorem cY1(X:Fx W P A fs n F){Γ:Cx}{env:Env}{x y:Str}{a:Expr}{pos px py:Pos}{t:Ty}{ca:Lo->Mn V}(hsc:env.scope=Γ.sc)(e1:nsIn P.K mainGlobals x=some none)(b1:bootBuiltins x=some (.builtin "isinstance"))(n1:(x == ("__name__":Str))=false)(k1:env.kindOf x=some .globalImplicit)(d1:(x == ("__debug__":Str))=false)(ht:isTy P Γ t y=true)(hs:aW [a]=true)(ha:SiE W A fs env Γ.vis (eval a env) ca):SiE W A fs env Γ.vis (eval (.Call (.Name x px) [a,.Name y py] [] pos) env) (λr=>bnd (ca r) λv=>bnd (aB3 P.S v t) λb=>ret (.bool b)):=by
 rw[<- X.S];have plain:aR9 P Γ y (eA t)=true->(!(eA t == ""))=true->SiE W A fs env Γ.vis (eval (.Call (.Name x px) [a,.Name y py] [] pos) env) (λr=>bnd (ca r) λv=>bnd (aB3 W.S v t) λb=>ret (.bool b)):=λh2 h3=>by
  refine e0a5 (aN1 hsc h2) λa2 b2 c2 d2 e2=>?_;exact dA6 X.gl e1 b1 n1 k1 d1 (λZ q=>aE8 X.gl Z d2 e2 c2 a2 b2 q) (λH k=>cX9 H (ty_of h3) k) hs ha
 cases t with
 |cls c=>
  have h2:=(aB ht).2;have h1:=(aB ht).1;have rel:∀d x,W.S.cls[d]?=some x->x.exc=true->fK P.K (W.ca d)=true /\ kitOne P.K (.ref (W.ca d)) (clsV P c)=some (x.supers.contains c):=λd x hd hx=>by
   rw[X.S]at hd;have:=aE3 h2 hd;rw[Nat.zero_add]at this;have this:(!x.exc||(fK P.K (P.ca d)&&kitOne P.K (.ref (P.ca d)) (clsV P c) == some (x.supers.contains c)))=true:=this;rw[hx]at this;refine e0a2 (aB (a:=fK P.K (P.ca d)) (b:=kitOne P.K (.ref (P.ca d)) (clsV P c) == some (x.supers.contains c)) this) λq1 q2=>?_;rw[X.ca];exact⟨q1,beq_iff_eq.mp q2⟩
  cases c with
  |zero=>
   refine e0a5 (aN1 hsc (id:="ValueError") h1) λa2 b2 c2 d2 e2=>?_;exact dA6 X.gl e1 b1 n1 k1 d1 (λZ q=>aE8 X.gl Z d2 e2 c2 a2 b2 q) (λH k=>bX4 X.gl.X rel H k) hs ha
  |succ c=>
   refine e0a3 (bF9 hsc (c:=c+1) h1) λa2 b2 e2=>?_;exact dA6 X.gl e1 b1 n1 k1 d1 (λZ q=>aO4 X.gl Z e2 a2 b2 q) (λH k=>bX4 X.gl.X rel H k) hs ha
 |_=>exact plain (aB ht).1 (aB ht).2
theorem cW8(X:Fx W P A fs n F){Γ:Cx}{env:Env}{c:Nat}{x:Str}{es:List Expr}{p pos:Pos}{cl:Lo->Mn (List V)}(hsc:env.scope=Γ.sc)(h1:P.ok.isNone=true)(h2:aW6 P Γ c x=true)(h3:cH3 P c=true)(h4:aW es=true)(hl:SiL W A fs env Γ.vis (spliced (backTo pos (starEach es env))) cl):
  SiE W A fs env Γ.vis (eval (.Call (.Name x p) es [] pos) env) (λr=>bnd (cl r) λvs=>cW9 P.S F c vs):=by
 obtain⟨D,N,mN,k0,C,c1,c2,c3,c4,c5,c6⟩:=dL9 X h3;refine e0a3 (bF9 hsc h2) λa b e=>?_;have:=e_new (F:=F) (p:=p) X.gl (X.ca.symm▸e) a b h4 C c1 c3 c4 c5 c6 (X.new (Option.isNone_iff_eq_none.mp h1) k0 c2) hl;rw[X.S]at this;exact this
theorem cH9(X:Fx W P A fs n F){Γ:Cx}{env:Env}{k:Nat}{o:Expr}{x:Str}{es:List Expr}{apos pos:Pos}{co:Lo->Mn V}{cl:Lo->Mn (List V)}(h1:P.ok.isNone=true)(h2:bX6 P k x=true)(h3:fH o=true)(h4:aW es=true)(h5:es.length < 29)(h6:(apos.endLine == pos.line)=true)(ho:SiE W A fs env Γ.vis (eval o env) co)(hl:SiL W A fs env Γ.vis (spliced (backTo pos (starEach es env))) cl):
  SiE W A fs env Γ.vis (eval (.Call (.Attribute o x apos) es [] pos) env) (λr=>bnd (co r) λv=>bnd (fT P.S k v) λj=>bnd (cl r) λvs=>F j (v::vs)):=by
 have hn:=Option.isNone_iff_eq_none.mp h1;have:=dL3 (F:=F) (apos:=apos) X.gl h3 h4 h5 h6 (X.S.symm▸cQ4 h2) (λj hj=>X.fa.symm▸X.objs hn j (X.S▸hj)) (λj y_=>X.calls j (by unfold Px.can;rw[hn])) ho hl;rw[X.S]at this;exact this
mutual
theorem evE(X:Fx W P A fs n F):∀(c:CE) (Γ:Cx) (env:Env) (e:Expr),env.scope=Γ.sc->mE P Γ c e=true->SiE W A fs env Γ.vis (eval e env) (λr=>ev P.S F c r)
 |.cnst v,Γ,env,e,hsc,h=>by
  refine aI (o:=aH7 e) h λq hq h=>?_;refine e2a1 (aU1 hq) λy_ y_ z71=>?_;rw[z71];exact bZ5 (by cases (v) <;> cases (q) <;> exact h)
 |.var i,Γ,env,e,hsc,h=>by
  refine aI (o:=bS e) h λq hq h=>?_;rw[b7 hq];exact e_loc hsc h
 |.glob i,Γ,env,e,hsc,h=>by
  refine aI (o:=bS e) h λq hq h=>?_;rw[b7 hq];exact dL5 X hsc h
 |.fnv _,_,_,_,_,h=>aD h
 |.bin op a b,Γ,env,e,hsc,h=>by
  refine aI (o:=dF2 e) h λq hq h=>?_;refine e1a1 (cT0 hq) λy_ z71=>?_;rw[z71];refine aBB3 h λh0 h1 h2=>?_;rw[<- cV h0];exact e_bin (evE X a Γ env _ hsc h1) (evE X b Γ env _ hsc h2)
 |.neg _,_,_,_,_,h=>aD h
 |.not a,Γ,env,e,hsc,h=>by
  refine aI (o:=vUn e) h λq hq h=>?_;refine e1a1 (cM8 hq) λy_ zz1=>?_;subst zz1;have h1:=(aB h).2;have h0:=(aB h).1;rw[bH1 h0];exact e_not (evE X a Γ env _ hsc h1)
 |.boolop c as,Γ,env,e,hsc,h=>by
  refine aI (o:=aZ9 e) h λq hq h=>?_;refine e1a1 (bE3 hq) λy_ zz1=>?_;subst zz1;refine aBB3 h λh1 h2 h3=>?_;exact evBo X as Γ env _ _ _ _ hsc h1 h2 (aC9 h3)
 |.cmp a ops bs,Γ,env,e,hsc,h=>by
  have h0:=h;refine aI (o:=cM9 e) h λq hq y_=>?_;refine e1a1 (bP6 hq) λpos zz1=>?_;subst zz1;refine e0a6 (cP7 h0) λh0 h1 h2 h3 h4 h5=>?_;rw[<- h0];exact e_cmp (evE X a Γ env _ hsc h1) (evCm X bs Γ env _ _ _ hsc h3 h4 h2 h5)
 |.ite c a b,Γ,env,e,hsc,h=>by
  refine aI (o:=vIf e) h λq hq h=>?_;refine e1a1 (dF0 hq) λy_ z71=>?_;rw[z71];refine aBB3 h λh1 h2 h3=>?_;exact e_ite (dA1 X c Γ env _ hsc h1) (evE X a Γ env _ hsc h2) (evE X b Γ env _ hsc h3)
 |.tup as,Γ,env,e,hsc,h=>by
  refine aI (o:=bE1 e) h λq hq h=>?_;refine e2a1 (aP8 hq) λy_ y_ z71=>?_;rw[z71];refine aBB3 h λh1 h2 h3=>?_;exact e_tup (evL X as Γ env _ _ hsc h2 h1) λr m vs m' q=>by rw[bD1 q];exact Nat.le_trans (cV h3) (by decide)
 |.list as,Γ,env,e,hsc,h=>by
  refine aI (o:=bO9 e) h λq hq h=>?_;refine e1a1 (cD7 hq) λy_ z71=>?_;subst z71;refine aBB3 h λh1 h2 h3=>?_;exact dL4 (evL X as Γ env _ _ hsc h2 h1) λr m vs m' q=>by rw[bD1 q];exact Nat.le_trans (cV h3) (by decide)
 |.dict ks vs,Γ,env,e,hsc,h=>by
  refine aI (o:=bP3 e) h λq hq h=>?_;refine e1a1 (cE2 hq) λy_ z71=>?_;rw[z71]
  cases ks with
  |nil=>
   have h:(vs.isEmpty&&q.1.isEmpty&&q.2.isEmpty)=true:=h;rw[dL (aB (aB h).1).1,dL (aB (aB h).1).2,dL (aB h).2];exact dA8
  |cons k ks=>
   have h:(kEs (k::ks) q.1&&decide ((k::ks).length <= 15)&&decide (k::ks).Nodup&&decide (q.1.length=q.2.length)&&mEs P Γ vs q.2)=true:=h;refine aBB5 h λh1 h2 h3 h4 h5=>?_;have h4:=cV h4;have h3:=cV h3;have h2:=cV h2;have hk:=cO3 h1;exact dA7 hk.2.1 h4 (λc=>by rw[c]at h1;exact aD h1) (hk.1▸h2) h2 h3 hk.2.2 (evPr X vs Γ env (k::ks) q.1 q.2 _ hsc h1 h4 h5)
 |.idx a i,Γ,env,e,hsc,h=>by
  refine aI (o:=cD2 e) h λq hq h=>?_;refine e1a1 (aZ7 hq) λy_ zz1=>?_;subst zz1;refine aBB3 h λy_ h1 h2=>?_;exact e_idx X.R (evE X a Γ env _ hsc h1) (evE X i Γ env _ hsc h2)
 |.slice a lo hi st,Γ,env,e,hsc,h=>by
  refine aI (o:=cD2 e) h λq hq h=>?_;refine e1a1 (aZ7 hq) λy_ zz1=>?_;subst zz1;refine e0a2 (aB h) λh1 h=>?_;refine aI (o:=aU0 q.2) h λt ht h=>?_;refine e1a1 (bO5 ht) λy_ he=>?_;rw[he];refine aBB3 h λh2 h3 h4=>?_;exact dA5 (evE X a Γ env _ hsc h1) (o_of h2 λl hl=>evE X lo Γ env l hsc hl) (o_of h3 λl hl=>evE X hi Γ env l hsc hl) (o_of h4 λl hl=>evE X st Γ env l hsc hl)
 |.attr a k,Γ,env,e,hsc,h=>by
  refine aI (o:=aH8 e) h λq hq h=>?_;rw[aG0 hq];refine aBB3 h λh1 h2 h3=>?_;refine e0a2 (cP4 h2) λhx hf=>?_;exact dL7 h1 (X.S.symm▸hx) (X.S.symm▸hf) (evE X a Γ env _ hsc h3)
 |.call k as,Γ,env,e,hsc,h=>by
  refine aI (o:=cA e) h λq hq h=>?_;refine e2a1 (cK hq) λy_ y_ zz1=>?_;subst zz1;refine aBB3 h λh1 h2 h3=>?_;obtain⟨h0,a,b,c,o,fd,d,e⟩:=dK5 hsc h1;exact dB0 X.gl c d e a b h2 (evL X as Γ env _ _ hsc h2 h3) (X.fa▸X.calls k h0)
 |.callv _ _,_,_,_,_,h=>aD h
 |.new c as,Γ,env,e,hsc,h=>by
  refine aI (o:=cA e) h λq hq h=>?_;refine e2a1 (cK hq) λy_ y_ zz1=>?_;subst zz1;refine aBB5 h λh1 h2 h3 h4 h5=>?_;exact cW8 X hsc h1 h2 h3 h4 (evL X as Γ env _ _ hsc h4 h5)
 |.meth o k as,Γ,env,e,hsc,h=>by
  refine aI (o:=aQ0 e) h λq hq h=>?_;rw[aP9 hq];refine aI (o:=aH8 q.1) h λt ht h=>?_;rw[aG0 ht];refine aBB9 h λh1 h2 h3 h4 h5 h6 h7 h8 h9=>?_;rw[dL h7];exact cH9 X h1 h2 h3 h4 (cV h5) h6 (evE X o Γ env _ hsc h8) (evL X as Γ env _ _ hsc h4 h9)
 |.smeth o sm as,Γ,env,e,hsc,h=>by
  refine aI (o:=aQ0 e) h λq hq h=>?_;rw[aP9 hq];refine aI (o:=aH8 q.1) h λt ht h=>?_;rw[aG0 ht];refine aBB8 h λh1 h2 h3 h4 h5 h6 h7 h8=>?_;rw[beq_iff_eq.mp h1,dL h6];exact dA4 X.gl.ok h2 h3 (cV h4) h5 (evE X o Γ env _ hsc h7) (evL X as Γ env _ _ hsc h3 h8)
 |.bi b as,Γ,env,e,hsc,h=>by
  refine aI (o:=cA e) h λq hq h=>?_;refine e2a1 (cK hq) λy_ y_ zz1=>?_;subst zz1;have hz:=(aB h).2;have h0:=(aB h).1;have h4:=(aB hz).2;have h:=(aB hz).1;have h3:=(aB h).2;have h:=(aB h).1;have h2:=(aB h).2;have h1:=(aB h).1;exact e_bi X hsc h0 h1 h2 h3 (λpos=>evL X as Γ env q.2 pos hsc h3 h4)
 |.listrange as,Γ,env,e,hsc,h=>by
  refine aI (o:=cA e) h λq hq h=>?_;refine e2a1 (cK hq) λy_ y_ zz1=>?_;subst zz1;refine aI (o:=cC1 q.2) h λe1 h1 h=>?_;rw[aH6 h1];refine aI (o:=cA e1) h λp hp h=>?_;refine e2a1 (cK hp) λy_ y_ z71=>?_;rw[z71];refine aBB5 h λh0 h1 h2 h3 h4=>?_;refine e0a5 (aN1 hsc h1) λa b c d e=>?_;refine e0a5 (aN1 hsc h2) λa' b' c' d' e'=>?_;exact bD4 (X.hh h0) X.gl d' e' c' a' b' d e c a b h3 (evL X as Γ env _ _ hsc h3 h4)
 |.isi a t,Γ,env,e,hsc,h=>by
  refine aI (o:=cA e) h λq hq h=>?_;refine e2a1 (cK hq) λpx pos zz1=>?_;subst zz1;refine aI (o:=cS4 q.2) h λp hp h=>?_;rw[bO4 hp];refine aI (o:=bS p.2) h λy hy h=>?_;rw[b7 hy];refine aBB4 h λh1 h2 h4 h5=>?_;refine e0a5 (cP8 hsc h1) λa1 b1 c1 d1 e1=>?_;exact cY1 X hsc (px:=px) (pos:=pos) d1 e1 c1 a1 b1 h2 h4 (evE X a Γ env _ hsc h5)
 |.comp elt t nl k src ifs,Γ,env,e,hsc,h=>by
  refine aI (o:=aU2 e) h λq hq h=>?_;refine e1a1 (bE2 hq) λpos z71=>?_;rw[z71];refine aI (o:=cC1 q.2.1) h λg hg h=>?_;rw[aH6 hg];refine aI (o:=vTg P.loud Γ.vis.length t g.target) h λx hx h=>?_;refine aBB7 h λhnl h0 h1 h2 h3 h4 h5=>?_;rw[cV hnl,cP3 h0];exact cL9 (cP5 X hx) (aY2 hsc h1) (bE6 h2) (aN5 X hsc h3 (λe c hc he=>cL0 X src Γ env e hsc c hc he) (λes pos hs he=>evL X src Γ env es pos hsc hs he))
   (λcl C=>dA2 X ifs (aP2 q.2.2 x Γ) _ g.ifs (aG4 hsc) h4) (λcl C=>evE X elt (aP2 q.2.2 x Γ) _ q.1 (aG4 hsc) h5)
theorem cL0(X:Fx W P A fs n F):∀(cs:List CE) (Γ:Cx) (env:Env) (e:Expr),env.scope=Γ.sc->∀c,cs=[c]->mE P Γ c e=true->SiE W A fs env Γ.vis (eval e env) (λr=>ev P.S F c r)
 |[],Γ,env,e,hsc,c',hc,h=>cW6 hc
 |c::cs,Γ,env,e,hsc,c',hc,h=>by
  have hc1:c'=c:=by injection hc with a;exact a.symm
  rw[hc1]at h ⊢;exact evE X c Γ env e hsc h
theorem evPr(X:Fx W P A fs n F):∀(cs:List CE) (Γ:Cx) (env:Env) (ks:List Str) (keys:List (Option Expr)) (es:List Expr) (pos:Pos),env.scope=Γ.sc->kEs ks keys=true->keys.length=es.length->mEs P Γ cs es=true->SiP W A fs env Γ.vis ks (evalPairs (pairTrees keys es env pos)) (λr=>evs P.S F cs r)
 |[],Γ,env,ks,keys,es,pos,hsc,hk,hl,h=>by
  rw[aJ2 h]at hl ⊢;have e1:=List.length_eq_zero_iff.mp hl;rw[e1]at hk ⊢;rw[cX8 hk];exact p_nil
 |c::cs,Γ,env,ks,keys,es,pos,hsc,hk,hl,h=>by
  refine e2a3 (bY h) λe es' he h1 h2=>?_;rw[he]at hl ⊢;obtain⟨k,ks',j,p,keys',e1,e2,ok,hk'⟩:=cI7 hk hl;rw[e2]at hl;rw[e1,e2];exact dH7 ok (evE X c Γ env _ hsc h1) (evPr X cs Γ env ks' keys' es' pos hsc hk' (Nat.succ.inj hl) h2)
theorem evL(X:Fx W P A fs n F):∀(cs:List CE) (Γ:Cx) (env:Env) (es:List Expr) (pos:Pos),env.scope=Γ.sc->aW es=true->mEs P Γ cs es=true->SiL W A fs env Γ.vis (spliced (backTo pos (starEach es env))) (λr=>evs P.S F cs r)
 |[],Γ,env,es,pos,hsc,hs,h=>by
  rw[aJ2 h];exact l_nil
 |c::cs,Γ,env,es,pos,hsc,hs,h=>by
  refine e2a3 (bY h) λe es' he h1 h2=>?_;rw[he]at hs ⊢;exact dI9 (evE X c Γ env _ hsc h1) (evL X cs Γ env _ _ hsc (aB2 hs) h2) (fD hs)
theorem evBo(X:Fx W P A fs n F):∀(cs:List CE) (Γ:Cx) (env:Env) (es:List Expr) (pos:Pos) (op:BoolOp) (b:Bool),env.scope=Γ.sc->dJ6 b op=true->mEs P Γ cs es=true->cs≠[]->SiE W A fs env Γ.vis (boolOp pos op (evalEach es env)) (λr=>evB P.S F b cs r)
 |[],Γ,env,es,pos,op,b,hsc,ho,h,hne=>absurd rfl hne
 |[c],Γ,env,es,pos,op,b,hsc,ho,h,hne=>by
  refine e2a3 (bY h) λe es' he h1 h2=>?_;rw[he,aJ2 h2];exact b_one (evE X c Γ env _ hsc h1)
 |c::c'::cs,Γ,env,es,pos,op,b,hsc,ho,h,hne=>by
  refine e2a3 (bY h) λe es' he h1 h2=>?_;have h2':=h2;refine e2a3 (bY h2) λe' es'' he' y_ y_=>?_;rw[he];rw[he']at h2' ⊢;exact dN0 (cW1 ho) (evE X c Γ env _ hsc h1) (evBo X (c'::cs) Γ env (e'::es'') pos op b hsc ho h2' (List.cons_ne_nil _ _))
theorem evCm(X:Fx W P A fs n F):∀(cs:List CE) (Γ:Cx) (env:Env) (es:List Expr) (pos:Pos) (ops:List CmpOp),env.scope=Γ.sc->ops.length=cs.length->cs≠[]->mEs P Γ cs es=true->es.all aR5=true->SiC W A fs env Γ.vis (λu=>compareChain pos u ops (markedEach ops es (evalEach es env))) (λx r=>evC P.S F x ops cs r)
 |[],Γ,env,es,pos,ops,hsc,hl,hne,h,hs=>absurd rfl hne
 |[c],Γ,env,es,pos,ops,hsc,hl,hne,h,hs=>by
  refine e2a3 (bY h) λe es' he h1 h2=>?_;refine e1a1 (List.length_eq_one_iff.mp hl) λop zz1=>?_;subst zz1;rw[he,aJ2 h2]at hs ⊢;exact c_one X.gl.ok X.R (bG2 (aB hs).1) (evE X c Γ env _ hsc h1)
 |c::c'::cs,Γ,env,es,pos,ops,hsc,hl,hne,h,hs=>by
  refine e2a3 (bY h) λe es' he h1 h2=>?_;have h2':=h2;refine e2a3 (bY h2) λe' es'' he' y_ y_=>?_;rw[he]at hs ⊢;rw[he']at h2' hs ⊢;rcases bQ2 hl with⟨op,op',ops',rfl⟩
  exact dM3 X.gl.ok X.R (evE X c Γ env _ hsc h1) (evCm X (c'::cs) Γ env (e'::es'') pos (op'::ops') hsc (Nat.succ.inj hl) (List.cons_ne_nil _ _) h2' (aB hs).2)
theorem evCt(X:Fx W P A fs n F):∀(cs:List CE) (Γ:Cx) (env:Env) (es:List Expr) (pos:Pos) (ops:List CmpOp),env.scope=Γ.sc->ops.length=cs.length->cs≠[]->mEs P Γ cs es=true->es.all aR5=true->dN5 W A fs env Γ.vis (λu=>testChain pos u ops (markedEach ops es (evalEach es env))) (λx r=>evC P.S F x ops cs r)
 |[],Γ,env,es,pos,ops,hsc,hl,hne,h,hs=>absurd rfl hne
 |[c],Γ,env,es,pos,ops,hsc,hl,hne,h,hs=>by
  refine e2a3 (bY h) λe es' he h1 h2=>?_;refine e1a1 (List.length_eq_one_iff.mp hl) λop zz1=>?_;subst zz1;rw[he,aJ2 h2]at hs ⊢;exact t_one X.gl.ok X.R (bG2 (aB hs).1) (evE X c Γ env _ hsc h1)
 |c::c'::cs,Γ,env,es,pos,ops,hsc,hl,hne,h,hs=>by
  refine e2a3 (bY h) λe es' he h1 h2=>?_;have h2':=h2;refine e2a3 (bY h2) λe' es'' he' y_ y_=>?_;rw[he]at hs ⊢;rw[he']at h2' hs ⊢;rcases bQ2 hl with⟨op,op',ops',rfl⟩
  exact dF8 X.gl.ok X.R (evE X c Γ env _ hsc h1) (evCt X (c'::cs) Γ env (e'::es'') pos (op'::ops') hsc (Nat.succ.inj hl) (List.cons_ne_nil _ _) h2' (aB hs).2)
theorem dA1(X:Fx W P A fs n F):∀(b:CB) (Γ:Cx) (env:Env) (e:Expr),env.scope=Γ.sc->mB P Γ b e=true->SiB W A fs env Γ.vis (isTrue e env (eval e env)) (λr=>evT P.S F b r)
 |.not b,Γ,env,e,hsc,h=>by
  refine aI (o:=vUn e) h λq hq h=>?_;refine e1a1 (cM8 hq) λy_ zz1=>?_;subst zz1;have h1:=(aB h).2;have h0:=(aB h).1;rw[bH1 h0];exact t_not (dA1 X b Γ env _ hsc h1)
 |.all c bs,Γ,env,e,hsc,h=>by
  refine aI (o:=aZ9 e) h λq hq h=>?_;refine e1a1 (bE3 hq) λy_ zz1=>?_;subst zz1;have h1:=(aB h).2;have h0:=(aB h).1;exact t_all (dL0 X bs Γ env _ _ _ hsc h0 h1)
 |.val c,Γ,env,e,hsc,h=>by
  rcases dE8 h with⟨hp,hm⟩ | ⟨a,ops,bs,pos,he,hm⟩
  ·exact t_val (evE X c Γ env e hsc hm) (aR2 hp)
  ·subst he
   exact evCa X c Γ env a ops bs pos hsc hm
theorem evCa(X:Fx W P A fs n F):∀(c:CE) (Γ:Cx) (env:Env) (a:Expr) (ops:List CmpOp) (bs:List Expr) (pos:Pos),env.scope=Γ.sc->mE P Γ c (.Compare a ops bs pos)=true->SiB W A fs env Γ.vis (isTrue (.Compare a ops bs pos) env (eval (.Compare a ops bs pos) env)) (λr=>bnd (ev P.S F c r) eY)
 |.cmp ca cops cbs,Γ,env,a,ops,bs,pos,hsc,h=>by
  refine e0a6 (cP7 h) λh0 h1 h2 h3 h4 h5=>?_;rw[<- h0];exact t_cmp (W:=W) (A:=A) (fs:=fs) (env:=env) (vis:=Γ.vis) (pos:=pos) (a:=a) (ops:=cops) (bs:=bs) (ca:=λr=>ev P.S F ca r) (cc:=λx r=>evC P.S F x cops cbs r) (evE X ca Γ env a hsc h1) (evCt X cbs Γ env bs pos cops hsc h3 h4 h2 h5)
 |.cnst _,_,_,_,_,_,_,_,h=>aD h
 |.var _,_,_,_,_,_,_,_,h=>aD h
 |.glob _,_,_,_,_,_,_,_,h=>aD h
 |.fnv _,_,_,_,_,_,_,_,h=>aD h
 |.bin _ _ _,_,_,_,_,_,_,_,h=>aD h
 |.neg _,_,_,_,_,_,_,_,h=>aD h
 |.not _,_,_,_,_,_,_,_,h=>aD h
 |.boolop _ _,_,_,_,_,_,_,_,h=>aD h
 |.ite _ _ _,_,_,_,_,_,_,_,h=>aD h
 |.tup _,_,_,_,_,_,_,_,h=>aD h
 |.list _,_,_,_,_,_,_,_,h=>aD h
 |.dict _ _,_,_,_,_,_,_,_,h=>aD h
 |.idx _ _,_,_,_,_,_,_,_,h=>aD h
 |.slice _ _ _ _,_,_,_,_,_,_,_,h=>aD h
 |.attr _ _,_,_,_,_,_,_,_,h=>aD h
 |.call _ _,_,_,_,_,_,_,_,h=>aD h
 |.callv _ _,_,_,_,_,_,_,_,h=>aD h
 |.new _ _,_,_,_,_,_,_,_,h=>aD h
 |.meth _ _ _,_,_,_,_,_,_,_,h=>aD h
 |.smeth _ _ _,_,_,_,_,_,_,_,h=>aD h
 |.bi _ _,_,_,_,_,_,_,_,h=>aD h
 |.listrange _,_,_,_,_,_,_,_,h=>aD h
 |.isi _ _,_,_,_,_,_,_,_,h=>aD h
 |.comp _ _ _ _ _ _,_,_,_,_,_,_,_,h=>aD h
theorem dL0(X:Fx W P A fs n F):∀(bs:List CB) (Γ:Cx) (env:Env) (es:List Expr) (op:BoolOp) (b:Bool),env.scope=Γ.sc->dJ6 b op=true->cI1 P Γ bs es=true->SiB W A fs env Γ.vis (allTrue op es env) (λr=>bH6 P.S F b bs r)
 |[],Γ,env,es,op,b,hsc,ho,h=>by
  rw[bG4 h];exact t_nil (cW1 ho)
 |c::cs,Γ,env,es,op,b,hsc,ho,h=>by
  refine e2a3 (aW0 h) λe es' he h1 h2=>?_;rw[he];exact dF9 (cW1 ho) (dA1 X c Γ env _ hsc h1) (dL0 X cs Γ env _ op b hsc ho h2)
theorem dA2(X:Fx W P A fs n F):∀(bs:List CB) (Γ:Cx) (env:Env) (es:List Expr),env.scope=Γ.sc->cI1 P Γ bs es=true->SiB W A fs env Γ.vis (aA4 es env true) (λr=>bN4 P.S F bs r)
 |[],Γ,env,es,hsc,h=>by
  rw[bG4 h];exact dK1
 |c::cs,Γ,env,es,hsc,h=>by
  refine e2a3 (aW0 h) λe es' he h1 h2=>?_;rw[he];exact cZ0 (dA1 X c Γ env _ hsc h1) (dA2 X cs Γ env _ hsc h2)
end
end Mini.Internal
variable{a:CE}{C k:Nat}{h:Int}{c:Expr×List Stmt×List Stmt}{o:MObj}{es:List Stmt}{e:Stmt}{y:Bool}{bs:List CB}
namespace Mini.Internal
open PySem PySem.W PyProof.Rows
section
theorem bR2(hsc:env.scope=Γ.sc)(h:bL2 Γ i x=true):Γ.vis[i]?=some (some x) /\ (env.kindOf x=some .local \/ env.kindOf x=some .cell):=by
 refine⟨eq_of_beq (bD h).1,?_⟩;show env.scope.names.lookup x=_ \/ env.scope.names.lookup x=_;rw[hsc];rcases Bool.or_eq_true_iff.mp (bD h).2 with q | q
 ·exact .inl (eq_of_beq q)
 ·exact .inr (eq_of_beq q)
theorem mT_of(h:mT Γ t tg=true):∃i x pos,t=.one i /\ tg=.Name x pos /\ bL2 Γ i x=true:=by
 cases t with
 |many is=>exact aD h
 |one i=>
  refine aI (o:=bS tg) h λq hq h=>?_;exact⟨i,q.1,q.2,rfl,b7 hq,h⟩
noncomputable def dO6(c:List Expr×Expr×Pos)(e:Stmt):Prop:=e=.Assign c.1 c.2.1 c.2.2
theorem cE7{c:List Expr×Expr×Pos}(h:dF3 e=some c):dO6 c e:=
 Stmt.casesOn (motive_2:=λe=>dF3 e=some c->dO6 c e) e (λy y y y y y y y y y=>aA) (λy y y y y y y y y y=>aA) (λy y y y y y y y y y y=>aA) (λy y=>aA) (λy y=>aA) (λy_ y_ y_ h=>by (refine aF h λz1=>?_;clear h;rw[<- z1]);rfl) (λy y y y y y y=>aA) (λy y y y=>aA) (λy y y y y=>aA) (λy y y y y=>aA) (λy y y y y=>aA) (λy y y y=>aA) (λy y y y=>aA) (λy y y=>aA) (λy y y=>aA) (λy y y=>aA) (λy y y=>aA) (λy y y y y=>aA) (λy y y y y=>aA) (λy y y=>aA) (λy y=>aA) (λy y y y=>aA) (λy y=>aA) (λy y=>aA) (λy y=>aA) (λy=>aA) (λy=>aA) (λy=>aA) h
theorem cT1{c:List Expr×Expr×Pos}(h:dF3 e=some c):e=.Assign c.1 c.2.1 c.2.2:=cE7 h
noncomputable def dO3(c:Expr)(e:Stmt):Prop:=∃pos,e=.Expr c pos
theorem cE1{c:Expr}(h:dC9 e=some c):dO3 c e:=
 Stmt.casesOn (motive_2:=λe=>dC9 e=some c->dO3 c e) e (λy y y y y y y y y y=>aA) (λy y y y y y y y y y=>aA) (λy y y y y y y y y y y=>aA) (λy y=>aA) (λy y=>aA) (λy y y=>aA) (λy y y y y y y=>aA) (λy y y y=>aA) (λy y y y y=>aA) (λy y y y y=>aA) (λy y y y y=>aA) (λy y y y=>aA) (λy y y y=>aA) (λy y y=>aA) (λy y y=>aA) (λy y y=>aA) (λy y y=>aA) (λy y y y y=>aA) (λy y y y y=>aA) (λy y y=>aA) (λy y=>aA) (λy y y y=>aA) (λy y=>aA) (λy y=>aA) (λy_ y_ h=>by (refine aF h λz1=>?_;clear h;rw[z1]);exact⟨_,rfl⟩) (λy=>aA) (λy=>aA) (λy=>aA) h
theorem bP1{c:Expr}(h:dC9 e=some c):∃pos,e=.Expr c pos:=cE1 h
noncomputable def dO1(c:Expr×List Stmt×List Stmt)(e:Stmt):Prop:=∃pos,e=.If c.1 c.2.1 c.2.2 pos
theorem cD8(h:dC8 e=some c):dO1 c e:=
 Stmt.casesOn (motive_2:=λe=>dC8 e=some c->dO1 c e) e (λy y y y y y y y y y=>aA) (λy y y y y y y y y y=>aA) (λy y y y y y y y y y y=>aA) (λy y=>aA) (λy y=>aA) (λy y y=>aA) (λy y y y y y y=>aA) (λy y y y=>aA) (λy y y y y=>aA) (λy y y y y=>aA) (λy y y y y=>aA) (λy y y y=>aA) (λy_ y_ y_ y_ h=>by (refine aF h λz1=>?_;clear h;subst z1);exact⟨_,rfl⟩) (λy y y=>aA) (λy y y=>aA) (λy y y=>aA) (λy y y=>aA) (λy y y y y=>aA) (λy y y y y=>aA) (λy y y=>aA) (λy y=>aA) (λy y y y=>aA) (λy y=>aA) (λy y=>aA) (λy y=>aA) (λy=>aA) (λy=>aA) (λy=>aA) h
theorem bP0(h:dC8 e=some c):∃pos,e=.If c.1 c.2.1 c.2.2 pos:=cD8 h
noncomputable def dO2(c:Expr×Expr×List Stmt×List Stmt)(e:Stmt):Prop:=∃pos,e=.For c.1 c.2.1 c.2.2.1 c.2.2.2 pos
theorem cE0{c:Expr×Expr×List Stmt×List Stmt}(h:dF1 e=some c):dO2 c e:=
 Stmt.casesOn (motive_2:=λe=>dF1 e=some c->dO2 c e) e (λy y y y y y y y y y=>aA) (λy y y y y y y y y y=>aA) (λy y y y y y y y y y y=>aA) (λy y=>aA) (λy y=>aA) (λy y y=>aA) (λy y y y y y y=>aA) (λy y y y=>aA) (λy y y y y=>aA) (λy_ y_ y_ y_ y_ h=>by (refine aF h λz1=>?_;clear h;subst z1);exact⟨_,rfl⟩) (λy y y y y=>aA) (λy y y y=>aA) (λy y y y=>aA) (λy y y=>aA) (λy y y=>aA) (λy y y=>aA) (λy y y=>aA) (λy y y y y=>aA) (λy y y y y=>aA) (λy y y=>aA) (λy y=>aA) (λy y y y=>aA) (λy y=>aA) (λy y=>aA) (λy y=>aA) (λy=>aA) (λy=>aA) (λy=>aA) h
theorem cS9{c:Expr×Expr×List Stmt×List Stmt}(h:dF1 e=some c):∃pos,e=.For c.1 c.2.1 c.2.2.1 c.2.2.2 pos:=cE0 h
noncomputable def IsWh(c:Expr×List Stmt×List Stmt)(e:Stmt):Prop:=∃pos,e=.While c.1 c.2.1 c.2.2 pos
theorem cS2(h:vWh e=some c):IsWh c e:=
 Stmt.casesOn (motive_2:=λe=>vWh e=some c->IsWh c e) e (λy y y y y y y y y y=>aA) (λy y y y y y y y y y=>aA) (λy y y y y y y y y y y=>aA) (λy y=>aA) (λy y=>aA) (λy y y=>aA) (λy y y y y y y=>aA) (λy y y y=>aA) (λy y y y y=>aA) (λy y y y y=>aA) (λy y y y y=>aA) (λy_ y_ y_ y_ h=>by (refine aF h λz1=>?_;clear h;subst z1);exact⟨_,rfl⟩) (λy y y y=>aA) (λy y y=>aA) (λy y y=>aA) (λy y y=>aA) (λy y y=>aA) (λy y y y y=>aA) (λy y y y y=>aA) (λy y y=>aA) (λy y=>aA) (λy y y y=>aA) (λy y=>aA) (λy y=>aA) (λy y=>aA) (λy=>aA) (λy=>aA) (λy=>aA) h
theorem dE9(h:vWh e=some c):∃pos,e=.While c.1 c.2.1 c.2.2 pos:=cS2 h
noncomputable def dO0(c:Option Expr)(e:Stmt):Prop:=∃pos,e=.Return c pos
theorem cD3{c:Option Expr}(h:cD4 e=some c):dO0 c e:=
 Stmt.casesOn (motive_2:=λe=>cD4 e=some c->dO0 c e) e (λy y y y y y y y y y=>aA) (λy y y y y y y y y y=>aA) (λy y y y y y y y y y y=>aA) (λy_ y_ h=>by (refine aF h λz1=>?_;clear h;subst z1);exact⟨_,rfl⟩) (λy y=>aA) (λy y y=>aA) (λy y y y y y y=>aA) (λy y y y=>aA) (λy y y y y=>aA) (λy y y y y=>aA) (λy y y y y=>aA) (λy y y y=>aA) (λy y y y=>aA) (λy y y=>aA) (λy y y=>aA) (λy y y=>aA) (λy y y=>aA) (λy y y y y=>aA) (λy y y y y=>aA) (λy y y=>aA) (λy y=>aA) (λy y y y=>aA) (λy y=>aA) (λy y=>aA) (λy y=>aA) (λy=>aA) (λy=>aA) (λy=>aA) h
theorem aZ8{c:Option Expr}(h:cD4 e=some c):∃pos,e=.Return c pos:=cD3 h
noncomputable def cR2(e:Stmt):Prop:=∃pos,e=.Continue pos
theorem bP4(h:cE4 e=true):cR2 e:=
 Stmt.casesOn (motive_2:=λe=>cE4 e=true->cR2 e) e (λy y y y y y y y y y=>aD) (λy y y y y y y y y y=>aD) (λy y y y y y y y y y y=>aD) (λy y=>aD) (λy y=>aD) (λy y y=>aD) (λy y y y y y y=>aD) (λy y y y=>aD) (λy y y y y=>aD) (λy y y y y=>aD) (λy y y y y=>aD) (λy y y y=>aD) (λy y y y=>aD) (λy y y=>aD) (λy y y=>aD) (λy y y=>aD) (λy y y=>aD) (λy y y y y=>aD) (λy y y y y=>aD) (λy y y=>aD) (λy y=>aD) (λy y y y=>aD) (λy y=>aD) (λy y=>aD) (λy y=>aD) (λy=>aD) (λy=>aD) (λy_ h=>by exact⟨_,rfl⟩) h
theorem cE3(h:cE4 e=true):∃pos,e=.Continue pos:=bP4 h
noncomputable def cQ9(e:Stmt):Prop:=∃pos,e=.Pass pos
theorem bO6(h:cD6 e=true):cQ9 e:=
 Stmt.casesOn (motive_2:=λe=>cD6 e=true->cQ9 e) e (λy y y y y y y y y y=>aD) (λy y y y y y y y y y=>aD) (λy y y y y y y y y y y=>aD) (λy y=>aD) (λy y=>aD) (λy y y=>aD) (λy y y y y y y=>aD) (λy y y y=>aD) (λy y y y y=>aD) (λy y y y y=>aD) (λy y y y y=>aD) (λy y y y=>aD) (λy y y y=>aD) (λy y y=>aD) (λy y y=>aD) (λy y y=>aD) (λy y y=>aD) (λy y y y y=>aD) (λy y y y y=>aD) (λy y y=>aD) (λy y=>aD) (λy y y y=>aD) (λy y=>aD) (λy y=>aD) (λy y=>aD) (λy_ h=>by exact⟨_,rfl⟩) (λy=>aD) (λy=>aD) h
theorem cD5(h:cD6 e=true):∃pos,e=.Pass pos:=bO6 h
noncomputable def dN9(c:Option Expr×Option Expr)(e:Stmt):Prop:=∃pos,e=.Raise c.1 c.2 pos
theorem cS6{c:Option Expr×Option Expr}(h:vRse e=some c):dN9 c e:=
 Stmt.casesOn (motive_2:=λe=>vRse e=some c->dN9 c e) e (λy y y y y y y y y y=>aA) (λy y y y y y y y y y=>aA) (λy y y y y y y y y y y=>aA) (λy y=>aA) (λy y=>aA) (λy y y=>aA) (λy y y y y y y=>aA) (λy y y y=>aA) (λy y y y y=>aA) (λy y y y y=>aA) (λy y y y y=>aA) (λy y y y=>aA) (λy y y y=>aA) (λy y y=>aA) (λy y y=>aA) (λy y y=>aA) (λy_ y_ y_ h=>by (refine aF h λz1=>?_;clear h;rw[<- z1]);exact⟨_,rfl⟩) (λy y y y y=>aA) (λy y y y y=>aA) (λy y y=>aA) (λy y=>aA) (λy y y y=>aA) (λy y=>aA) (λy y=>aA) (λy y=>aA) (λy=>aA) (λy=>aA) (λy=>aA) h
noncomputable def dN7(c:List Stmt×List ExceptHandler×List Stmt×List Stmt)(e:Stmt):Prop:=∃pos,e=.Try c.1 c.2.1 c.2.2.1 c.2.2.2 pos
theorem cS5{c:List Stmt×List ExceptHandler×List Stmt×List Stmt}(h:vTry e=some c):dN7 c e:=
 Stmt.casesOn (motive_2:=λe=>vTry e=some c->dN7 c e) e (λy y y y y y y y y y=>aA) (λy y y y y y y y y y=>aA) (λy y y y y y y y y y y=>aA) (λy y=>aA) (λy y=>aA) (λy y y=>aA) (λy y y y y y y=>aA) (λy y y y=>aA) (λy y y y y=>aA) (λy y y y y=>aA) (λy y y y y=>aA) (λy y y y=>aA) (λy y y y=>aA) (λy y y=>aA) (λy y y=>aA) (λy y y=>aA) (λy y y=>aA) (λy_ y_ y_ y_ y_ h=>by (refine aF h λz1=>?_;clear h;rw[<- z1]);exact⟨_,rfl⟩) (λy y y y y=>aA) (λy y y=>aA) (λy y=>aA) (λy y y y=>aA) (λy y=>aA) (λy y=>aA) (λy y=>aA) (λy=>aA) (λy=>aA) (λy=>aA) h
theorem cD9{hd:ExceptHandler}{c:Expr×Option Str×Expr}(h:cS8 hd=some c):∃rp hp,hd=.ExceptHandler (some c.1) c.2.1 [.Return (some c.2.2) rp] hp:=by
 obtain⟨ty,nm,body,hp⟩:=hd
 cases ty with
 |none=>exact aA h
 |some t=>
  cases body with
  |nil=>exact aA h
  |cons st rest=>
   cases rest with
   |cons y_ y_=>exact aA h
   |nil=>
    have h:((cD4 st).bind λo=>o.map λe=>(t,nm,e))=some c:=h
    cases hr:cD4 st with
    |none=>rw[hr]at h;exact aA h
    |some o=>
     rw[hr]at h
     cases o with
     |none=>exact aA h
     |some e=>
      (refine aF h λz1=>?_;clear h;rw[<- z1])
      refine e1a1 (aZ8 hr) λrp zz1=>?_;subst zz1;exact⟨rp,hp,rfl⟩
theorem aO2{v:Expr}{t:Option Expr}{line:Nat}(h:aD1 v=false):swapsWith v t line env=Pure.pure false:=by
 cases (v) <;> first | rfl | (exact aD h.symm)
structure Cmp(W:Wd)(P:Px)(A:Around)(fs:List Env)(F:Fns)(env:Env)(Γ:Cx)(c:CE)(e0:Expr)(gens:List Comprehension)(scope:Scope):Prop where
 parts:∃elt k src ifs x t tg iter ifs',c=.comp elt t (List.length x) k src ifs /\ gens=[⟨tg,iter,ifs',0⟩] /\ CTg A Γ.vis (aL3 scope x Γ.vis) t tg /\ CompOk scope env Γ.vis (aL3 scope x Γ.vis) x.length /\ (∀y,foldedSetIterable iter env y=Pure.pure y) /\
  SiSrc W A fs env Γ.vis iter (λr=>bnd (evs P.S F src r) (aD4 k)) /\ (∀cl C,SiB W A fs (compEnvC scope cl C env) (aL3 scope x Γ.vis) (aA4 ifs' (compEnvC scope cl C env) true) (λr=>bN4 P.S F ifs r)) /\
  (∀cl C,SiE W A fs (compEnvC scope cl C env) (aL3 scope x Γ.vis) (eval e0 (compEnvC scope cl C env)) (λr=>ev P.S F elt r)) /\ env.scope.kind=.function
theorem cA2(X:Fx W P A fs n F){Γ:Cx}:∀{c:CE} {e0:Expr} {gens:List Comprehension} {scope:Scope} {pos:Pos} (hsc:env.scope=Γ.sc) (h:mE P Γ c (.ListComp e0 gens scope pos)=true),Cmp W P A fs F env Γ c e0 gens scope:=by
 intro c e0 gens scope pos hsc h
 cases c with
 |comp elt t nl k src ifs=>
  refine aI (o:=cC1 gens) h λg hg h=>?_;rw[aH6 hg];refine aI (o:=vTg P.loud Γ.vis.length t g.target) h λx hx h=>?_;refine aBB7 h λhnl h0 h1 h2 h3 h4 h5=>?_;rw[cV hnl];have hf:env.scope.kind=.function:=by rw[hsc];exact beq_iff_eq.mp (aB h1).2
  exact⟨elt,k,src,ifs,x,t,g.target,g.iter,g.ifs,rfl,by rw[<- cP3 h0],cP5 X hx,aY2 hsc h1,bE6 h2,
   aN5 X hsc h3 (λe c hc he=>cL0 X src Γ env e hsc c hc he) (λes pos hs he=>evL X src Γ env es pos hsc hs he),
   λcl C=>dA2 X ifs (aP2 scope x Γ) _ g.ifs (aG4 hsc) h4,λcl C=>evE X elt (aP2 scope x Γ) _ e0 (aG4 hsc) h5,hf⟩
 |_=>exact aD h
theorem dC2(X:Fx W P A (env::fs) n F){Γ:Cx}{t:CT}{e:CE}{tg v:Expr}{pos:Pos}(hsc:env.scope=Γ.sc)(h:(mT Γ t tg&&mE P Γ e v&&(bS tg).any λy=>bV0 Γ y v)=true):
  SiS W A fs env Γ.vis (exec (.Assign [tg] v pos) env) (λr=>ex P.S F (.asg (.one t) e) r):=by
 refine aBB3 h λh1 h2 h3=>?_;refine e3a3 (mT_of h1) λi y py z71 z72 ht=>?_;subst z71;subst z72;refine e0a2 (bR2 hsc ht) λhv hk=>?_;have h3:bV0 Γ (y,py) v=true:=h3
 cases hc:aD1 v with
 |false=>exact bN5 (evE X e Γ env v hsc h2) (aZ4 hv hk) (aO2 (env:=env) (line:=pos.line) (t:=some (.Name y py)) hc) rfl rfl
 |true=>
  have h3:(!aD1 v||(aU2 v).any λq=>!(Γ.sc.names.lookup y == some .local)||(py.line == v.pos.line&&!(q.2.2.names.any λ(n,k)=>n == y&&(k == .local||k == .cell))))=true:=h3;rw[hc]at h3;refine aI (o:=aU2 v) h3 λq hq h3=>?_;refine e1a1 (bE2 hq) λcpos zz1=>?_;subst zz1;obtain⟨elt,k,src,ifs,x,t,tg,iter,ifs',z71,hgen,hg,ck,hs,hsrc,hifs,helt,hf⟩:=(cA2 X hsc h2).parts;subst z71
  cases hloc:env.kindOf y == some .local with
  |true=>
   have hl':(Γ.sc.names.lookup y == some NameKind.local)=true:=by rw[<- hsc];exact hloc
   rw[hl']at h3;have h4:=(aB h3).2;have h3:=(aB h3).1;have hb:(env.blockKind == ScopeKind.function)=true:=by
    unfold Env.blockKind;rw[hf];rfl
   have hsw:swapsWithSole [.Name y py] (.ListComp q.1 q.2.1 q.2.2 cpos) pos.line env=Pure.pure true:=by
    show(Pure.pure _:Sem Bool)=_;rw[hb,hloc,h3,h4];rfl
   rw[hgen]at hsw ⊢;have:=bJ5 (W:=W) (A:=A) (fs:=fs) (env:=env) (vis:=Γ.vis) (pos:=pos) (vis':=aL3 q.2.2 x Γ.vis) (nl:=x.length) (i:=i) ck hs hg hsrc hifs helt hsw hv (beq_iff_eq.mp hloc);intro s io m r Z;have eq:ex P.S F (.asg (.one (.one i)) (.comp elt t x.length k src ifs)) r=bnd (bnd (bnd (evs P.S F src r) (aD4 k)) λp=>bnd (bK p.2 (fC t (r++List.replicate x.length none) (λr=>bN4 P.S F ifs r) (λr=>ev P.S F elt r)) p.1) λl=>if l.length <= lid then alloc (.list l)else bad) λv=>bnd (λm=>.ok (r.set i (some v)) m) λr'=>ret (.next,r'):=by
    rw[bX (evs P.S F src r)];rfl
   dsimp only;rw[eq];exact this s io m r Z
  |false=>
   have hsw:swapsWithSole [.Name y py] (.ListComp q.1 q.2.1 q.2.2 cpos) pos.line env=Pure.pure false:=by
    show(Pure.pure _:Sem Bool)=_;rw[hloc,Bool.and_false];rfl
   exact bN5 (evE X _ Γ env _ hsc h2) (aZ4 hv hk) hsw rfl rfl
theorem bW0(hsc:env.scope=Γ.sc):∀{is:List Nat} {es:List Expr},mTs Γ is es=true->Tgs env Γ.vis is es
 |[],es,h=>dL h
 |i::is,[],h=>aD h
 |i::is,e::es,h=>by
  refine e0a2 (aB (a:=(bS e).any λ(x:Str×Pos)=>bL2 Γ i x.1) (b:=mTs Γ is es) h) λh1 h2=>?_;refine aI (o:=bS e) h1 λq hq h1=>?_;refine e0a2 (bR2 hsc h1) λhv hk=>?_;exact⟨q.1,q.2,es,by rw[b7 hq],hv,hk,bW0 hsc h2⟩
theorem cW5{v:Expr}{ts:List Expr}(h:(bE1 v).isNone=true):swappedStores [.Tuple ts k p] v env=Pure.pure none:=by
 cases (v) <;> first | rfl | (exact aD h)
theorem cM5(X:Fx W P A (env::fs) n F){Γ:Cx}{is:List Nat}{e:CE}{tg v:Expr}{pos:Pos}(hsc:env.scope=Γ.sc)(h:(P.loud&&mTF Γ (.many is) tg&&mE P Γ e v&&!aD1 v&&(bE1 v).isNone)=true):
  SiS W A fs env Γ.vis (exec (.Assign [tg] v pos) env) (λr=>ex P.S F (.asg (.one (.many is)) e) r):=by
 refine aBB5 h λh1 h2 h3 h4 h5=>?_;refine aI (o:=bE1 tg) h2 λes hq h2=>?_;refine e2a1 (aP8 hq) λk pt z71=>?_;rw[z71];exact bN5 (evE X e Γ env v hsc h3) (cQ7 (X.hh h1) (bW0 hsc h2)) (aO2 (env:=env) (line:=pos.line) (t:=some (.Tuple es k pt)) ((Bool.not_eq_true' _).mp h4)) (cW5 h5) rfl
theorem dC3(X:Fx W P A (env::fs) n F){Γ:Cx}{t:CTgt}{e:CE}{tg v:Expr}{pos:Pos}(hsc:env.scope=Γ.sc)(h:mAsg P Γ t e tg v=true):
  SiS W A fs env Γ.vis (exec (.Assign [tg] v pos) env) (λr=>ex P.S F (.asg t e) r):=by
 cases t with
 |one t=>
  cases t with
  |one i=>exact dC2 X hsc h
  |many is=>exact cM5 X hsc h
 |attr o k=>
  refine aI (o:=aH8 tg) h λq hq h=>?_;rw[aG0 hq];refine aBB4 h λh1 h2 h3 h4=>?_;refine e0a2 (cP4 h1) λhx hf=>?_;exact bN5 (evE X e Γ env v hsc h3) (dN4 (X.S.symm▸hx) (X.S.symm▸hf) (evE X o Γ env _ hsc h2)) (aO2 (env:=env) (line:=pos.line) (t:=some (.Attribute q.1 q.2.1 q.2.2)) ((Bool.not_eq_true' _).mp h4)) rfl rfl
 |idx o i=>
  refine aI (o:=cD2 tg) h λq hq h=>?_;refine e1a1 (aZ7 hq) λp z71=>?_;rw[z71];refine aBB4 h λh1 h2 h3 h4=>?_;exact bN5 (evE X e Γ env v hsc h3) (a_idx X.R (evE X o Γ env _ hsc h1) (evE X i Γ env _ hsc h2)) (aO2 (env:=env) (line:=pos.line) (t:=some (.Subscript q.1 q.2 p)) ((Bool.not_eq_true' _).mp h4)) rfl rfl
 |idx2 o i o' i'=>exact aD h
theorem cZ4(hA:A.frames=some (env::fs)){Γ:Cx}{i:Nat}{src:List CE}{k:IK}{body:List CS}{y:Str}{py pos:Pos}{iter:Expr}{b:List Stmt}(hsrc:bM8 W A (env::fs) env Γ.vis (.Name y py) iter (λr=>bnd (evs P.S F src r) (aD4 k)))(hv:Γ.vis[i]?=some (some y))(hk:env.kindOf y=some .local \/ env.kindOf y=some .cell)(hb:SiS W A fs env Γ.vis (execs b env) (λr=>exs P.S F body r))(hs:∀x,foldedSetIterable iter env x=Pure.pure x):SiS W A fs env Γ.vis (exec (.For (.Name y py) iter b [] pos) env) (λr=>ex P.S F (.for_ k (.one i) src body) r):=by
 have:=dD8 hA (pos:=pos) (target:=.Name y py) hsrc (aZ4 hv hk) hb hs;intro s io m r Z;have eq:ex P.S F (.for_ k (.one i) src body) r=bnd (bnd (evs P.S F src r) (aD4 k)) λp=>aO8 p.2 (λv r'=>bnd (λm=>.ok (r'.set i (some v)) m) λr''=>exs P.S F body r'') p.1 r:=by
  rw[bX];rfl
 dsimp only;rw[eq];exact this s io m r Z
theorem cK3(hA:A.frames=some (env::fs))(hh:A.handled=none){Γ:Cx}{is:List Nat}{src:List CE}{k:IK}{body:List CS}{es:List Expr}{kx:Nat}{py pos:Pos}{iter:Expr}{b:List Stmt}(hsrc:bM8 W A (env::fs) env Γ.vis (.Tuple es kx py) iter (λr=>bnd (evs P.S F src r) (aD4 k)))(ht:Tgs env Γ.vis is es)(hb:SiS W A fs env Γ.vis (execs b env) (λr=>exs P.S F body r))(hs:∀x,foldedSetIterable iter env x=Pure.pure x):SiS W A fs env Γ.vis (exec (.For (.Tuple es kx py) iter b [] pos) env) (λr=>ex P.S F (.for_ k (.many is) src body) r):=by
 have:=dD8 hA (pos:=pos) (target:=.Tuple es kx py) hsrc (cQ7 hh ht) hb hs;intro s io m r Z;have eq:ex P.S F (.for_ k (.many is) src body) r=bnd (bnd (evs P.S F src r) (aD4 k)) λp=>aO8 p.2 (λv r'=>bnd (aI4 (.many is) v r') λr''=>exs P.S F body r'') p.1 r:=by
  rw[bX];rfl
 dsimp only;rw[eq];exact this s io m r Z
theorem bW1(h:mSs P Γ [] es=true):es=[]:=dL h
theorem bG3{c:CS}{cs:List CS}(h:mSs P Γ (c::cs) es=true):∃e es',es=e::es' /\ mS P Γ c e=true /\ mSs P Γ cs es'=true:=by
 cases es with
 |nil=>exact aD h
 |cons e es=>have:=aB (a:=mS P Γ c e) (b:=mSs P Γ cs es) h;exact⟨e,es,rfl,this.1,this.2⟩
theorem cU0(X:Fx W P A (env::fs) n F){Γ:Cx}{c:Nat}{msg:Str}{x:Str}{es:List Expr}{np cpos pos:Pos}(hsc:env.scope=Γ.sc)(h1:P.loud=true)(h2:aW6 P Γ c x=true)(h3:excIn P.K (P.ca c) bmV "ValueError.__new__"=true)(h4:aW es=true)(hl:SiL W A (env::fs) env Γ.vis (spliced (backTo cpos (starEach es env))) (λr=>evs P.S F [.cnst (.str msg)] r)):SiS W A fs env Γ.vis (exec (.Raise (some (.Call (.Name x np) es [] cpos)) none pos) env) (λr=>ex P.S F (.rse c msg) r):=by
 refine e0a3 (bF9 hsc h2) λa b e=>?_;obtain⟨mg,mb,y_,y_,y_,pp,loose,T⟩:=X.gl.top;have:=cR8 (pos:=pos) (np:=np) (bmB:=bmV) (Bn:="ValueError") (B:="ValueError") X.gl (X.hh h1) PySem.F.excBase_ValueError rfl PySem.F.excBase_ValueError rfl T (c:=c) (X.ca▸e) (X.ca▸h3) a b h4 hl (λr m vs m' q=>by (refine aL5 q λz1 z2=>?_;clear q;subst z1;subst z2);exact(by decide:1 <= lid));exact this
theorem cT2(X:Fx W P A (env::fs) n F){Γ:Cx}{c:Nat}{ni:Option Nat}{nm:Option Str}{x:Str}{np hp rp pos:Pos}{body:List Stmt}{e:Expr}{cb:Lo->Mn (Fl×Lo)}{ch:Lo->Mn V}(hsc:env.scope=Γ.sc)(h1:aW6 P Γ c x=true)(h2:aZ3 (relT P c) 0 P.S.cls=true)(h3:okNm Γ ni nm=true)(hb:SiQ W A fs env Γ.vis (execs body env) cb)(he:∀a,SiE W (A.mark (some (.ref a))) (env::fs) env Γ.vis (eval e env) ch):
  SiS W A fs env Γ.vis (exec (.Try body [.ExceptHandler (some (.Name x np)) nm [.Return (some e) rp] hp] [] [] pos) env) (λr=>bQ7 P.S (cb r) c ni ch r):=by
 refine e0a3 (bF9 hsc h1) λa b e1=>?_;refine x_try X.gl X.R.frames hb he (X.ca▸e1) a b (λd hd=>?_) ?_
 ·cases q:P.S.cls[d]? with
  |none=>rw[q]at hd;injection hd
  |some k=>
   rw[q]at hd;have:=aE3 h2 q;rw[Nat.zero_add]at this;have this:(!(k.supers.contains c)||exmOne P.K (.ref (P.ca d)) (.ref (P.ca c)) == some true)=true:=this;rw[show k.supers.contains c=true from hd]at this;rw[X.ca];exact beq_iff_eq.mp this
 ·cases ni with
  |none=>cases nm with
   |none=>trivial
   |some y=>exact aD h3
  |some i=>cases nm with
   |none=>exact aD h3
   |some y=>exact aD h3
theorem Fx.quiet(X:Fx W P A fs n F)(a:Addr):Fx W P.quiet (A.mark (some (.ref a))) fs n F where
 gl:=X.gl
 R:=⟨X.R.frames,X.R.depth,X.R.units⟩
 S:=X.S
 fa:=X.fa
 ca:=X.ca
 hh:=λh=>by injection h
 calls:=λk hk=>X.qcalls (A.mark (some (.ref a))) ⟨X.R.frames,X.R.depth,X.R.units⟩ k hk
 new:=λh=>by injection h
 qcalls:=λy_ y_ y_ hk=>by injection hk
 objs:=λh=>by injection h
mutual
theorem exQ(X:Fx W P A (env::fs) n F):∀(c:CS) (Γ:Cx) (st:Stmt),env.scope=Γ.sc->qS c=true->mS P Γ c st=true->SiQ W A fs env Γ.vis (exec st env) (λr=>ex P.S F c r)
 |.exp e,Γ,st,hsc,hq,h=>by
  refine aI (o:=dC9 st) h λq hq h=>?_;refine e1a1 (bP1 hq) λy_ zz1=>?_;subst zz1;have h2:=(aB h).2;have h1:=(aB h).1;exact q_exp (aO2 ((Bool.not_eq_true' _).mp h2)) (evE X e Γ env _ hsc h1)
 |.ite c a b,Γ,st,hsc,hq,h=>by
  have qb:=(aB hq).2;have qa:=(aB hq).1;refine aI (o:=dC8 st) h λq hq h=>?_;refine e1a1 (bP0 hq) λy_ zz1=>?_;subst zz1;refine aBB3 h λh1 h2 h3=>?_;exact q_if (dA1 X c Γ env _ hsc h1) (exQs X a Γ _ hsc qa h2) (exQs X b Γ _ hsc qb h3)
 |.ret e,Γ,st,hsc,hq,h=>by
  refine aI (o:=cD4 st) h λq hq h=>?_;refine e1a1 (aZ8 hq) λy_ zz1=>?_;subst zz1;refine aI (o:=q) h λv hv h=>?_;rw[hv];exact q_ret (evE X e Γ env _ hsc h)
 |.asg _ _,_,_,_,hq,_=>aD hq
 |.for_ _ _ _ _,_,_,_,hq,_=>aD hq
 |.wh _ _,_,_,_,hq,_=>aD hq
 |.rse _ _,_,_,_,hq,_=>aD hq
 |.try_ _ _ _ _,_,_,_,hq,_=>aD hq
 |.cont,_,_,_,hq,_=>aD hq
 |.pass,_,_,_,hq,_=>aD hq
theorem exQs(X:Fx W P A (env::fs) n F):∀(cs:List CS) (Γ:Cx) (ss:List Stmt),env.scope=Γ.sc->qSs cs=true->mSs P Γ cs ss=true->SiQ W A fs env Γ.vis (execs ss env) (λr=>exs P.S F cs r)
 |[],Γ,ss,hsc,_,h=>by
  rw[bW1 h];exact q_nil
 |c::cs,Γ,ss,hsc,hq,h=>by
  have q2:=(aB hq).2;have q1:=(aB hq).1;refine e2a3 (bG3 h) λe es' he h1 h2=>?_;rw[he];exact dH5 (exQ X c Γ _ hsc q1 h1) (exQs X cs Γ _ hsc q2 h2)
end
mutual
theorem exS(X:Fx W P A (env::fs) n F):∀(c:CS) (Γ:Cx) (st:Stmt),env.scope=Γ.sc->mS P Γ c st=true->SiS W A fs env Γ.vis (exec st env) (λr=>ex P.S F c r)
 |.asg t e,Γ,st,hsc,h=>by
  refine aI (o:=dF3 st) h λq hq h=>?_;rw[cT1 hq];refine aI (o:=cC1 q.1) h λtg ht h=>?_;rw[aH6 ht];exact dC3 X hsc h
 |.exp e,Γ,st,hsc,h=>by
  refine aI (o:=dC9 st) h λq hq h=>?_;refine e1a1 (bP1 hq) λy_ zz1=>?_;subst zz1;have h2:=(aB h).2;have h1:=(aB h).1;exact x_exp (aO2 ((Bool.not_eq_true' _).mp h2)) (evE X e Γ env _ hsc h1)
 |.ite c a b,Γ,st,hsc,h=>by
  refine aI (o:=dC8 st) h λq hq h=>?_;refine e1a1 (bP0 hq) λy_ zz1=>?_;subst zz1;refine aBB3 h λh1 h2 h3=>?_;exact x_if (dA1 X c Γ env _ hsc h1) (dA0 X a Γ _ hsc h2) (dA0 X b Γ _ hsc h3)
 |.for_ k t src body,Γ,st,hsc,h=>by
  refine aI (o:=dF1 st) h λq hq h=>?_;refine e1a1 (cS9 hq) λy_ z71=>?_;rw[z71];refine aBB5 h λh0 h1 h2 h3 h4=>?_;rw[dL h0];have hl:=bR7 h3
  cases t with
  |many is=>
   refine aI (o:=bE1 q.1) h1 λes hq h1=>?_;refine e2a1 (aP8 hq) λkx pt he=>?_;rw[he];exact cK3 X.R.frames (X.hh hl) (bR6 X hsc h3 (λe c hc he=>cL0 X src Γ env e hsc c hc he) (λes pos hs he=>evL X src Γ env es pos hsc hs he)) (bW0 hsc h1) (dA0 X body Γ _ hsc h4) (bE6 h2)
  |one i=>
  refine aI (o:=bS q.1) h1 λy hq ht=>?_;refine e0a2 (bR2 hsc ht) λhv hk=>?_;rw[b7 hq];exact cZ4 X.R.frames (cF6 X hsc h3 (λe c hc he=>cL0 X src Γ env e hsc c hc he) (λes pos hs he=>evL X src Γ env es pos hsc hs he)) hv hk (dA0 X body Γ _ hsc h4) (bE6 h2)
 |.wh c body,Γ,st,hsc,h=>by
  refine aI (o:=vWh st) h λq hq h=>?_;refine e1a1 (dE9 hq) λy_ z71=>?_;rw[z71];refine aBB3 h λh0 h1 h2=>?_;rw[dL h0];exact cR7 (fuel:=cZ3) (dA1 X c Γ env _ hsc h1) (dA0 X body Γ _ hsc h2)
 |.ret e,Γ,st,hsc,h=>by
  refine aI (o:=cD4 st) h λq hq h=>?_;refine e1a1 (aZ8 hq) λy_ zz1=>?_;subst zz1;refine aI (o:=q) h λv hv h=>?_;rw[hv];exact dD5 (evE X e Γ env _ hsc h)
 |.rse c msg,Γ,st,hsc,h=>by
  refine aI (o:=vRse st) h λq hq h=>?_;refine e1a1 (cS6 hq) λpos z71=>?_;rw[z71];refine e0a2 (aB h) λh0 h=>?_;refine aI (o:=q.1) h λe he h=>?_;refine aI (o:=cA e) h λt ht h=>?_;refine e2a1 (cK ht) λnp cpos zz1=>?_;subst zz1;rw[he,Option.isNone_iff_eq_none.mp h0];refine aBB5 h λh1 h2 h3 h4 h5=>?_;exact cU0 X hsc h1 h2 h3 h4 (evL X [.cnst (.str msg)] Γ env _ _ hsc h4 h5)
 |.try_ b c ni hh,Γ,st,hsc,h=>by
  refine aI (o:=vTry st) h λq hq h=>?_;refine e1a1 (cS5 hq) λpos z71=>?_;rw[z71];refine aBB3 h λh1 h2 hb=>?_;refine aI (o:=cC1 q.2.1) hb λhd h3 h=>?_;refine aI (o:=cS8 hd) h λt h4 h=>?_;refine aI (o:=bS t.1) h λx hx h=>?_;refine aBB6 h λk1 k2 k3 k4 k5 k6=>?_;refine e2a1 (cD9 h4) λrp hp zz1=>?_;subst zz1;rw[aH6 h3,dL h1,dL h2,b7 hx];exact cT2 X hsc k1 k2 k3 (exQs X b Γ _ hsc k4 k5) (λa=>evE (X.quiet a) hh Γ env _ hsc k6)
 |.cont,Γ,st,hsc,h=>by
  refine e1a1 (cE3 h) λy_ zz1=>?_;subst zz1;exact dD9
 |.pass,Γ,st,hsc,h=>by
  refine e1a1 (cD5 h) λy_ zz1=>?_;subst zz1;exact dD6
theorem dA0(X:Fx W P A (env::fs) n F):∀(cs:List CS) (Γ:Cx) (ss:List Stmt),env.scope=Γ.sc->mSs P Γ cs ss=true->SiS W A fs env Γ.vis (execs ss env) (λr=>exs P.S F cs r)
 |[],Γ,ss,hsc,h=>by
  rw[bW1 h];exact dD7
 |c::cs,Γ,ss,hsc,h=>by
  refine e2a3 (bG3 h) λe es' he h1 h2=>?_;rw[he];exact cM6 (exS X c Γ _ hsc h1) (dA0 X cs Γ _ hsc h2)
end
theorem bB2:∀{ds:List FnD} {j i:Nat} {d:FnD},mFs P j ds=true->ds[i]?=some d->P.can (j+i)=true->mF P (j+i) d=true
 |[],j,i,d,_,h,_=>by simp at h
 |x::ds,j,i,d,hm,h,hk=>by
  have h2:=(aB hm).2;have h1:=(aB hm).1
  cases i with
  |zero=>
   have e:x=d:=by simpa using h
   rw[e]at h1;have h1:(!P.can j||mF P j d)=true:=h1;rw[show P.can j=true from hk]at h1;exact h1
  |succ i=>
   have e:j+(i+1)=j+1+i:=by lia
   rw[e]at hk ⊢;exact bB2 h2 (by simpa using h) hk
set_option tactic.hygienic true in
theorem cW3(hck:mFs P 0 P.S.fns=true)(hn:P.ok=none)(k:Nat)(hk:k < P.S.fns.length):∃o fd,P.K.lookup (P.fa k)=some o /\ o.data=.func fd /\ o.cls=.type "function":=by
 have hm:=bB2 (j:=0) hck (List.getElem?_eq_getElem hk) (by unfold Px.can;rw[hn]);rw[Nat.zero_add]at hm;unfold mF at hm
 split at hm
 ·rename_i o ho
  split at hm
  ·rename_i fd hfd
   split at hm
   ·exact⟨o,fd,ho,hfd,beq_iff_eq.mp (aB (aB hm).1).1⟩
   ·injection hm
  ·injection hm
 ·injection hm
theorem AR.born(R:AR A fs (n+1))(env:Env):AR (Mini.Internal.born (A.deeper env)) (env::fs) n:=by
 have Rd:=R.deeper env;refine⟨Rd.frames,?_,?_⟩
 ·have:=R.depth;show A.depth+1+1+4 * n <= 900;lia
 ·have:=R.units;show A.units+3+1+40 * n+400 <= 9000;lia
set_option tactic.hygienic true in
theorem aS5(gl:Gl W P.K)(hS:W.S=P.S)(hfa:W.fa=P.fa)(hca:W.ca=P.ca)(hck:mFs P 0 P.S.fns=true)(hqk:∀(n:Nat) (A:Around) (fs:List Env),AR A fs n->∀k,P.qok.contains k=true->SiF W A fs (.ref (W.fa k)) (run P.S n k)):
  ∀(n:Nat) (A:Around) (fs:List Env),AR A fs n->(P.loud=true->A.handled=none)->∀k,P.can k=true->SiK W A fs (.ref (W.fa k)) (run P.S n k)
 |0,A,fs,R,hh,k,hok=>λs io m vs us H G hu hne=>absurd rfl hne
 |n+1,A,fs,R,hh,k,hok=>by
  show SiK W A fs (.ref (W.fa k)) (bD5 P.S (run P.S n) k)
  cases hd:P.S.fns[k]? with
  |none=>
   intro s io m vs us H G hu hne;exact absurd (by unfold bD5;rw[hd];rfl) hne
  |some d=>
   have hm:=bB2 (j:=0) hck hd (by rw[Nat.zero_add];exact hok);rw[Nat.zero_add]at hm;unfold mF at hm
   split at hm
   ·rename_i o ho
    split at hm
    ·rename_i fd hfd
     split at hm
     ·rename_i body hb
      simp only[Bool.and_eq_true]at hm;have:=cM2 (W:=W) (fs:=fs) (A:=A) (n:=n) (Fb:=λr=>exs P.S (run P.S n) d.body r) gl R ho hfd hm.1.2 hb
       (λenv hsc=>dA0 (X:=⟨gl,R.deeper env,hS,hfa,hca,hh,λk hk=>(aS5 gl hS hfa hca hck hqk n (A.deeper env) (env::fs) (R.deeper env) hh k hk).f,λhn k hk=>aS5 gl hS hfa hca hck hqk n (born (A.deeper env)) (env::fs) (R.born env) hh k (by unfold Px.can;rw[hn]),λA' R'=>hqk n A' (env::fs) R',cW3 hck⟩) d.body ⟨fd.scope,d.names.map some⟩ body hsc hm.2)
      rw[<- hfa]at this;have eq:bD5 P.S (run P.S n) k=λvs=>if vs.length=d.np then bnd (exs P.S (run P.S n) d.body (vs.map some++List.replicate (d.names.length - d.np) none)) dK8 else bad:=by
       funext vs;unfold bD5;rw[hd]
      rw[eq];exact this
     ·injection hm
    ·injection hm
   ·injection hm
theorem dC6(gl:Gl W P.K)(hS:W.S=P.S)(hfa:W.fa=P.fa)(hca:W.ca=P.ca)(hck:mFs P 0 P.S.fns=true)(hcq:mFs P.quiet 0 P.S.fns=true):
  ∀(n:Nat) (A:Around) (fs:List Env),AR A fs n->(P.loud=true->A.handled=none)->∀k,P.can k=true->SiF W A fs (.ref (W.fa k)) (run P.S n k):=
 λn A fs R hh k hk=>(aS5 gl hS hfa hca hck (λn A fs R k hk=>(aS5 (P:=P.quiet) gl hS hfa hca hcq (λy_ y_ y_ y_ y_ h=>by injection h) n A fs R (λh=>by injection h) k hk).f) n A fs R hh k hk).f
end
end Mini.Internal
variable{c x:Bool}{fs:List (Nat×V)}{e:CE}{p:Nat}{P:Prop}
namespace Mini.Internal
open PySem
noncomputable def Wp{α:Type}(x:Mn α)(m:MH)(Q:α->MH->Prop)(E:Nat->MH->Prop):Prop:=match x m with
 |.ok a m'=>Q a m'
 |.exc c m'=>E c m'
 |.bad=>False
noncomputable abbrev nox:Nat->MH->Prop:=λy_ y_=>False
noncomputable abbrev bJ4(Q:V->MH->Prop):Fl×Lo->MH->Prop:=λp m'=>match p.1 with | .ret v=>Q v m' | .next=>Q .none m' | .cont=>False
noncomputable abbrev aZ5{α:Sort _}(Q:Fl×Lo->MH->Prop)(I:α->Lo->MH->Prop)(xs:α):Fl×Lo->MH->Prop:=λp m'=>match p.1 with | .ret v=>Q (.ret v,p.2) m' | _=>I xs p.2 m'
section
variable{Q:α->MH->Prop}
theorem aG{x:Mn α}{a:α}(h:x m=.ok a m')(q:Q a m'):Wp x m Q E:=by unfold Wp;rw[h];exact q
theorem dE0{x:Mn α}{c:Nat}(h:x m=.exc c m')(q:E c m'):Wp x m Q E:=by unfold Wp;rw[h];exact q
theorem aJ{x:Mn β}{f:β->Mn α}(h:Wp x m (λa m'=>Wp (f a) m' Q E) E):Wp (bnd x f) m Q E:=by
 unfold Wp bnd at *
 cases q:x m with
 |ok a m1=>rw[q]at h;exact h
 |exc c m1=>rw[q]at h;exact h
 |bad=>rw[q]at h;exact h
theorem wp_mono{x:Mn α}{Q':α->MH->Prop}{E':Nat->MH->Prop}(h:Wp x m Q' E')(k:∀a m',Q' a m'->Q a m')(l:∀c m',E' c m'->E c m'):Wp x m Q E:=by
 unfold Wp at *
 cases q:x m with
 |ok a m1=>rw[q]at h;exact k _ _ h
 |exc c m1=>rw[q]at h;exact l _ _ h
 |bad=>rw[q]at h;exact h
theorem bF{x:Mn α}{Q':α->MH->Prop}(h:Wp x m Q' nox)(k:∀a m',Q' a m'->Q a m'):Wp x m Q E:=wp_mono h k λy_ y_ q=>q.elim
theorem fU{x:Mn α}(h:Wp x m Q nox):∃a m',x m=.ok a m' /\ Q a m':=by
 unfold Wp at h
 cases q:x m with
 |ok a m1=>rw[q]at h;exact⟨a,m1,rfl,h⟩
 |exc c m1=>rw[q]at h;exact h.elim
 |bad=>rw[q]at h;exact h.elim
end
noncomputable def Le(m m':MH):Prop:=m.length <= m'.length /\ ∀p,p < m.length->m'[p]?=m[p]?
theorem Le.refl(m:MH):Le m m:=⟨Nat.le_refl _,λy_ y_=>rfl⟩
theorem Le.trans{a b c:MH}(h:Le a b)(k:Le b c):Le a c:=⟨Nat.le_trans h.1 k.1,λp q=>(k.2 p (Nat.lt_of_lt_of_le q h.1)).trans (h.2 p q)⟩
theorem Le.app(m e:MH):Le m (m++e):=⟨by simp,λp q=>List.getElem?_append_left q⟩
theorem aS(k:m[p]?=some o):p < m.length:=by
 rcases Nat.lt_or_ge p m.length with q | q
 ·exact q
 ·rw[List.getElem?_eq_none q]at k;injection k
theorem Le.has(h:Le m m'){p:Nat}{o:MObj}(k:m[p]?=some o):m'[p]?=some o:=by
 rw[h.2 p (aS k),k]
theorem Le.set(h:Le m m'){p:Nat}(hp:m.length <= p)(o:MObj):Le m (m'.set p o):=
 ⟨by rw[List.length_set];exact h.1,λq hq=>by rw[List.getElem?_set_ne (by lia)];exact h.2 q hq⟩
theorem aZ{o':MObj}(k:m[p]?=some o):(m.set p o')[p]?=some o':=by
 rw[List.getElem?_set_self (aS k)]
theorem aQ{o':MObj}(hn:p≠q)(k:m[q]?=some o):(m.set p o')[q]?=some o:=by
 rw[List.getElem?_set_ne hn];exact k
theorem bW:(m++[o])[m.length]?=some o:=by simp
theorem aK(h:∀p m',Le m m'->m'[p]?=some o->m.length <= p->Q (.ref p) m'):Wp (alloc o) m Q E:=h m.length (m++[o]) (.app _ _) bW (Nat.le_refl _)
theorem aC{x:Mn α}{a:α}{Q:α->MH->Prop}(h:x m=.ok a m')(q:Q a m'):Wp x m Q E:=aG h q
theorem bU8(h:Wp (ev S F a r) m (λx m'=>Wp (ev S F b r) m' (λy m'=>Wp (cA8 op x y) m' Q E) E) E):Wp (ev S F (.bin op a b) r) m Q E:=
 aJ (x:=ev S F a r) (wp_mono h (λy_ y_ q=>aJ (x:=ev S F b r) q) λy_ y_ q=>q)
theorem dY{as:List CE}(h:Wp (evs S F as r) m (λvs m'=>Wp (F k vs) m' Q E) E):Wp (ev S F (.call k as) r) m Q E:=aJ (x:=evs S F as r) h
theorem aF3{b:Bi}{as:List CE}(h:Wp (evs S F as r) m (λvs m'=>Wp (biV b vs) m' Q E) E):Wp (ev S F (.bi b as) r) m Q E:=aJ (x:=evs S F as r) h
theorem aV4{i:CE}(h:Wp (ev S F a r) m (λx m'=>Wp (ev S F i r) m' (λy m'=>Wp (aO6 x y) m' Q E) E) E):Wp (ev S F (.idx a i) r) m Q E:=
 aJ (x:=ev S F a r) (wp_mono h (λy_ y_ q=>aJ (x:=ev S F i r) q) λy_ y_ q=>q)
theorem aN9{as:List CE}(h:Wp (evs S F as r) m (λvs m'=>Q (.tup vs) m') E):Wp (ev S F (.tup as) r) m Q E:=aJ (x:=evs S F as r) h
theorem aY{as:List CE}(h:Wp (evs S F as r) m (λvs m'=>Wp (alloc (.list vs)) m' Q E) E):Wp (ev S F (.list as) r) m Q E:=aJ (x:=evs S F as r) h
theorem eU{op:CmpOp}(h:Wp (ev S F a r) m (λx m'=>Wp (ev S F b r) m' (λy m'=>Wp (aF0 op x y) m' (λc m'=>Q (.bool c) m') E) E) E):Wp (ev S F (.cmp a [op] [b]) r) m Q E:=
 aJ (x:=ev S F a r) (wp_mono h (λx y_ q=>aJ (x:=ev S F b r) (wp_mono q (λy y_ q=>aJ (x:=aF0 op x y) q) λy_ y_ q=>q)) λy_ y_ q=>q)
theorem bV{o:CE}{n:Sm}{as:List CE}(h:Wp (ev S F o r) m (λx m'=>∃k,smK x m'=some k /\ smH k n=true /\ Wp (evs S F as r) m' (λvs m'=>Wp (cU k x n vs) m' Q E) E) E):Wp (ev S F (.smeth o n as) r) m Q E:=by
 refine aJ (x:=ev S F o r) (wp_mono h (λx m' q=>?_) λy_ y_ q=>q);refine e1a3 q λk hk hs q=>?_;have q2:=aJ (x:=evs S F as r) q;unfold Wp at q2 ⊢;dsimp only;rw[hk];dsimp only;rw[if_pos hs];exact q2
theorem aH{Q:List V->MH->Prop}(h:Q [] m):Wp (evs S F [] r) m Q E:=h
theorem aE{as:List CE}{Q:List V->MH->Prop}(h:Wp (ev S F a r) m (λv m'=>Wp (evs S F as r) m' (λvs m'=>Q (v::vs) m') E) E):Wp (evs S F (a::as) r) m Q E:=
 aJ (x:=ev S F a r) (wp_mono h (λv y_ q=>aJ (x:=evs S F as r) q) λy_ y_ q=>q)
theorem dN1{as:List CE}(h:Wp (ev S F a r) m (λx m'=>Wp (eY x) m' (λt m'=>bif t == c then Wp (ev S F (.boolop c (b::as)) r) m' Q E else Q x m') E) E):Wp (ev S F (.boolop c (a::b::as)) r) m Q E:=by
 refine aJ (x:=ev S F a r) (wp_mono h (λx m' q=>aJ (x:=eY x) (wp_mono q (λt m' q=>?_) λy_ y_ q=>q)) λy_ y_ q=>q)
 cases e:t == c with
 |true=>rw[e]at q;exact q
 |false=>rw[e]at q;exact q
theorem dC5(h:Wp (ev S F a r) m Q E):Wp (ev S F (.boolop c [a]) r) m Q E:=h
section
variable{Q:Bool->MH->Prop}
theorem eF(h:Wp (ev S F e r) m (λv m'=>Wp (eY v) m' Q E) E):Wp (evT S F (.val e) r) m Q E:=aJ (x:=ev S F e r) h
theorem cN6{e:CB}(h:Wp (evT S F e r) m (λb m'=>Q (!b) m') E):Wp (evT S F (.not e) r) m Q E:=aJ (x:=evT S F e r) h
theorem aE7(h:Wp (bH6 S F c bs r) m Q E):Wp (evT S F (.all c bs) r) m Q E:=h
theorem bH{a:CB}{as:List CB}(h:Wp (evT S F a r) m (λb m'=>bif b == c then Wp (bH6 S F c as r) m' Q E else Q b m') E):Wp (bH6 S F c (a::as) r) m Q E:=by
 refine aJ (x:=evT S F a r) (wp_mono h (λt m' q=>?_) λy_ y_ q=>q)
 cases e:t == c with
 |true=>rw[e]at q;exact q
 |false=>rw[e]at q;exact q
end
section
variable{Q:Fl×Lo->MH->Prop}
theorem eS{s:CS}(h:Wp (ex S F s r) m (λp m'=>match p.1 with | .next=>Wp (exs S F ss p.2) m' Q E | f=>Q (f,p.2) m') E):Wp (exs S F (s::ss) r) m Q E:=by
 refine aJ (x:=ex S F s r) (wp_mono h (λp m' q=>?_) λy_ y_ q=>q);obtain⟨f,r'⟩:=p
 cases (f) <;> exact q
theorem bC(h:Wp (ev S F e r) m (λv m'=>Wp (exs S F ss (r.set i (some v))) m' Q E) E):Wp (exs S F (.asg (.one (.one i)) e::ss) r) m Q E:=
 eS (aJ (x:=ev S F e r) h)
theorem eC(h:Wp (ev S F e r) m (λv m'=>Wp (exs S F ss r) m' Q E) E):Wp (exs S F (.exp e::ss) r) m Q E:=eS (aJ (x:=ev S F e r) h)
theorem a9(h:Wp (ev S F e r) m (λv m'=>Q (.ret v,r) m') E):Wp (exs S F (.ret e::ss) r) m Q E:=eS (aJ (x:=ev S F e r) h)
theorem cS(h:Q (.next,r) m):Wp (exs S F [] r) m Q E:=h
theorem s_rse{c:Nat}{t:Str}(h:E c m):Wp (exs S F (.rse c t::ss) r) m Q E:=eS (dE0 rfl h)
theorem bD0:∀(a b:List CS) (r:Lo) (m:MH),Wp (exs S F (a++b) r) m Q E->Wp (exs S F a r) m (λp m'=>match p.1 with | .next=>Wp (exs S F b p.2) m' Q E | f=>Q (f,p.2) m') E
 |[],b,r,m,h=>h
 |s::a,b,r,m,h=>by
  unfold Wp at h;refine eS ?_;have e:exs S F (s::a++b) r m=(ex S F s r m).bind (λp=>match p.1 with | .next=>exs S F (a++b) p.2 | f=>ret (f,p.2)):=rfl;rw[e]at h;unfold Wp
  cases q:ex S F s r m with
  |ok p m1=>
   rw[q]at h;obtain⟨f,r1⟩:=p
   cases f with
   |next=>exact bD0 a b r1 m1 h
   |cont=>exact h
   |ret v=>exact h
  |exc c m1=>rw[q]at h;exact h
  |bad=>rw[q]at h;exact h
theorem aA9{c:CB}{a b:List CS}(h:Wp (evT S F c r) m (λt m'=>Wp (exs S F ((bif t then a else b)++ss) r) m' Q E) E):Wp (exs S F (.ite c a b::ss) r) m Q E:=by
 refine eS (aJ (x:=evT S F c r) (wp_mono h (λt m' q=>?_) λy_ y_ q=>q))
 cases (t)
 ·exact bD0 _ _ _ _ q
 ·exact bD0 _ _ _ _ q
theorem s_try{c:Nat}{nm:Option Nat}{hd:CE}(h:Wp (exs S F body r) m (λp m'=>match p.1 with | .next=>Wp (exs S F ss p.2) m' Q E | f=>Q (f,p.2) m')
  (λd m'=>((S.cls[d]?).any λk=>k.supers.contains c)=true /\ Wp (ev S F hd (exR nm d r)) m' (λv m'=>Q (.ret v,exN nm r) m') nox)):Wp (exs S F (.try_ body c nm hd::ss) r) m Q E:=by
 refine eS ?_;have key:ex S F (.try_ body c nm hd) r m=bQ7 S (exs S F body r) c nm (λr'=>ev S F hd r') r m:=rfl;unfold Wp at h ⊢;rw[key];unfold bQ7
 cases q:exs S F body r m with
 |ok p m1=>rw[q]at h;exact h
 |bad=>rw[q]at h;exact h
 |exc d m1=>
  rw[q]at h;refine e0a2 h λh1 h2=>?_;refine e2a2 (fU h2) λv m2 e2 q2=>?_;have e3:dF4 S c nm (λr'=>ev S F hd r') r d m1=.ok (.ret v,exN nm r) m2:=by unfold dF4;rw[if_pos h1];dsimp only;rw[e2];rfl
  dsimp only;rw[e3];exact q2
end
theorem dQ{Q:Prop}(h:P):bif true then P else Q:=h
theorem fM{Q:Prop}(h:Q):bif false then P else Q:=h
theorem bF2{c:CE}{o o':CmpOp}{x y z:V}{t u:Bool}(ha:ev S F a r m=.ok x m)(hb:ev S F b r m=.ok y m)(hc:ev S F c r m=.ok z m)(h1:aF0 o x y m=.ok t m)(h2:aF0 o' y z m=.ok u m):ev S F (.cmp a [o,o'] [b,c]) r m=.ok (.bool (t&&u)) m:=by
 show Res.bind (ev S F a r m) _=_;rw[ha];show Res.bind (ev S F b r m) _=_;rw[hb];show Res.bind (aF0 o x y m) _=_;rw[h1]
 cases t with
 |false=>rfl
 |true=>
  show Res.bind (ev S F c r m) _=_;rw[hc];show Res.bind (aF0 o' y z m) _=_;rw[h2];rfl
theorem cG2{as:List CE}(ha:ev S F a r m=.ok (.bool x) m)(hb:ev S F (.boolop true (b::as)) r m=.ok (.bool y) m):ev S F (.boolop true (a::b::as)) r m=.ok (.bool (x&&y)) m:=by
 show Res.bind (ev S F a r m) _=_;rw[ha]
 cases x with
 |false=>rfl
 |true=>exact hb
theorem aT{b:Bool}(h:ev S F e r m=.ok (.bool b) m):evT S F (.val e) r m=.ok b m:=by
 show Res.bind (ev S F e r m) _=_;rw[h];rfl
theorem cO{e:CB}{b:Bool}(h:evT S F e r m=.ok b m):evT S F (.not e) r m=.ok (!b) m:=by
 show Res.bind (evT S F e r m) _=_;rw[h];rfl
theorem bE{a:CB}{as:List CB}(ha:evT S F a r m=.ok x m)(hb:bH6 S F false as r m=.ok y m):bH6 S F false (a::as) r m=.ok (x||y) m:=by
 show Res.bind (evT S F a r m) _=_;rw[ha]
 cases x with
 |true=>rfl
 |false=>exact hb
theorem aN7{a:CB}{as:List CB}(ha:evT S F a r m=.ok x m)(hb:bH6 S F true as r m=.ok y m):bH6 S F true (a::as) r m=.ok (x&&y) m:=by
 show Res.bind (evT S F a r m) _=_;rw[ha]
 cases x with
 |false=>rfl
 |true=>exact hb
noncomputable def cJ(S:Sig)(k np nl:Nat)(b:List CS):Prop:=∃d,S.fns[k]?=some d /\ d.np=np /\ d.names.length=nl /\ d.body=b
theorem bT1{nl:Nat}{b:List CS}(h:cJ S k np nl b)(hv:vs.length=np):run S (n+1) k vs=bnd (exs S (run S n) b (vs.map some++List.replicate (nl - np) Option.none)) dK8:=by
 refine e1a4 h λd h1 h2 h3 h4=>?_;show bD5 S (run S n) k vs=_;unfold bD5;rw[h1];dsimp only;rw[if_pos (hv.trans h2.symm),h2,h3,h4]
theorem bL{nl:Nat}{b:List CS}(h:cJ S k np nl b)(hv:vs.length=np)(hb:Wp (exs S (run S n) b (vs.map some++List.replicate (nl - np) Option.none)) m (bJ4 Q) E):Wp (run S (n+1) k vs) m Q E:=by
 rw[bT1 h hv];refine aJ (wp_mono hb (λp m' q=>?_) λy_ y_ q=>q);obtain⟨f,r⟩:=p
 cases (f) <;> exact q
theorem aB5{d:FnD}(h:S.fns[k]?=some d)(hv:vs.length=d.np)(hb:Wp (exs S (run S n) d.body (vs.map some++List.replicate (d.names.length - d.np) Option.none)) m (bJ4 Q) E):Wp (run S (n+1) k vs) m Q E:=
 bL ⟨d,h,rfl,rfl,rfl⟩ hv hb
end Mini.Internal
variable{b x i:Int}{e:Nat}{y:V}
namespace Mini.Internal
open PySem PySem.W PyProof.Rows
noncomputable def goT(ok:Thread->Bool)(st:SharedT->Thread->Option (SharedT×Thread)):Nat->SharedT->Thread->Option SharedT
 |0,_,_=>none
 |n+1,s,t=>match through t with
  |true=>some s
  |false=>match ok t with
   |false=>none
   |true=>match st s t with
    |some (s',t')=>goT ok st n s' t'
    |none=>none
theorem cP2{tb:String->Option Builtin}{p:Program}{n₀:Nat}{ann:Option Value}:∀{n:Nat} {s s':SharedT} {t:Thread},goT (stepOk n₀ ann) (stepT (denote tb) p w) n s t=some s'->topRun tb p w n₀ ann n s.abs t=some s'.abs
 |0,_,_,_,h=>by injection h
 |n+1,s,s',t,h=>by
  unfold goT at h;unfold topRun
  cases he:through t with
  |true=>rw[he]at h;(refine aF h λz1=>?_;clear h;subst z1);rfl
  |false=>
   rw[he]at h
   cases hk:stepOk n₀ ann t with
   |false=>rw[hk]at h;injection h
   |true=>
    rw[hk]at h
    cases hs:stepT (denote tb) p w s t with
    |none=>rw[hs]at h;injection h
    |some r=>obtain⟨s₂,t₂⟩:=r;rw[hs]at h;rw[stepT_spec hs];exact cP2 h
noncomputable def dI7(P:Params):Nat->List (Params->Obj)->BT->BT
 |_,[],t=>t
 |n,o::r,t=>dI7 P (n+1) r (t.ins n (o P))
noncomputable def boots:List (Params->Obj):=[boot_o_0,boot_o_1,boot_o_2,boot_o_3,boot_o_4,boot_o_5,boot_o_6,boot_o_7,boot_o_8,boot_o_9,boot_o_10]
noncomputable def dM4(P:Params)(os:OsState):SharedT:=⟨dI7 P 0 boots .nil,11,(boot_heap P).life,Array.mk [],boot_drawn,boot_toks,os⟩
theorem cA6:∀(P:Params) (os:OsState),(dM4 P os).abs=⟨boot_heap P,Array.mk [],boot_drawn,boot_toks,os⟩:=by intro P os;kernel_rfl
theorem cA5:∀w:World,((boot_heap w.params).isNs mainGlobals&&(Array.mk ([]:List GenState)).size == 0,(boot_heap w.params).objs.size,(boot_heap w.params).nsMap mainGlobals "__annotations__")=(true,11,some (.ref 6)):=by intro w;kernel_rfl
noncomputable def cN4(p:Program)(N:Nat)(w:World)(os:OsState):Option SharedT:=
 goT (Fast.tw6613529449190102663 11 (some (.ref 6))) (Fast.tw10156331382660048174 (Fast.tw11892475500146522536 Fast.tw14364793385576792824) p w) N (dM4 w.params os) (topStub p)
theorem cT9{p:Program}{N:Nat}{os:OsState}{s:SharedT}(h:cN4 p N w os=some s):topRun treeTable p w 11 (some (.ref 6)) N ⟨boot_heap w.params,Array.mk [],boot_drawn,boot_toks,os⟩ (topStub p)=some s.abs:=by
 rw[<- cA6];refine cP2 ?_;rw[Fast.te6613529449190102663,Fast.te10156331382660048174,Fast.te11892475500146522536,Fast.te14364793385576792824];exact h
noncomputable def xtOf(q:Program)(R:WRecords)(s:Shared):Bool:=xlAt q [] s&&recOk R s
noncomputable def bG5(p q:Program)(R:WRecords)(chk:Heap->Bool)(w:World)(s:Shared):=
  (staticsOk (importedModules p.main.body) (boot_heap w.params) s.heap&&namesBound p s.heap&&gensDone s&&laidKept (boot_heap w.params) s.heap,
   Fast.tw4187177175401517315 q [] (importedModules p.main.body) (xtOf q R) true s,chk s.heap)
theorem cX5{p q:Program}{R:WRecords}{chk:Heap->Bool}{N:Nat}(e:opening p=plainProg p.main.scope.names)(hN:Nat.ble 600 N=true)(f:∀s,fenceModules? p s=some s)(h:∀w os,(cN4 p N w os).map (λs=>bG5 p q R chk w s.abs)=some (true,openGood q [],true)):LeftO p q [] (xtOf q R) (λs=>chk s.heap) (λy=>true) N:=λw=>by
 obtain⟨⟨hp,gs,d,k,os⟩,eo,e'⟩:=Option.map_eq_some_iff.mp (boot_open e hN f w);obtain⟨rfl,rfl,rfl,rfl⟩:hp=boot_heap w.params /\ gs=Array.mk [] /\ d=boot_drawn /\ k=boot_toks:=by simpa using e'
 obtain⟨z1,z2,z3⟩:_ /\ _ /\ _:=by simpa only[Prod.mk.injEq]using cA5 w
 refine e1a2 (Option.map_eq_some_iff.mp (h w os)) λs hr hl=>?_;have r:=cT9 hr;unfold bG5 at hl;obtain⟨l1,l2,l3⟩:_ /\ _ /\ _:=by simpa only[Prod.mk.injEq]using hl
 have t:topFrom treeTable p w N ⟨boot_heap w.params,Array.mk [],boot_drawn,boot_toks,os⟩=some s.abs:=by
  unfold topFrom;rw[z1,z2,z3,r];show(match staticsOk (importedModules p.main.body) (boot_heap w.params) s.abs.heap&&namesBound p s.abs.heap&&gensDone s.abs&&laidKept (boot_heap w.params) s.abs.heap with | true=>_ | false=>_)=_;rw[l1]
 rw[<- Fast.te4187177175401517315]at l2;unfold openEnds;rw[eo];show(topFrom treeTable p w N _).map _=_;rw[t];exact congrArg some (Prod.ext l2 l3)
noncomputable def aK1(as:List Addr)(h:Heap):Frag:=as.filterMap λa=>(h.get? a).map λo=>(a,o)
set_option tactic.hygienic true in
theorem aK0(h:Heap):∀as:List Addr,(aK1 as h).In h
 |[],a,o,e=>by injection e
 |b::as,a,o,e=>by
  unfold aK1 at e
  cases q:h.get? b with
  |none=>
   rw[List.filterMap_cons_none (by rw[q];rfl)]at e;exact aK0 h as a o e
  |some o'=>
   rw[List.filterMap_cons_some (b:=(b,o')) (by rw[q];rfl),List.lookup_cons]at e
   split at e
   ·rename_i hb
    (refine aF e λz1=>?_;clear e;subst z1)
    rw[beq_iff_eq.mp hb];exact q
   ·exact aK0 h as a o e
noncomputable def Has(chk:Frag->Bool)(_:World)(h:Heap):Prop:=∃K:Frag,K.In h /\ chk K=true
theorem cG9{l:OpenLaw}{keep:List Nat}{as:List Addr}{chk:Frag->Bool}{N:Nat}{d:DefRec}{kwd:List (Str×Expr)}(k0:l.wellSaid=true)(e:opening l.prog=plainProg l.prog.main.scope.names)(hN:Nat.ble 600 N=true)(f:∀s,fenceModules? l.prog s=some s)(h:∀w os,(cN4 l.prog N w os).map (λs=>bG5 l.prog (view l.prog keep) l.row.records (λh=>chk (aK1 as h)) w s.abs)=some (true,openGood (view l.prog keep) [],true))(hdef:defOf (view l.prog keep) l.row.name=some (d,kwd))(hp:l.row.prog.theDef l.row.name=some (d.params,d.body,d.scope))(hk:kwWritten? d.params.kwonlyargs d.params.kw_defaults=some kwd)(hwr:(!l.row.writes||l.row.records.isEmpty)=true)(ok:(chainsOk (view l.prog keep)&&opensWell l.row.prog&&(frees l.row.toRowW&&l.row.within.isEmpty))=true)(hb:l.row.prog.bare)(hw:l.row.toRowW.promised)(call:WalkO (view l.prog keep) [] (XL (view l.prog keep) []) (Has chk) l.row.toRowW d kwd λf vs=>PySem.call f vs):l.Holds:=
 holds_law k0 λsaid=>holds_open (q:=view l.prog keep) (loose:=[]) (Xt:=xtOf (view l.prog keep) l.row.records) (XP:=XL (view l.prog keep) []) (cX5 e hN f h)
  (λw s e=>⟨aK1 as s.heap,aK0 _ as,e⟩) (λw h h' ⟨K,k1,k2⟩ k=>⟨K,k1.keeps k,k2⟩) (λs e=>xl_of s (Bool.and_eq_true_iff.mp e).1) XL.keeps hdef hp hk (λs e=>recFacts_of (Bool.and_eq_true_iff.mp e).2) hwr said ok hb hw call
noncomputable def gaOf(K:Frag)(x:Str):Addr:=match nsIn K mainGlobals x with | some (some (.ref a))=>a | _=>0
noncomputable def bA8(S:Sig)(k:Nat):Option ClsD:=S.cls.find? λd=>d.init == some k||d.meths.any λq=>q.2 == k
noncomputable def naOf(K:Frag)(C:Addr)(x:Str):Addr:=match bF4 K C with
 |some N=>(match nsIn K N x with | some (some (.ref a))=>a | _=>0)
 |none=>0
noncomputable def faOf(K:Frag)(S:Sig)(k:Nat):Addr:=match S.fns[k]? with
 |some d=>(match bA8 S k with | some D=>naOf K (gaOf K D.name) d.name | none=>gaOf K d.name)
 |none=>0
noncomputable def caOf(K:Frag)(S:Sig)(k:Nat):Addr:=match S.cls[k]? with
 |some d=>gaOf K d.name
 |none=>0
noncomputable def cU7(S:Sig)(qok:List Nat)(K:Frag):Px:=⟨K,S,faOf K S,caOf K S,true,none,qok⟩
noncomputable def dB7(S:Sig)(qok:List Nat)(k:Nat)(K:Frag):Bool:=mFs (cU7 S qok K) 0 S.fns&&mFs (cU7 S qok K).quiet 0 S.fns&&(bA8 S k).isNone&&(match S.fns[k]? with | some d=>(match nsIn K mainGlobals d.name with | some (some (.ref _))=>true | _=>false) | none=>false)
theorem cJ6{vs:List Value}(h:IntsAre vs ns):IntsR ns vs:=by
 induction h with
 |nil=>exact .nil
 |cons n t h ih=>exact .cons n t ih
set_option tactic.hygienic true in
theorem glue{K:Frag}{qok:List Nat}{mg mb:Str->Option Value}{loose:List Str}{view:Program}{mean:ExcName->Option Value}{claim:ClaimW}{cl:Str->Option Addr}{args:List WData}{fa:Addr}{vals:List Value}{d:FnD}(T:Top view loose mean mg mb s₁.heap)(hsee:importsNone view=true)(KX:K.In s₁.heap)(hg:s₁.gens=#[])(hck:dB7 S qok k K=true)(hd:S.fns[k]?=some d)(hm:mg d.name=some (.ref fa))(hL:s₁.heap.IsList l vals.toArray)(hI:IntsAre vals ns)(hlen:ns.length <= 63)(hn:n <= 100)(hrun:Wp (run S n k [.scr ns]) [] (λv y_=>v=.bool true) nox)(hr:∀cls,claim.raises args cls=false)(hp:claim.post args (.bool true) args=true):
    wpAny (model prog w) callerA (call (.ref fa) [.ref l]) (λv s'=>GoodWG claim cl mean args s₁ (.ok (.ret v)) s') (λe s'=>GoodWG claim cl mean args s₁ (.error e) s') s₁:=by
  refine e0a2 (Bool.and_eq_true_iff.mp hck) λhck hc3=>?_;refine e0a2 (Bool.and_eq_true_iff.mp hck) λhck hc4=>?_;refine e0a2 (Bool.and_eq_true_iff.mp hck) λhc1 hc2=>?_;have hf:fa=faOf K S k:=by
    unfold faOf;rw[Option.isNone_iff_eq_none.mp hc4];unfold gaOf;rw[hd]at hc3 ⊢;dsimp only at hc3 ⊢
    split at hc3
    · rename_i a e
      have:=mg_of KX T.g e;rw[hm]at this
      (refine aF this λz1=>?_;clear this;(first | (injection z1;done) | subst z1 | cases (z1)))
    · injection hc3
  let W:Wd:=⟨prog,w,S,faOf K S,caOf K S,s₁.heap⟩
  have gl:Gl W K:=⟨⟨by obtain⟨mm,⟨o,y_,y_,e,y_⟩,y_⟩:=(T.seer hsee).mods;exact⟨o,e⟩,T.nolimit⟩,KX,mg,mb,T.g,T.b,T.builtins,_,_,topRead_of T⟩
  have R:AR callerA [] n:=⟨rfl,by show 1+claimMargin+4 * n <= 900;have:claimMargin <= 400:=(by decide +kernel);lia,by show 4+40 * n+400 <= 9000;lia⟩
  refine e2a2 (fU hrun) λv m' e z71=>?_;subst z71;have H:HR W s₁.heap [] []:=⟨λy_ y_ e=>e,rfl,λn p o h=>by simp at h,λb ⟨p,hp,_⟩=>(nomatch hp),λi j p q y_ h=>by simp at h⟩
  obtain⟨o,ho,hc,N,hd⟩:=hL;have hv:VRs W s₁.heap [] [.scr ns] [.ref l]:=.cons (.scr ho hc hd (by simpa using cJ6 hI) (by unfold lid;lia)) .nil;have key:=dC6 (W:=W) (P:=cU7 S qok K) gl rfl rfl rfl hc1 hc2 n callerA [] R (λy=>rfl) k rfl s₁ [] [] [.scr ns] [.ref l] H (λy_ q=>nomatch q) hv (by show run S n k [.scr ns] []≠_;rw[e];intro q;injection q);rw[hf];refine wpAny_mono key (λu s' q=>?_) λx s' q=>?_
  · obtain⟨v,m2,io',e2,st,H2,kv,sm⟩:=q
    have e2:run S n k [.scr ns] []=.ok v m2:=e2;rw[e]at e2
    (refine aL5 e2 λz1 z2=>?_;clear e2;subst z1;rw[z2])
    subst kv;exact GoodW.toG ⟨.inl ⟨_,_,[],rfl,hr,.bool true,hp,λy_=>⟨List.nodup_nil,λy_ q=>nomatch q⟩⟩,H2.keep,sm.2,sm.1.trans hg⟩
  · obtain⟨c,m2,io',a,g,e2,y_⟩:=q
    have e2:run S n k [.scr ns] []=.exc c m2:=e2;rw[e]at e2;injection e2
noncomputable def chkA(S:Sig)(qok:List Nat)(n:Nat)(K:Frag):Bool:=mFs (cU7 S qok K) 0 (S.fns.take n)
noncomputable def chkB(S:Sig)(qok:List Nat)(n k:Nat)(K:Frag):Bool:=mFs (cU7 S qok K) n (S.fns.drop n)&&mFs (cU7 S qok K).quiet 0 S.fns&&(bA8 S k).isNone&&(match S.fns[k]? with | some d=>(match nsIn K mainGlobals d.name with | some (some (.ref _))=>true | _=>false) | none=>false)
theorem bW2{P:Px}:∀{xs ys:List FnD} {k:Nat},mFs P k xs=true->mFs P (k+xs.length) ys=true->mFs P k (xs++ys)=true
 |[],_,_,_,h=>h
 |x::xs,ys,k,h,h'=>by
  have h:((!P.can k||mF P k x)&&mFs P (k+1) xs)=true:=h;have h2:=Bool.and_eq_true_iff.mp h;show((!P.can k||mF P k x)&&mFs P (k+1) (xs++ys))=true;rw[h2.1,bW2 (k:=k+1) h2.2 (by rw[Nat.add_right_comm];exact h')];rfl
theorem dM1{qok:List Nat}{K:Frag}(h:(chkA S qok n K&&chkB S qok n k K)=true)(hn:(S.fns.take n).length=n):dB7 S qok k K=true:=by
 refine e0a2 (Bool.and_eq_true_iff.mp h) λh1 h2=>?_;have h1:mFs (cU7 S qok K) 0 (S.fns.take n)=true:=h1;unfold chkB at h2;refine e0a2 (Bool.and_eq_true_iff.mp h2) λh2 h5=>?_;refine e0a2 (Bool.and_eq_true_iff.mp h2) λh2 h4=>?_;refine e0a2 (Bool.and_eq_true_iff.mp h2) λh2 h3=>?_;have e:=bW2 (ys:=S.fns.drop n) h1 (by rw[hn,Nat.zero_add];exact h2);rw[List.take_append_drop]at e;unfold dB7;rw[e,h3,h4,h5];rfl
theorem cG1{x:Option α}{f:α->Bool}{g:α->β}{c1 c2:α->Bool}{G:β}(ha:x.map f=some true)(hb:x.map g=some G)(h1:x.map c1=some true)(h2:x.map c2=some true){k:α->Bool×β×Bool}(hk:∀s,k s=(f s,g s,c1 s&&c2 s)):x.map k=some (true,G,true):=by
 cases x with
 |none=>injection ha
 |some s=>
  have a:f s=true:=Option.some.inj ha;have b:g s=G:=Option.some.inj hb;have c:c1 s=true:=Option.some.inj h1;have d:c2 s=true:=Option.some.inj h2;show some (k s)=_;rw[hk,a,b,c,d];rfl
end Mini.Internal
variable{n:Int}{l:List Nat}
namespace Mini.Internal
open PySem
section
variable{v:V}
theorem aL9(h:m[p]?=some (.list xs)):smK (.ref p) m=some 0:=by unfold smK;dsimp only;rw[h]
theorem dE6{k:Int}(h:m[p]?=some (.list xs))(hv:at_ xs k=some v)(hk:k.natAbs < 2 ^ 60)(q:Q v m):Wp (aO6 (.ref p) (.int k)) m Q E:=by
 refine aG (m':=m) ?_ q;unfold aO6;dsimp only;rw[h];dsimp only;rw[if_pos hk,hv];rfl
theorem bO1(h:m[p]?=some (.list xs))(h':m[q]?=some (.list ys))(hl:xs.length+ys.length <= lid)(k:∀p m',Le m m'->m'[p]?=some (.list (xs++ys))->m.length <= p->Q (.ref p) m'):Wp (cA8 .Add (.ref p) (.ref q)) m Q E:=by
 refine aG (a:=.ref m.length) (m':=m++[.list (xs++ys)]) ?_ (k _ _ (.app _ _) bW (Nat.le_refl _));show(match m[p]?,m[q]? with | some (.list x),some (.list y)=>if x.length+y.length <= lid then alloc (.list (x++y)) m else .bad | _,_=>.bad)=_;rw[h,h'];show(if xs.length+ys.length <= lid then alloc (.list (xs++ys)) m else .bad)=_;rw[if_pos hl];rfl
theorem dE{n:Nat}(h:m[n]?=some (.list xs)):(Gd.list n xs).stays m=true:=by
 show(match m[n]? with | some (.list ys)=>V.sames xs ys | _=>false)=true;rw[h];exact fQ xs
theorem fA{Q:List V×Gd->MH->Prop}(h:m[p]?=some (.list xs))(k:Q (xs,.list p xs) m):Wp (aD4 .expr [.ref p]) m Q E:=by
 refine aG (m':=m) ?_ k;unfold aD4 eW;dsimp only;rw[h]
end
theorem aZ6{step:V->Lo->Mn (Fl×Lo)}{Q:Fl×Lo->MH->Prop}(I:List V->Lo->MH->Prop)(hg:∀xs r m,I xs r m->g.stays m=true)(hs:∀x xs r m,I (x::xs) r m->Wp (step x r) m (aZ5 Q I xs) E)(hn:∀r m,I [] r m->Q (.next,r) m):
  ∀(xs:List V) (r:Lo) (m:MH),I xs r m->Wp (aO8 g step xs r) m Q E
 |[],r,m,h=>by
  refine aG (m':=m) ?_ (hn r m h);show(if g.stays m then _ else _)=_;rw[if_pos (hg _ _ _ h)]
 |x::xs,r,m,h=>by
  have e:aO8 g step (x::xs) r m=(step x r m).bind (λp=>match p.1 with | .ret x=>ret (.ret x,p.2) | _=>aO8 g step xs p.2):=if_pos (hg _ _ _ h);have k:=hs x xs r m h;unfold Wp at k ⊢;rw[e]
  cases q:step x r m with
  |bad=>rw[q]at k;exact k
  |exc c m1=>rw[q]at k;exact k
  |ok p m1=>
   rw[q]at k;obtain⟨f,r1⟩:=p
   cases f with
   |ret v=>exact k
   |next=>exact aZ6 I hg hs hn xs r1 m1 k
   |cont=>exact aZ6 I hg hs hn xs r1 m1 k
theorem dG8{k:IK}{Q:Fl×Lo->MH->Prop}(h:Wp (evs S F src r) m (λvs m'=>Wp (aD4 k vs) m' (λp m'=>∃I:List V->Lo->MH->Prop,I p.1 r m' /\ (∀xs r m,I xs r m->p.2.stays m=true) /\
      (∀x xs r m,I (x::xs) r m->Wp (aI4 t x r) m (λr' m'=>Wp (exs S F body r') m' (aZ5 Q I xs) E) E) /\ (∀r m,I [] r m->Wp (exs S F ss r) m Q E)) E) E):Wp (exs S F (.for_ k t src body::ss) r) m Q E:=by
  refine eS (aJ (x:=evs S F src r) (wp_mono h (λvs m' h=>aJ (x:=aD4 k vs) (wp_mono h (λp m' h=>?_) λy_ y_ q=>q)) λy_ y_ q=>q));refine e1a4 h λI h0 hg hs hn=>?_;exact aZ6 I hg (λx xs r m hi=>aJ (x:=aI4 t x r) (wp_mono (hs x xs r m hi) (λr' m' q=>wp_mono q (λp m' q=>by obtain⟨f,r1⟩:=p;cases (f) <;> exact q) λy_ y_ q=>q) λy_ y_ q=>q)) hn p.1 r m' h0
theorem bD9{g:Gd}{step:V->Mn (Option V)}{Q:List V->MH->Prop}{E:Nat->MH->Prop}(I:List V->List V->MH->Prop)(hg:∀xs l m,I xs l m->g.stays m=true)
  (hs:∀x xs l m,I (x::xs) l m->Wp (step x) m (λo m'=>I xs (l++eQ o []) m') nox) (hn:∀l m,I [] l m->Q l m) :
  ∀(xs l:List V) (m:MH),I xs l m->Wp (bK g step xs) m (λl' m'=>Q (l++l') m') E
 |[],l,m,h=>by
  refine aG (a:=[]) (m':=m) (if_pos (hg _ _ _ h)) ?_;rw[List.append_nil];exact hn l m h
 |x::xs,l,m,h=>by
  refine e2a2 (fU (hs x xs l m h)) λo m1 e k=>?_;have e2:bK g step (x::xs) m=((step x m).nox).bind (λo=>bnd (bK g step xs) λr=>ret (eQ o r)):=if_pos (hg _ _ _ h);have ih:=bD9 (E:=E) I hg hs hn xs _ m1 k;have e3:bK g step (x::xs) m=(bK g step xs m1).bind (λr=>ret (eQ o r)):=by rw[e2,e];rfl
  unfold Wp at ih ⊢;rw[e3]
  cases q:bK g step xs m1 with
  |bad=>rw[q]at ih;exact ih
  |exc c m2=>rw[q]at ih;exact ih
  |ok l' m2=>
   rw[q]at ih;have ih:Q (l++eQ o []++l') m2:=ih;show Q (l++eQ o l') m2;have e4:l++eQ o []++l'=l++eQ o l':=by cases (o) <;> simp[eQ]
   rw[<- e4];exact ih
theorem cV8{k:IK}{nl:Nat}(h:Wp (evs S F src r) m (λvs m'=>Wp (aD4 k vs) m' (λp m'=>∃I:List V->List V->MH->Prop,I p.1 [] m' /\ (∀xs l m,I xs l m->p.2.stays m=true) /\
      (∀x xs l m,I (x::xs) l m->Wp (aI4 t x (r++List.replicate nl Option.none)) m (λr' m'=>Wp (bN4 S F ifs r') m' (λb m'=>bif b then Wp (ev S F elt r') m' (λy m'=>I xs (l++[y]) m') nox else I xs l m') nox) nox) /\ (∀l m,I [] l m->l.length <= lid /\ ∀p m',Le m m'->m'[p]?=some (.list l)->m.length <= p->Q (.ref p) m')) E) E):Wp (ev S F (.comp elt t nl k src ifs) r) m Q E:=by
  refine aJ (x:=evs S F src r) (wp_mono h (λvs m' h=>aJ (x:=aD4 k vs) (wp_mono h (λp m' h=>?_) λy_ y_ q=>q)) λy_ y_ q=>q);refine e1a4 h λI h0 hg hs hn=>?_;refine aJ ?_;refine bD9 (Q:=λl m'=>Wp (if l.length <= lid then alloc (.list l)else bad) m' Q E) I hg (λx xs l m hi=>?_) (λl m hi=>?_) p.1 [] m' h0
  · refine aJ (x:=aI4 t x _) (wp_mono (hs x xs l m hi) (λr' m' q=>aJ (x:=bN4 S F ifs r') (wp_mono q (λb m' q=>?_) λy_ y_ q=>q)) λy_ y_ q=>q)
    cases b with
    |true=>exact aJ (x:=ev S F elt r') (wp_mono q (λy m' q=>q) λy_ y_ q=>q)
    |false=>show I xs (l++[]) m';rw[List.append_nil];exact q
  · refine e0a2 (hn l m hi) λh1 h2=>?_
    rw[if_pos h1];exact aK h2
theorem aE2{c:CB}{Q:Bool->MH->Prop}(h:Wp (evT S F c r) m Q E):Wp (bN4 S F [c] r) m Q E:=by
 refine aJ (x:=evT S F c r) (wp_mono h (λb m' q=>?_) λy_ y_ q=>q)
 cases (b) <;> exact q
theorem aZ2{g:α->Option β}{x:α}{xs:List α}{d:β}{ds:List β}(h1:g x=some d)(h2:d7 g xs=some ds):d7 g (x::xs)=some (d::ds):=by
 show(match g x,d7 g xs with | some d,some ds=>some (d::ds) | _,_=>none)=_;rw[h1,h2]
theorem dN2{g:α->Option β}{x:α}{xs:List α}(h1:g x=none):d7 g (x::xs)=none:=by
 show(match g x,d7 g xs with | some d,some ds=>some (d::ds) | _,_=>none)=_;rw[h1]
theorem bT6(m:MH):∀is:List Int,d7 (rd cT m) (is.map V.int)=some (is.map PyData.int)
 |[]=>rfl
 |i::is=>aZ2 rfl (bT6 m is)
theorem cY8(h:m[p]?=some (.list (is.map V.int)))(x:Int):inV (.int x) (.ref p) m=.ok (is.any λj=>j == x) m:=by
 unfold inV;dsimp only;rw[h];dsimp only;rw[bT6];show Res.ok ((is.map PyData.int).any λe=>PyData.eqv e (.int x)) m=_;rw[List.any_map];rfl
noncomputable def cU2(lo hi:Int):List Int:=(List.range (hi - lo).toNat).map λ(k:Nat)=>lo+k
theorem bT8(lo hi:Int):aI8 lo hi=(cU2 lo hi).map V.int:=by unfold aI8 cU2;rw[List.map_map];rfl
theorem bF0(lo hi:Int):(cU2 lo hi).length=(hi - lo).toNat:=by simp[cU2]
theorem dH1(h:n.natAbs < 2 ^ 30):eE [.int n]=some ((cU2 0 n).map V.int):=by
 show(if n.natAbs < 2 ^ 30 then some (aI8 0 n)else Option.none)=_;rw[if_pos h,bT8]
theorem aV3{as:List CE}(h:Wp (evs S F as r) m (λvs m'=>∃l,eE vs=some l /\ l.length <= lid /\ ∀p m'',Le m' m''->m''[p]?=some (.list l)->m'.length <= p->Q (.ref p) m'') E):Wp (ev S F (.listrange as) r) m Q E:=by
 refine aJ (x:=evs S F as r) (wp_mono h (λvs m' h=>?_) λy_ y_ q=>q);refine e1a3 h λl e hl k=>?_;rw[e];dsimp only;rw[if_pos hl];exact aK k
theorem md0(h:0 < n):0 <= x % n:=Int.emod_nonneg _ (Int.ne_of_gt h)
theorem md1(h:0 < n):x % n < n:=Int.emod_lt_of_pos _ h
theorem aF2{a:Int}{c:Nat}(h0:0 <= a)(h1:a < b)(h2:b <= (c:Int)):a.natAbs < c:=Int.ofNat_lt.mp (by rw[Int.natAbs_of_nonneg h0];exact Int.lt_of_lt_of_le h1 h2)
theorem abs60{a:Int}(h0:0 <= a)(h1:a < b)(h2:b <= 1000000):a.natAbs < 2 ^ 60:=Nat.lt_of_lt_of_le (aF2 (c:=1000000) h0 h1 h2) (by decide)
theorem md60(h:0 < n)(h2:n <= 1000000):(x % n).natAbs < 2 ^ 60:=abs60 (md0 h) (md1 h) h2
theorem md30(h:0 < n)(h2:n <= 1000000):(x % n).natAbs < 1073741824:=Nat.lt_of_lt_of_le (aF2 (c:=1000000) (md0 h) (md1 h) h2) (by decide)
theorem bR0{a:Int}{n:Nat}(h0:0 <= a)(h:a < (n:Int)):a.toNat < n:=(Int.toNat_lt h0).mpr h
theorem dB{a:Int}(h:a <= b):a.toNat <= b.toNat:=Int.toNat_le_toNat h
theorem mdN(h:0 < n)(hk:n <= (k:Int)):(x % n).toNat < k:=bR0 (md0 h) (Int.lt_of_lt_of_le (md1 h) hk)
theorem cX2(h:0 < n):x % n=((x % n).toNat:Int):=(Int.toNat_of_nonneg (md0 h)).symm
theorem dG{n:Nat}(h:n <= k)(hk:k <= 1000000):n <= lid:=Nat.le_trans h (Nat.le_trans hk (by decide))
theorem bY4{p:α->Prop}:∀x∈([]:List α),p x:=λy_ h=>absurd h List.not_mem_nil
theorem b9{p:α->Prop}{a:α}{l:List α}(h:p a)(t:∀x∈l,p x):∀x∈a::l,p x:=List.forall_mem_cons.mpr ⟨h,t⟩
theorem cS1{x:Mn V}{a:V}(h:Wp x m (λu m'=>u=a /\ Le m m') nox)(k:∀m',Le m m'->Q a m'):Wp x m Q E:=bF h λy_ m' z=>z.1▸k m' z.2
theorem cB6(h:0 < n)(hn:n=(xs.length:Int)):∃v,at_ xs (x % n)=some v /\ v∈xs:=by
 have:(x % n).toNat < xs.length:=mdN h (Int.le_of_eq hn);refine⟨xs[(x % n).toNat],?_,List.getElem_mem this⟩;unfold at_;rw[if_pos (md0 h),List.getElem?_eq_getElem this]
theorem cR9{step:V->Mn (Option V)}{vv ww:α->V}{keep:α->Bool}{M:MH->Prop}(hg:∀m,M m->g.stays m=true):∀{zs:List α},(∀z∈zs,∀m,M m->Wp (step (vv z)) m (λo m'=>o=(bif keep z then some (ww z)else none) /\ M m') nox)->∀m,M m->Wp (bK g step (zs.map vv)) m (λl m'=>l=(zs.filter keep).map ww /\ M m') nox:=by
 intro zs
 induction zs with
 |nil=>intro _ m hm;exact aG (a:=[]) (m':=m) (if_pos (hg m hm)) ⟨rfl,hm⟩
 |cons z zs ih=>
  intro hs m hm;refine e2a2 (fU (hs z (.head _) m hm)) λo m1 e q1=>?_;refine e2a2 (fU (ih (λz hz=>hs z (.tail _ hz)) m1 q1.2)) λl m2 e2 q2=>?_;refine aG (a:=eQ o l) (m':=m2) ?_ ⟨?_,q2.2⟩
  ·have e3:bK g step ((z::zs).map vv) m=((step (vv z) m).nox).bind (λo=>bnd (bK g step (zs.map vv)) λr=>ret (eQ o r)):=if_pos (hg m hm)
   rw[e3,e];show Res.bind (bK g step (zs.map vv) m1) _=_;rw[e2];rfl
  ·rw[q1.1,q2.1,List.filter_cons]
   cases keep z <;> rfl
theorem aD7{k:IK}{nl:Nat}(zs:List α)(vv ww:α->V)(keep:α->Bool)(M:MH->Prop)(h:Wp (evs S F src r) m (λvs m'=>Wp (aD4 k vs) m' (λp m'=>p.1=zs.map vv /\ M m' /\ (∀m,M m->p.2.stays m=true) /\
   (∀z∈zs,∀m,M m->Wp (aI4 t (vv z) (r++List.replicate nl Option.none)) m (λr' m'=>Wp (bN4 S F ifs r') m' (λb m'=>b=keep z /\ (bif b then Wp (ev S F elt r') m' (λy m'=>y=ww z /\ M m') nox else M m')) nox) nox) /\
   zs.length <= lid /\ ∀p m1 m2,M m1->Le m1 m2->m2[p]?=some (.list ((zs.filter keep).map ww))->m1.length <= p->Q (.ref p) m2) E) E):Wp (ev S F (.comp elt t nl k src ifs) r) m Q E:=by
 refine aJ (x:=evs S F src r) (wp_mono h (λvs m' h=>aJ (x:=aD4 k vs) (wp_mono h (λp m' h=>?_) λy_ y_ q=>q)) λy_ y_ q=>q);refine e0a6 h λe0 h0 hg hs hl hn=>?_;rw[e0];refine aJ (bF (cR9 (keep:=keep) (ww:=ww) hg (λz hz m hm=>?_) m' h0) λl m1 q=>?_)
 ·refine aJ (x:=aI4 t (vv z) _) (wp_mono (hs z hz m hm) (λr' m' q=>aJ (x:=bN4 S F ifs r') (wp_mono q (λb m' q=>?_) λy_ y_ q=>q)) λy_ y_ q=>q)
  refine e0a2 q λe q=>?_;rw[e]at q ⊢
  cases hk:keep z with
  |true=>rw[hk]at q;exact aJ (x:=ev S F elt r') (wp_mono q (λy m' q=>⟨congrArg some q.1,q.2⟩) λy_ y_ q=>q)
  |false=>rw[hk]at q;exact⟨rfl,q⟩
 ·have hle:l.length <= lid:=by rw[q.1,List.length_map];exact Nat.le_trans (List.length_filter_le _ _) hl
  rw[if_pos hle];exact aK λp m2 l2 k g=>hn p m1 m2 q.2 l2 (q.1▸k) g
theorem bL5(zs:List α):(zs.filter λy_=>true)=zs:=List.filter_eq_self.mpr λy_ y_=>rfl
theorem bF7{k:IK}{nl:Nat}(zs:List α)(vv ww:α->V)(M:MH->Prop)(h:Wp (evs S F src r) m (λvs m'=>Wp (aD4 k vs) m' (λp m'=>p.1=zs.map vv /\ M m' /\ (∀m,M m->p.2.stays m=true) /\
   (∀z∈zs,∀m,M m->Wp (aI4 t (vv z) (r++List.replicate nl Option.none)) m (λr' m'=>Wp (ev S F elt r') m' (λy m'=>y=ww z /\ M m') nox) nox) /\
   zs.length <= lid /\ ∀p m1 m2,M m1->Le m1 m2->m2[p]?=some (.list (zs.map ww))->m1.length <= p->Q (.ref p) m2) E) E):Wp (ev S F (.comp elt t nl k src []) r) m Q E:=by
 refine aD7 zs vv ww (λy=>true) M (wp_mono h (λvs m' h=>wp_mono h (λp m' h=>?_) λy_ y_ q=>q) λy_ y_ q=>q);refine e0a6 h λe0 h0 hg hs hl hn=>?_;refine⟨e0,h0,hg,λz hz m hm=>wp_mono (hs z hz m hm) (λr' m' q=>aC rfl ⟨rfl,q⟩) λy_ y_ q=>q,hl,?_⟩;rw[bL5];exact hn
theorem eR{k:IK}{Q:Fl×Lo->MH->Prop}(zs:List α)(vv:α->V)(I:List α->Lo->MH->Prop)(h:Wp (evs S F src r) m (λvs m'=>Wp (aD4 k vs) m' (λp m'=>p.1=zs.map vv /\ I zs r m' /\ (∀zs r m,I zs r m->p.2.stays m=true) /\
      (∀z zs r m,I (z::zs) r m->Wp (aI4 t (vv z) r) m (λr' m'=>Wp (exs S F body r') m' (aZ5 Q I zs) E) E) /\ (∀r m,I [] r m->Wp (exs S F ss r) m Q E)) E) E):Wp (exs S F (.for_ k t src body::ss) r) m Q E:=by
  refine dG8 (wp_mono h (λvs m' h=>wp_mono h (λp m' h=>?_) λy_ y_ q=>q) λy_ y_ q=>q);refine e0a5 h λe0 h0 hg hs hn=>?_;refine⟨λxs r m=>∃z,xs=z.map vv /\ I z r m,⟨zs,e0,h0⟩,λy_ y_ y_ ⟨_,_,q⟩=>hg _ _ _ q,?_,?_⟩
  · rintro x xs r m ⟨z,e,q⟩
    cases z with
    |nil=>injection e
    |cons c z=>
      cases (e)
      refine wp_mono (hs c z r m q) (λr' m' q=>wp_mono q (λp m' q=>?_) λy_ y_ q=>q) λy_ y_ q=>q;obtain⟨f,r1⟩:=p
      cases f with
      |ret v=>exact q
      |next=>exact⟨z,rfl,q⟩
      |cont=>exact⟨z,rfl,q⟩
  · rintro r m ⟨z,e,q⟩
    cases z with
    |nil=>exact hn r m q
    |cons c z=>injection e
theorem bT{as:List CE}{v:V}(ha:ev S F a r m=.ok v m)(hs:evs S F as r m=.ok vs m):evs S F (a::as) r m=.ok (v::vs) m:=by
 show Res.bind (ev S F a r m) _=_;rw[ha];show Res.bind (evs S F as r m) _=_;rw[hs];rfl
theorem bT9{as:List CE}(hs:evs S F as r m=.ok vs m):ev S F (.tup as) r m=.ok (.tup vs) m:=by
 show Res.bind (evs S F as r m) _=_;rw[hs];rfl
end Mini.Internal
variable{b t:Bool}{x:V}{g:Int}
namespace Mini.Internal
open PySem
inductive Pl(m:MH):V->Prop
 |none:Pl m .none
 |bool (b:Bool):Pl m (.bool b)
 |int (i:Int):Pl m (.int i)
 |str (s:Str) (h:s.length <= 64):Pl m (.str s)
 |tup (xs:List V) (h:xs.length <= 64):Pl m (.tup xs)
 |list (p:Nat) (xs:List V) (h:m[p]?=some (.list xs)):Pl m (.ref p)
 |dict (p:Nat) (kvs:List (Ky×V)) (e:Nat) (h:m[p]?=some (.dict kvs e)):Pl m (.ref p)
noncomputable def vI:V->Bool | .int _=>true | .bool _=>true | _=>false
noncomputable def vB:V->Bool | .bool _=>true | _=>false
noncomputable def vW:V->Bool | .int _=>true | _=>false
section
variable{v:V}
theorem cY0(h:Pl m v):aB3 S v .int m=.ok (vI v) m:=by
 cases h with
 |list p xs hp=>unfold aB3;dsimp only;rw[hp];rfl
 |dict p kvs e hp=>unfold aB3;dsimp only;rw[hp];rfl
 |_=>rfl
theorem cJ2(h:Pl m v):aB3 S v .bool m=.ok (vB v) m:=by
 cases h with
 |list p xs hp=>unfold aB3;dsimp only;rw[hp];rfl
 |dict p kvs e hp=>unfold aB3;dsimp only;rw[hp];rfl
 |_=>rfl
end
theorem bU3{t:Ty}(ha:ev S F a r m=.ok x m)(h:aB3 S x t m=.ok b m):ev S F (.isi a t) r m=.ok (.bool b) m:=by
 show Res.bind (ev S F a r m) _=_;rw[ha];show Res.bind (aB3 S x t m) _=_;rw[h];rfl
theorem dH3(ha:ev S F a r m=.ok (.bool b) m):ev S F (.not a) r m=.ok (.bool (!b)) m:=by
 show Res.bind (ev S F a r m) _=_;rw[ha];rfl
theorem dH2{v:V}(ha:ev S F a r m=.ok v m):ev S F (.boolop c [a]) r m=.ok v m:=ha
theorem bB{v:V}(ha:ev S F a r m=.ok x m)(h:F k [x] m=.ok v m):ev S F (.call k [a]) r m=.ok v m:=by
 show Res.bind (Res.bind (ev S F a r m) _) _=_;rw[ha];exact h
theorem aB0{as:List CE}{v:V}(ha:evs S F as r m=.ok vs m)(h:F k vs m=.ok v m):ev S F (.call k as) r m=.ok v m:=by
 show Res.bind (evs S F as r m) _=_;rw[ha];exact h
theorem aR{b:CE}{o:CmpOp}(ha:ev S F a r m=.ok x m)(hb:ev S F b r m=.ok y m)(h:aF0 o x y m=.ok t m):ev S F (.cmp a [o] [b]) r m=.ok (.bool t) m:=by
 show Res.bind (ev S F a r m) _=_;rw[ha];show Res.bind (ev S F b r m) _=_;rw[hb];show Res.bind (aF0 o x y m) _=_;rw[h];rfl
theorem bJ{c:CB}{a b:List CS}{Q:Fl×Lo->MH->Prop}(h:evT S F c r m=.ok t m)(k:Wp (exs S F ((bif t then a else b)++ss) r) m Q E):Wp (exs S F (.ite c a b::ss) r) m Q E:=aA9 (aG h k)
theorem dJ:bH6 S F c [] r m=.ok c m:=rfl
theorem cX(h:bH6 S F c bs r m=.ok b m):evT S F (.all c bs) r m=.ok b m:=h
theorem d8{x:Mn α}{a:α}(h:Wp x m (λv m'=>v=a /\ m'=m) nox):x m=.ok a m:=by
 refine e2a3 (fU h) λy_ y_ e z71 z72=>?_;subst z71;subst z72;exact e
noncomputable def b_at:List CS:=[.ite (.val (.cmp (.var 1) [.Lt] [.bi .len [.var 0]])) [.ret (.idx (.var 0) (.var 1))] [],.ret (.cnst (.int 0))]
noncomputable def at0(ns:List Int)(k:Int):Int:=(ns[k.toNat]?).getD 0
theorem dC1(h:cJ S k 2 2 b_at)(n:Nat)(ns:List Int)(j:Int)(hj:0 <= j)(m:MH):run S (n+1) k [.scr ns,.int j] m=.ok (.int (at0 ns j)) m:=by
 refine d8 (bL h rfl (bJ (t:=decide (j < (ns.length:Int))) rfl ?_));by_cases hl:j < (ns.length:Int)
 ·rw[decide_eq_true hl]
  refine a9 (aV4 (aC rfl (aC rfl (aG (a:=.int (at0 ns j)) (m':=m) ?_ ⟨rfl,rfl⟩))));show(if 0 <= j then ofO ((ns[j.toNat]?).map V.int) m else .bad)=_;rw[if_pos hj];unfold at0;rw[List.getElem?_eq_getElem ((Int.toNat_lt hj).mpr hl)];rfl
 ·rw[decide_eq_false hl]
  refine a9 (aC rfl ⟨?_,rfl⟩);unfold at0;rw[List.getElem?_eq_none (Nat.le_of_not_lt λc=>hl ((Int.toNat_lt hj).mp c))];rfl
noncomputable def fN:List CS:=[.ret (.boolop true [.isi (.var 0) .int,.not (.isi (.var 0) .bool)])]
theorem cC7(h:cJ S k 1 1 fN)(n:Nat){m:MH}{v:V}(hv:Pl m v):run S (n+1) k [v] m=.ok (.bool (vW v)) m:=by
 refine d8 (bL h rfl (a9 (aG (cG2 (bU3 rfl (cY0 hv)) (dH2 (dH3 (bU3 rfl (cJ2 hv))))) ⟨?_,rfl⟩)))
 cases (hv) <;> rfl
noncomputable def bI7(kW gM c:Nat):List CS:=[.ite (.all false [.not (.val (.call kW [.var 0])),.not (.val (.cmp (.cnst (.int 1)) [.LtE,.LtE] [.var 0,.glob gM]))]) [.rse c (Str.ofString "a town has 1 to 12 houses")] []]
end Mini.Internal
variable{b:CE}{c:Nat}
namespace Mini.Internal
open PySem
noncomputable def letterS:Str:=Str.ofString "abcdefghijklmnopqrstuvwxyz"
noncomputable def letters:List Nat:=letterS.cps.toList
noncomputable def okC(c:Nat):Bool:=decide (c∈letters)
noncomputable def ch(c:Nat):V:=.str ⟨#[c]⟩
noncomputable def dD1(s:Str):Bool:=decide ((1:Int) <= (s.length:Int))&&decide ((s.length:Int) <= 8)
noncomputable def bN1:V->Bool | .str s=>dD1 s&&s.cps.toList.all okC | _=>false
theorem dH4{s:Str}(ha:ev S F a r m=.ok (.str s) m)(h:s.length <= lid):ev S F (.bi .len [a]) r m=.ok (.int s.length) m:=by
 show Res.bind (Res.bind (ev S F a r m) _) _=_;rw[ha];exact if_pos h
theorem bF1{g:Nat}{nm:Str}{l:Lt}(h:S.globs[g]?=some (nm,l)):ev S F (.glob g) r m=.ok l.val m:=by
 show(match S.globs[g]? with | some p=>ret p.2.val | Option.none=>bad) m=_;rw[h];rfl
noncomputable def aH1(gL gM:Nat):List CS:=[
 .ite (.all false [.not (.val (.isi (.var 0) .str)),.not (.val (.cmp (.cnst (.int 1)) [.LtE,.LtE] [.bi .len [.var 0],.glob gM]))]) [.ret (.cnst (.bool false))] [],
 .for_ .expr (.one 1) [.var 0] [.ite (.val (.cmp (.var 1) [.NotIn] [.glob gL])) [.ret (.cnst (.bool false))] []],
 .ret (.cnst (.bool true))]
theorem dA3:∀ds:List PyData,PyData.eqv (.list ds) (.list [])=ds.isEmpty
 |[]=>rfl
 |_::_=>rfl
theorem bU{v:V}(ha:ev S F a r m=.ok x m)(hb:ev S F b r m=.ok y m)(h:cA8 op x y m=.ok v m):ev S F (.bin op a b) r m=.ok v m:=by
 show Res.bind (ev S F a r m) _=_;rw[ha];show Res.bind (ev S F b r m) _=_;rw[hb];exact h
theorem dW{v:V}(ha:ev S F a r m=.ok x m)(hb:ev S F b r m=.ok y m)(h:aO6 x y m=.ok v m):ev S F (.idx a b) r m=.ok v m:=by
 show Res.bind (ev S F a r m) _=_;rw[ha];show Res.bind (ev S F b r m) _=_;rw[hb];exact h
theorem bV7(h:i.natAbs < 1073741824 \/ j.natAbs < 1073741824):cA8 .Mult (.int i) (.int j) m=.ok (.int (i * j)) m:=if_pos h
theorem aD0(h:0 < j):cA8 .Mod (.int i) (.int j) m=.ok (.int (i % j)) m:=if_pos h
theorem short{a:CB}{as:List CB}(ha:evT S F a r m=.ok true m):bH6 S F false (a::as) r m=.ok true m:=by
 show Res.bind (evT S F a r m) _=_;rw[ha];rfl
end Mini.Internal
variable{b:MH}
namespace Mini.Internal
open PySem
noncomputable def kq:List Nat:=(Str.ofString "kqxz").cps.toList
noncomputable def cM(b k:Int):Int:=b+31 * k * (b % 2)
noncomputable def size(b k:Int):Int:=cM b k / 26 % 8
noncomputable def letter(b k:Int)(j:Nat):Nat:=(letters[((cM b k+5 * (j:Int) * (1+cM b k % 3)) % 26).toNat]?).getD 0
noncomputable def bQ(b k:Int):List Nat:=(List.range (size b k).toNat).map (letter b k)
noncomputable def here(b k:Int):Int:=if b % 2=0 then b / 4 % (size b k+1)else size b k
noncomputable def four:List Str:=[Str.ofString "say",Str.ofString "mark",Str.ofString "by",Str.ofString "house"]
noncomputable def fourL:List (List Nat):=four.map λs=>s.cps.toList
noncomputable def kqx(k:Int):Nat:=(kq[(k % 4).toNat]?).getD 0
noncomputable def bN0(b k:Int):List Nat:=if b % 9=4 then(fourL[(k % 4).toNat]?).getD []
 else(bQ b k).take (here b k).toNat++[kqx k]++(bQ b k).drop (here b k).toNat
noncomputable def row(b k:Int):Str:=⟨(bN0 b k).toArray⟩
theorem aQ7(b k:Int):0 <= size b k /\ size b k < 8:=by
 exact⟨md0 (by decide),md1 (by decide)⟩
theorem aQ6(b k:Int):0 < size b k+1:=Int.lt_add_one_of_le (aQ7 b k).1
theorem bX9(b k:Int):0 <= here b k /\ here b k <= size b k:=by
 unfold here;by_cases h:b % 2=0
 ·rw[if_pos h];exact⟨md0 (aQ6 b k),Int.le_of_lt_add_one (md1 (aQ6 b k))⟩
 ·rw[if_neg h];exact⟨(aQ7 b k).1,Int.le_refl _⟩
theorem bE5(b k:Int):(bQ b k).length=(size b k).toNat:=by simp[bQ]
theorem aJ5:letters.length=26:=by decide +kernel
theorem cO1:kq.length=4:=by decide +kernel
theorem dJ2:kq.all okC=true:=by decide +kernel
theorem cK2:(fourL.all λl=>l.all okC&&decide (1 <= l.length)&&decide (l.length <= 8))=true:=by decide +kernel
theorem bB3:letters.all okC=true:=by decide +kernel
theorem bL0(b k:Int)(j:Nat):okC (letter b k j)=true:=by
 have h4:((cM b k+5 * (j:Int) * (1+cM b k % 3)) % 26).toNat < letters.length:=by rw[aJ5];exact mdN (by decide) (by decide)
 unfold letter;rw[List.getElem?_eq_getElem h4];exact List.all_eq_true.mp bB3 _ (List.getElem_mem h4)
theorem cF4(b k:Int):(bQ b k).all okC=true:=by
 rw[List.all_eq_true];intro c hc;refine e1a2 (List.mem_map.mp hc) λj y_ zz1=>?_;subst zz1;exact bL0 b k j
theorem dJ1(k:Int):okC (kqx k)=true:=by
 have h4:(k % 4).toNat < kq.length:=by rw[cO1];exact mdN (by decide) (by decide)
 unfold kqx;rw[List.getElem?_eq_getElem h4];exact List.all_eq_true.mp dJ2 _ (List.getElem_mem h4)
theorem cN5{n x:Nat}:(l.take n++[x]++l.drop n).length=l.length+1:=by
 rw[List.length_append,List.length_append,List.length_singleton,Nat.add_right_comm,<- List.length_append,List.take_append_drop]
theorem cU1(b k:Int):(bN0 b k).all okC=true /\ 1 <= (bN0 b k).length /\ (bN0 b k).length <= 8:=by
 unfold bN0
 split
 ·have h4:(k % 4).toNat < fourL.length:=mdN (k:=4) (by decide) (by decide)
  rw[List.getElem?_eq_getElem h4];have:=List.all_eq_true.mp cK2 _ (List.getElem_mem h4);simp only[Bool.and_eq_true,decide_eq_true_eq]at this;exact⟨this.1.1,this.1.2,this.2⟩
 ·have hs:=aQ7 b k
  have hh:=bX9 b k;have hlen:=bE5 b k;have ta:=cF4 b k;have e:(bQ b k).all okC=(((bQ b k).take (here b k).toNat).all okC&&((bQ b k).drop (here b k).toNat).all okC):=by rw[<- List.all_append,List.take_append_drop]
  rw[ta]at e;refine e0a2 (Bool.and_eq_true_iff.mp e.symm) λe1 e2=>?_;refine⟨?_,?_,?_⟩
  ·rw[List.all_append,List.all_append,e1,e2]
   show(true&&(okC (kqx k)&&true)&&true)=true;rw[dJ1];rfl
  ·rw[cN5];exact Nat.le_add_left _ _
  ·rw[cN5,hlen]
   exact Nat.succ_le_of_lt (bR0 hs.1 hs.2)
theorem aI5(b k:Int):bN1 (.str (row b k))=true:=by
 refine e0a3 (cU1 b k) λh1 h2 h3=>?_;have e:(row b k).length=(bN0 b k).length:=by show(bN0 b k).toArray.size=_;rw[List.size_toArray]
 show(dD1 (row b k)&&(bN0 b k).toArray.toList.all okC)=true;unfold dD1;rw[e,decide_eq_true (show(1:Int) <= (bN0 b k).length from Int.ofNat_le.mpr h2),decide_eq_true (show((bN0 b k).length:Int) <= 8 from Int.ofNat_le.mpr h3),h1];rfl
theorem aI3(a b:List Nat):(⟨a.toArray⟩:Str)++⟨b.toArray⟩=⟨(a++b).toArray⟩:=by
 show Str.append _ _=_;simp[Str.append]
theorem bX3:∀(cs:List Nat) (acc:List Nat),(cs.map λc=>(⟨#[c]⟩:Str)).foldl (λa p=>a++(Str.ofString "")++p) ⟨acc.toArray⟩=⟨(acc++cs).toArray⟩
 |[],acc=>by simp
 |c::cs,acc=>by
  have e0:Str.ofString ""=⟨([]:List Nat).toArray⟩:=by decide +kernel
  have e1:(⟨acc.toArray⟩:Str)++Str.ofString ""++⟨#[c]⟩=⟨(acc++[c]).toArray⟩:=by
   have e2:=aI3 acc [];rw[List.append_nil]at e2;rw[e0,e2];exact aI3 acc [c]
  rw[List.map_cons,List.foldl_cons,e1,bX3 cs (acc++[c])];simp
theorem cI8(cs:List Nat):aM3 (Str.ofString "") (cs.map λc=>(⟨#[c]⟩:Str))=⟨cs.toArray⟩:=by
 cases cs with
 |nil=>rfl
 |cons c cs=>exact bX3 cs [c]
theorem cN0:∀(cs:List Nat) (k:Nat),(cs.map λc=>(⟨#[c]⟩:Str)).foldl (λk x=>k+x.length+(Str.ofString "").length) k=k+cs.length
 |[],k=>rfl
 |c::cs,k=>by
  have e0:(Str.ofString "").length=0:=by decide +kernel
  have e1:(⟨#[c]⟩:Str).length=1:=rfl;rw[List.map_cons,List.foldl_cons,cN0 cs,e0,e1,List.length_cons,Nat.add_zero,Nat.add_assoc,Nat.add_comm 1]at ⊢
theorem bH0:∀cs:List Nat,eI (cs.map ch)=some (cs.map λc=>(⟨#[c]⟩:Str))
 |[]=>rfl
 |c::cs=>by show(eI (cs.map ch)).map _=_;rw[bH0 cs];rfl
theorem bW4(b k:Int)(j:Nat)(m:MH):aO6 (.str (Str.ofString "abcdefghijklmnopqrstuvwxyz")) (.int ((cM b k+5 * (0+(j:Int)) * (1+cM b k % 3)) % 26)) m=.ok (ch (letter b k j)) m:=by
 have h1:((cM b k+5 * (0+(j:Int)) * (1+cM b k % 3)) % 26).natAbs < 2 ^ 60:=md60 (by decide) (by decide);have h4:((cM b k+5 * (j:Int) * (1+cM b k % 3)) % 26).toNat < letters.length:=by rw[aJ5];exact mdN (by decide) (by decide)
 have h2:at_ letters ((cM b k+5 * (0+(j:Int)) * (1+cM b k % 3)) % 26)=some (letter b k j):=by
  rw[Int.zero_add];unfold at_ letter;rw[if_pos (md0 (by decide)),List.getElem?_eq_getElem h4];rfl
 show(if _ then ofO ((at_ letters _).map λc=>V.str ⟨#[c]⟩) m else .bad)=_;rw[if_pos h1,h2];rfl
theorem cW2{x:Int}:(1+x % 3).natAbs < 1073741824:=Nat.lt_of_lt_of_le (Int.ofNat_lt.mp (by rw[Int.natAbs_of_nonneg (Int.add_nonneg (by decide) (Int.emod_nonneg x (by decide)))];exact Int.add_lt_add_left (Int.emod_lt_of_pos x (by decide)) 1):_ < 4) (by decide)
theorem dE5{cs:List Nat}(h:m[p]?=some (.list (cs.map ch)))(hl:cs.length <= lid)(q:Q (.str ⟨cs.toArray⟩) m):Wp (cU 2 (.str (Str.ofString "")) .join [.ref p]) m Q E:=by
 refine aG (m':=m) ?_ q;show(match m[p]? with | some (.list xs)=>(match eI xs with | some l=>if fV (Str.ofString "") l <= lid then Res.ok (V.str (aM3 (Str.ofString "") l)) m else .bad | Option.none=>.bad) | _=>.bad)=_;rw[h];dsimp only;rw[bH0];dsimp only;rw[if_pos (by unfold fV;rw[cN0,Nat.zero_add];exact hl),cI8]
theorem bU0{lo hi st:CE}{l h t v:V}(ha:ev S F a r m=.ok x m)(hl:ev S F lo r m=.ok l m)(hh:ev S F hi r m=.ok h m)(ht:ev S F st r m=.ok t m)(e:fW x l h t m=.ok v m):ev S F (.slice a lo hi st) r m=.ok v m:=by
 show Res.bind (ev S F a r m) _=_;rw[ha];show Res.bind (ev S F lo r m) _=_;rw[hl];show Res.bind (ev S F hi r m) _=_;rw[hh];show Res.bind (ev S F st r m) _=_;rw[ht];exact e
theorem aL8(h:n.natAbs < 2 ^ 30):aD4 .range [.int n] m=.ok ((List.range n.toNat).map λ(j:Nat)=>V.int (0+(j:Int)),.none) m:=by
 have er:eE [.int n]=some ((List.range (n - 0).toNat).map λ(j:Nat)=>V.int (0+(j:Int))):=by
  show(if n.natAbs < 2 ^ 30 then some (aI8 0 n)else none)=_;rw[if_pos h];rfl
 rw[Int.sub_zero]at er;show(match eE [.int n]with | some l=>ret (l,Gd.none) | none=>bad) m=_;rw[er];rfl
noncomputable def b_row:List CS:=[
 .asg (.one (.one 2)) (.cnst (.str (Str.ofString "abcdefghijklmnopqrstuvwxyz"))),
 .asg (.one (.one 3)) (.bin .Add (.var 0) (.bin .Mult (.bin .Mult (.cnst (.int 31)) (.var 1)) (.bin .Mod (.var 0) (.cnst (.int 2))))),
 .asg (.one (.one 4)) (.bin .Mod (.bin .FloorDiv (.var 3) (.cnst (.int 26))) (.cnst (.int 8))),
 .asg (.one (.one 5)) (.smeth (.cnst (.str (Str.ofString ""))) .join [.comp (.idx (.var 2) (.bin .Mod (.bin .Add (.var 3) (.bin .Mult (.bin .Mult (.cnst (.int 5)) (.var 7)) (.bin .Add (.cnst (.int 1)) (.bin .Mod (.var 3) (.cnst (.int 3)))))) (.cnst (.int 26)))) (.one 7) 1 .range [.var 4] []]),
 .asg (.one (.one 6)) (.var 4),
 .ite (.val (.cmp (.bin .Mod (.var 0) (.cnst (.int 2))) [.Eq] [.cnst (.int 0)])) [
  .asg (.one (.one 6)) (.bin .Mod (.bin .FloorDiv (.var 0) (.cnst (.int 4))) (.bin .Add (.var 4) (.cnst (.int 1))))] [],
 .ite (.val (.cmp (.bin .Mod (.var 0) (.cnst (.int 9))) [.Eq] [.cnst (.int 4)])) [
  .ret (.idx (.list [.cnst (.str (Str.ofString "say")),.cnst (.str (Str.ofString "mark")),.cnst (.str (Str.ofString "by")),.cnst (.str (Str.ofString "house"))]) (.bin .Mod (.var 1) (.cnst (.int 4))))] [],
 .ret (.bin .Add (.bin .Add (.slice (.var 5) (.cnst .none) (.var 6) (.cnst .none)) (.idx (.cnst (.str (Str.ofString "kqxz"))) (.bin .Mod (.var 1) (.cnst (.int 4))))) (.slice (.var 5) (.var 6) (.cnst .none) (.cnst .none)))]
theorem dH0{kf:Nat}(h:cJ S kf 2 7 b_row)(n:Nat)(b k:Int)(m:MH):Wp (run S (n+1) kf [.int b,.int k]) m (λv m'=>v=.str (row b k) /\ Le m m') nox:=by
 have hs:=aQ7 b k;have hh:=bX9 b k;have hlen:=bE5 b k;have hl7:(bQ b k).length <= 7:=by rw[hlen];exact Nat.le_of_lt_succ (bR0 hs.1 hs.2)
 have hlid:(bQ b k).length <= lid:=dG hl7 (by decide);refine bL h rfl ?_;refine bC (aC rfl ?_);refine bC (aG (a:=.int (cM b k)) (m':=m) (bU rfl (bU (bU rfl rfl rfl) (bU rfl rfl rfl) (bV7 (Or.inr (md30 (by decide) (by decide))))) rfl) ?_);refine bC (aG (a:=.int (size b k)) (m':=m) (bU (bU rfl rfl rfl) rfl rfl) ?_);refine bC (bV (aC rfl ⟨2,rfl,rfl,aE (bF7 (List.range (size b k).toNat) (λ(j:Nat)=>V.int (0+(j:Int))) (λj=>ch (letter b k j)) (λm'=>m'=m) (aC rfl (aG (aL8 (aF2 (c:=2 ^ 30) hs.1 hs.2 (by decide))) ⟨rfl,rfl,λy_ y_=>rfl,?_,by rw[List.length_range,<- hlen];exact hlid,?_⟩)))⟩))
 ·rintro j y_ m' rfl
  exact aC rfl (aG (dW rfl (bU (bU rfl (bU (bU rfl rfl rfl) (bU rfl (bU rfl rfl rfl) rfl) (bV7 (Or.inr cW2))) rfl) rfl rfl) (bW4 b k j m')) ⟨rfl,rfl⟩)
 intro p m0 m2 em l2 kp y_;rw[em]at l2;have el:(List.range (size b k).toNat).map (λj=>ch (letter b k j))=(bQ b k).map ch:=by
  unfold bQ;rw[List.map_map];rfl
 rw[el]at kp;refine aC rfl (dE5 kp hlid ?_);refine bC (aC rfl ?_);have fin:∀a:Int,a=here b k->Wp (exs S (run S n) (b_row.drop 6) [some (.int b),some (.int k),some (.str (Str.ofString "abcdefghijklmnopqrstuvwxyz")),some (.int (cM b k)),some (.int (size b k)),some (.str ⟨(bQ b k).toArray⟩),some (.int a)]) m2 (bJ4 λv m'=>v=.str (row b k) /\ Le m m') nox:=by
  rintro y_ rfl;refine bJ (t:=b % 9 == 4) (aT (aR (bU rfl rfl rfl) rfl rfl)) ?_;have ek:k % 4=((k % 4).toNat:Int):=cX2 (by decide)
  cases h9:b % 9 == 4 with
  |true=>
   have h9':b % 9=4:=eq_of_beq h9;have h4:(k % 4).toNat < four.length:=mdN (k:=4) (by decide) (by decide);refine a9 (aV4 (aY (aC rfl (aK λq m3 l3 k3 y_=>aC rfl ?_))));refine dE6 (v:=.str (row b k)) (xs:=four.map V.str) k3 ?_ (md60 (by decide) (by decide)) ⟨rfl,l2.trans l3⟩;rw[ek];unfold at_;rw[if_pos (Int.natCast_nonneg _),Int.toNat_natCast,List.getElem?_map,List.getElem?_eq_getElem h4];unfold row bN0;rw[if_pos h9'];rw[List.getElem?_map,List.getElem?_eq_getElem h4];show some (V.str _)=some (V.str ⟨(four[(k % 4).toNat]).cps.toList.toArray⟩);rw[Array.toArray_toList]
  |false=>
   have h9':¬b % 9=4:=λq=>by rw[q]at h9;exact absurd h9 (by decide)
   have h4:(k % 4).toNat < kq.length:=by rw[cO1];exact mdN (by decide) (by decide)
   have l1:((bQ b k).take (here b k).toNat).length <= 7:=by rw[List.length_take];exact Nat.le_trans (Nat.min_le_right _ _) hl7
   have l2':((bQ b k).drop (here b k).toNat).length <= 7:=by rw[List.length_drop];exact Nat.le_trans (Nat.sub_le _ _) hl7
   have hb2:aK8 (.int (here b k))=some (some (here b k)):=by show(if (here b k).natAbs < 2 ^ 60 then _ else _)=_;rw[if_pos (abs60 hh.1 (Int.lt_of_le_of_lt hh.2 hs.2) (by decide))]
   have hcl:eX (bQ b k).length (here b k)=(here b k).toNat:=by unfold eX;rw[if_pos hh.1,Nat.min_eq_left (by rw[hlen];exact dB hh.2)]
   have sl1:dH (bQ b k) .none (.int (here b k)) .none=some ((bQ b k).take (here b k).toNat):=by
    unfold dH;dsimp only;rw[hb2];show some (((bQ b k).take (eX (bQ b k).length (here b k))).drop 0)=_;rw[hcl,List.drop_zero]
   have sl2:dH (bQ b k) (.int (here b k)) .none .none=some ((bQ b k).drop (here b k).toNat):=by
    unfold dH;dsimp only;rw[hb2];show some (((bQ b k).take (bQ b k).length).drop (eX (bQ b k).length (here b k)))=_;rw[hcl,List.take_length]
   have s1:fW (.str ⟨(bQ b k).toArray⟩) .none (.int (here b k)) .none m2=.ok (.str ⟨((bQ b k).take (here b k).toNat).toArray⟩) m2:=by
    show(if (bQ b k).length <= lid then ofO ((dH (bQ b k) .none (.int (here b k)) .none).map λl=>V.str ⟨l.toArray⟩) m2 else .bad)=_;rw[if_pos hlid,sl1];rfl
   have s2:fW (.str ⟨(bQ b k).toArray⟩) (.int (here b k)) .none .none m2=.ok (.str ⟨((bQ b k).drop (here b k).toNat).toArray⟩) m2:=by
    show(if (bQ b k).length <= lid then ofO ((dH (bQ b k) (.int (here b k)) .none .none).map λl=>V.str ⟨l.toArray⟩) m2 else .bad)=_;rw[if_pos hlid,sl2];rfl
   have e4:aO6 (.str (Str.ofString "kqxz")) (.int (k % 4)) m2=.ok (.str ⟨#[kqx k]⟩) m2:=by
    have:at_ kq (k % 4)=some (kqx k):=by
     unfold at_ kqx;rw[if_pos (md0 (by decide)),List.getElem?_eq_getElem h4];rfl
    show(if (k % 4).natAbs < 2 ^ 60 then ofO ((at_ kq (k % 4)).map λc=>V.str ⟨#[c]⟩) m2 else .bad)=_;rw[if_pos (md60 (by decide) (by decide)),this];rfl
   have er:row b k=⟨((bQ b k).take (here b k).toNat).toArray⟩++⟨#[kqx k]⟩++⟨((bQ b k).drop (here b k).toNat).toArray⟩:=by
    have e1:((⟨((bQ b k).take (here b k).toNat).toArray⟩:Str)++⟨#[kqx k]⟩)=⟨((bQ b k).take (here b k).toNat++[kqx k]).toArray⟩:=aI3 _ [_];rw[e1,aI3];unfold row bN0;rw[if_neg h9']
   have adds:∀x y:Str,x.length+y.length <= lid->cA8 .Add (.str x) (.str y) m2=.ok (.str (x++y)) m2:=λx y h=>if_pos h;rw[er];refine a9 (aG (bU (bU (bU0 rfl rfl rfl rfl s1) (dW rfl (bU rfl rfl rfl) e4) (adds _ _ ?_)) (bU0 rfl rfl rfl rfl s2) (adds _ _ ?_)) ⟨rfl,l2⟩)
   ·show(List.toArray _).size+1 <= lid
    rw[List.size_toArray];exact dG (Nat.succ_le_succ l1) (by decide)
   ·have:((⟨((bQ b k).take (here b k).toNat).toArray⟩:Str)++⟨#[kqx k]⟩).length <= 8:=by
     refine Nat.le_trans (Nat.le_of_eq (congrArg Str.length (aI3 _ [_]))) ?_;show(List.toArray _).size <= 8;rw[List.size_toArray,List.length_append,List.length_singleton];exact Nat.succ_le_succ l1
    show Str.length _+(List.toArray _).size <= lid;rw[List.size_toArray];exact dG (Nat.add_le_add this l2') (by decide)
 refine bJ (t:=b % 2 == 0) (aT (aR (bU rfl rfl rfl) rfl rfl)) ?_
 cases h2:b % 2 == 0 with
 |true=>
  have h2':b % 2=0:=eq_of_beq h2;refine bC (aG (a:=.int (b / 4 % (size b k+1))) (m':=m2) (bU (bU rfl rfl rfl) rfl (aD0 (aQ6 b k))) (fin _ ?_));unfold here;rw[if_pos h2']
 |false=>
  have h2':¬b % 2=0:=λq=>by rw[q]at h2;exact absurd h2 (by decide)
  refine fin _ ?_;unfold here;rw[if_neg h2']
noncomputable def aC4:Str:=Str.ofString "say"
noncomputable def aF6:Str:=Str.ofString "mark"
noncomputable def aH2:List CS:=[.ret (.bin .Mod (.var 1) (.var 0))]
theorem cA3(h:cJ S k 2 2 aH2)(n:Nat)(c i:Int)(hc:0 < c):run S (n+1) k [.int c,.int i] m=.ok (.int (i % c)) m:=
 d8 (bL h rfl (a9 (aG (bU rfl rfl (aD0 hc)) ⟨rfl,rfl⟩)))
noncomputable def look1:CB:=.all false [.not (.val (.isi (.var 1) .tuple)),.val (.cmp (.bi .len [.var 1]) [.NotEq] [.cnst (.int 4)]),.not (.val (.isi (.idx (.var 1) (.cnst (.int 0))) .str))]
theorem vW_is{v:V}(h:vW v=true):∃i,v=.int i:=by
 cases v with
 |int i=>exact⟨i,rfl⟩
 |_=>injection h
noncomputable def aL1(kN kW kR kC gM:Nat):List CS:=[
 .exp (.call kN [.var 0]),
 .ite look1 [.ret (.cnst (.bool false))] [],
 .ite (.all false [.not (.val (.call kW [.idx (.var 1) (.cnst (.int 1))])),.not (.val (.cmp (.cnst (.int 0)) [.LtE,.LtE] [.idx (.var 1) (.cnst (.int 1)),.glob gM])),.not (.val (.call kR [.idx (.var 1) (.cnst (.int 2))]))]) [.ret (.cnst (.bool false))] [],
 .ite (.all false [.not (.val (.call kW [.idx (.var 1) (.cnst (.int 3))])),.not (.val (.cmp (.cnst (.int 0)) [.LtE,.Lt] [.idx (.var 1) (.cnst (.int 3)),.var 0]))]) [.ret (.cnst (.bool false))] [],
 .ite (.val (.cmp (.idx (.var 1) (.cnst (.int 0))) [.Eq] [.cnst (.str (Str.ofString "say"))])) [
  .ret (.cmp (.idx (.var 1) (.cnst (.int 3))) [.Eq] [.call kC [.var 0,.idx (.var 1) (.cnst (.int 1))]])] [],
 .ret (.cmp (.idx (.var 1) (.cnst (.int 0))) [.Eq] [.cnst (.str (Str.ofString "mark"))])]
theorem cH6{c:Int}(hc:0 < c)(h0:0 <= h)(h1:h < c):(h == i % c)=((i - h) % c == 0):=by
 rw[Bool.eq_iff_iff,beq_iff_eq,beq_iff_eq]
 constructor
 ·rintro z71;rw[z71]
  rw[<- Int.emod_emod_of_dvd _ (Int.dvd_refl c)];have:=Int.emod_emod_of_dvd i (Int.dvd_refl c);rw[Int.sub_emod,this,Int.sub_self,Int.zero_emod]at ⊢;rfl
 ·intro q
  have e:=Int.emod_add_mul_ediv (i - h) c;have e2:i=h+c * ((i - h) / c):=by rw[q,Int.zero_add]at e;rw[e,Int.add_comm,Int.sub_add_cancel]
  rw[e2,Int.add_mul_emod_self_left,Int.emod_eq_of_lt h0 h1]
theorem bI(h:cJ S k 1 1 fN)(n:Nat)(i:Int):run S (n+1) k [.int i] m=.ok (.bool true) m:=
 d8 (bL h rfl (a9 (aC rfl ⟨rfl,rfl⟩)))
theorem aC8{kW gM:Nat}{gn:Str}(h:cJ S k 1 1 (bI7 kW gM c))(hW:cJ S kW 1 1 fN)(hM:S.globs[gM]?=some (gn,.int 12))(n:Nat){i:Int}(h1:1 <= i)(h2:i <= 12):run S (n+2) k [.int i] m=.ok .none m:=by
 have e:=cO (aT (bF2 (S:=S) (F:=run S (n+1)) (r:=[some (.int i)]) (m:=m) (a:=.cnst (.int 1)) (b:=.var 0) (o:=.LtE) (o':=.LtE) (t:=decide (1 <= i)) (u:=decide (i <= 12)) rfl rfl (bF1 hM) rfl rfl));rw[decide_eq_true h1,decide_eq_true h2]at e;exact d8 (bL h rfl (bJ (t:=false) (cX (bE (x:=false) (cO (aT (bB rfl (bI hW n i)))) (bE (x:=false) e dJ))) (cS ⟨rfl,rfl⟩)))
theorem bE8{gL gM:Nat}{n1 n2:Str}(h:cJ S k 1 2 (aH1 gL gM))(hL:S.globs[gL]?=some (n1,.str letterS))(hM:S.globs[gM]?=some (n2,.int 8))(n:Nat){s:Str}(hr:bN1 (.str s)=true):run S (n+1) k [.str s] m=.ok (.bool true) m:=by
 have hr:(dD1 s&&s.cps.toList.all okC)=true:=hr;refine e0a2 (Bool.and_eq_true_iff.mp hr) λh1 h2=>?_;have h8:s.length <= lid:=by
  have:=of_decide_eq_true (Bool.and_eq_true_iff.mp h1).2;exact Nat.le_trans (Int.ofNat_le.mp this) (by decide)
 have e:=cO (aT (bF2 (S:=S) (F:=run S n) (r:=[some (.str s),Option.none]) (m:=m) (a:=.cnst (.int 1)) (b:=.bi .len [.var 0]) (o:=.LtE) (o':=.LtE) (t:=decide ((1:Int) <= (s.length:Int))) (u:=decide ((s.length:Int) <= 8)) rfl (dH4 rfl h8) (bF1 hM) rfl rfl));rw[show(decide ((1:Int) <= (s.length:Int))&&decide ((s.length:Int) <= 8))=true from h1]at e;refine d8 (bL h rfl (bJ (t:=false) (cX (bE (x:=false) rfl (bE (x:=false) e dJ))) ?_));refine eR s.cps.toList ch (λzs r m'=>m'=m /\ (∃u,r=[some (.str s),u]) /\ zs.all okC=true) (aC rfl (aC rfl ⟨rfl,⟨rfl,⟨_,rfl⟩,h2⟩,λy_ y_ y_ y_=>rfl,?_,?_⟩))
 ·rintro c zs r m' ⟨z71,⟨u,z72⟩,e⟩;rw[z71,z72]
  refine e0a2 (Bool.and_eq_true_iff.mp e) λq1 q2=>?_;refine aC rfl (bJ (t:=!okC c) (aT (aR rfl (bF1 hL) rfl)) ?_);rw[q1];exact cS ⟨rfl,⟨_,rfl⟩,q2⟩
 ·intro r m' q
  exact a9 (aC rfl ⟨rfl,q.1⟩)
theorem bU1{c:CE}{x y:Int}(ha:ev S F a r m=.ok (.int x) m)(hc:ev S F c r m=.ok (.int y) m)(h0:0 <= x)(h1:x < y):evT S F (.not (.val (.cmp (.cnst (Lt.int 0)) [.LtE,.Lt] [a,c]))) r m=.ok false m:=by
 have:=cO (aT (bF2 (S:=S) (F:=F) (r:=r) (m:=m) (a:=.cnst (Lt.int 0)) (o:=.LtE) (o':=.Lt) (t:=decide (0 <= x)) (u:=decide (x < y)) rfl ha hc rfl rfl));rw[decide_eq_true h0,decide_eq_true h1]at this;exact this
theorem bN8{kN kW kR kC gN gM gL gS cB:Nat}{n1 n2 n3 n4:Str}(h:cJ S k 2 2 (aL1 kN kW kR kC gM))(hN:cJ S kN 1 1 (bI7 kW gN cB))(hW:cJ S kW 1 1 fN)(hR:cJ S kR 1 2 (aH1 gL gS))(hC:cJ S kC 2 2 aH2)(gn:S.globs[gN]?=some (n1,.int 12))(gm:S.globs[gM]?=some (n2,.int 9999))(gl:S.globs[gL]?=some (n3,.str letterS))(gs:S.globs[gS]?=some (n4,.int 8))(n:Nat){c i y:Int}{s r:Str}(h1:1 <= c)(h2:c <= 12)(hk:s=aC4 \/ s=aF6)(i0:0 <= i)(i1:i <= 9999)(hr:bN1 (.str r)=true)(y0:0 <= y)(y1:y < c)(hc:s=aC4->(i - y) % c=0):run S (n+3) k [.int c,.tup [.str s,.int i,.str r,.int y]] m=.ok (.bool true) m:=by
 have e:=cO (aT (bF2 (S:=S) (F:=run S (n+2)) (r:=[some (.int c),some (.tup [.str s,.int i,.str r,.int y])]) (m:=m) (a:=.cnst (.int 0)) (b:=.idx (.var 1) (.cnst (.int 1))) (o:=.LtE) (o':=.LtE) (t:=decide (0 <= i)) (u:=decide (i <= 9999)) rfl rfl (bF1 gm) rfl rfl));rw[decide_eq_true i0,decide_eq_true i1]at e;refine d8 (bL h rfl (eC (aG (bB rfl (aC8 hN hW gn n h1 h2)) (bJ (t:=false) (cX (bE (x:=false) rfl (bE (x:=false) rfl (bE (x:=false) rfl dJ))))
  (bJ (t:=false) (cX (bE (x:=false) (cO (aT (bB rfl (bI hW _ i)))) (bE (x:=false) e (bE (x:=false) (cO (aT (bB rfl (bE8 hR gl gs _ hr)))) dJ))))
  (bJ (t:=false) (cX (bE (x:=false) (cO (aT (bB rfl (bI hW _ y)))) (bE (x:=false) (bU1 rfl rfl y0 y1) dJ)))
  (bJ (t:=s == aC4) (aT (aR rfl rfl rfl)) ?_)))))))
 rcases hk with rfl | rfl
 ·refine a9 (aG (aR (t:=y == i % c) rfl (aB0 rfl (cA3 hC _ c i (Int.lt_of_lt_of_le (by decide) h1))) rfl) ⟨?_,rfl⟩)
  rw[cH6 (Int.lt_of_lt_of_le (by decide) h1) y0 y1,hc rfl];rfl
 ·rw[show(aF6 == aC4)=false by decide +kernel]
  exact a9 (aG (aR (t:=aF6 == aF6) rfl rfl rfl) ⟨by rw[beq_self_eq_true],rfl⟩)
end Mini.Internal
variable{a:MH}
namespace Mini.Internal
open PySem
noncomputable def Mod(T:List Nat)(m m':MH):Prop:=m.length <= m'.length /\ ∀p,p < m.length->p∉T->m'[p]?=m[p]?
theorem Mod.refl(T:List Nat)(m:MH):Mod T m m:=⟨Nat.le_refl _,λy_ y_ y_=>rfl⟩
theorem Mod.trans{c:MH}(h:Mod T a b)(k:Mod T b c):Mod T a c:=⟨Nat.le_trans h.1 k.1,λp q z=>(k.2 p (Nat.lt_of_lt_of_le q h.1) z).trans (h.2 p q z)⟩
theorem Mod.mono{T':List Nat}(h:Mod T a b)(s:∀x∈T,x∈T'):Mod T' a b:=⟨h.1,λp q z=>h.2 p q λy=>z (s p y)⟩
theorem Le.mod(h:Le a b):Mod T a b:=⟨h.1,λp q y_=>h.2 p q⟩
theorem Mod.has(h:Mod T m m'){p:Nat}{o:MObj}(k:m[p]?=some o)(z:p∉T):m'[p]?=some o:=by
 rw[h.2 p (aS k) z,k]
theorem Mod.set(h:p∈T):Mod T m (m.set p o):=
 ⟨by rw[List.length_set];exact Nat.le_refl _,λq y_ z=>by rw[List.getElem?_set_ne];rintro rfl;exact z h⟩
section
theorem dC0{v:V}(h:m[p]?=some (.inst c fs))(hv:aL7 k fs=some v):aD2 (.ref p) k m=.ok v m:=by
 unfold aD2;dsimp only;rw[h];dsimp only;rw[hv];rfl
theorem aP{a:CE}{v:V}(ha:ev S F a r m=.ok (.ref p) m)(h:m[p]?=some (.inst c fs))(hv:aL7 k fs=some v):ev S F (.attr a k) r m=.ok v m:=by
 show Res.bind (ev S F a r m) _=_;rw[ha];exact dC0 h hv
theorem bN{o:CE}{as:List CE}(h:Wp (ev S F o r) m (λx m'=>∃p c fs d j,x=.ref p /\ m'[p]?=some (.inst c fs) /\ S.cls[c]?=some d /\ aL7 k fs=none /\ d.meths.lookup k=some j /\ Wp (evs S F as r) m' (λvs m''=>Wp (F j (.ref p::vs)) m'' Q E) E) E):Wp (ev S F (.meth o k as) r) m Q E:=by
 refine aJ (x:=ev S F o r) (wp_mono h (λx m' q=>?_) λy_ y_ q=>q);obtain⟨p,c,fs,d,j,z71,h1,h2,h3,h4,q⟩:=q;rw[z71];have em:fT S k (.ref p) m'=.ok j m':=by unfold fT;dsimp only;rw[h1];dsimp only;rw[h2];dsimp only;rw[h3];dsimp only;rw[h4];rfl
 exact aJ (aG em (aJ (x:=evs S F as r) q))
theorem bF6{as:List CE}(h:Wp (evs S F as r) m (λvs m'=>∃d k,S.cls[c]?=some d /\ d.exc=false /\ d.init=some k /\ Wp (F k (.ref m'.length::vs)) (m'++[.inst c []]) (λu m''=>u=.none /\ Q (.ref m'.length) m'') E) E):Wp (ev S F (.new c as) r) m Q E:=by
 refine aJ (x:=evs S F as r) (wp_mono h (λvs m' q=>?_) λy_ y_ q=>q);refine e2a4 q λd k h1 h2 h3 q=>?_;unfold cW9;rw[h1];dsimp only;rw[h2,h3];refine aJ (aG (a:=.ref m'.length) (m':=m'++[.inst c []]) rfl (aJ (x:=F k (.ref m'.length::vs)) (wp_mono q (λu m'' z=>?_) λy_ y_ z=>z)));refine e0a2 z λzz1=>?_;subst zz1;intro z;exact z
variable{Q:Fl×Lo->MH->Prop}
theorem aC5{o e:CE}(h:Wp (ev S F e r) m (λv m'=>Wp (ev S F o r) m' (λx m''=>∃p c fs,x=.ref p /\ m''[p]?=some (.inst c fs) /\ Wp (exs S F ss r) (m''.set p (.inst c (e9 k v fs))) Q E) E) E):Wp (exs S F (.asg (.attr o k) e::ss) r) m Q E:=by
 refine eS (aJ (x:=ev S F e r) (wp_mono h (λv m' q=>aJ (aJ (x:=ev S F o r) (wp_mono q (λx m'' q=>?_) λy_ y_ q=>q))) λy_ y_ q=>q));obtain⟨p,c,fs,z71,h1,q⟩:=q;subst z71;refine aJ (aG (a:=()) (m':=m''.set p (.inst c (e9 k v fs))) (by unfold dX;dsimp only;rw[h1]) q)
theorem dR{o i e:CE}(h:Wp (ev S F e r) m (λv m1=>Wp (ev S F o r) m1 (λx m2=>Wp (ev S F i r) m2 (λy m3=>Wp (cE x y v) m3 (λy_ m4=>Wp (exs S F ss r) m4 Q E) E) E) E) E):Wp (exs S F (.asg (.idx o i) e::ss) r) m Q E:=by
 refine eS (aJ (x:=ev S F e r) (wp_mono h (λv m' q=>aJ (aJ (x:=ev S F o r) (wp_mono q (λx m'' q=>aJ (x:=ev S F i r) (wp_mono q (λy m3 q=>aJ (x:=cE x y v) (wp_mono q (λy_ m4 q=>q) λy_ y_ q=>q)) λy_ y_ q=>q)) λy_ y_ q=>q))) λy_ y_ q=>q))
theorem dE2{k:Int}{v:V}{Q:Unit->MH->Prop}(h:m[p]?=some (.list xs))(h0:0 <= k)(h1:k < xs.length)(q:Q () (m.set p (.list (xs.set k.toNat v)))):Wp (cE (.ref p) (.int k) v) m Q E:=by
 refine aG (a:=()) (m':=m.set p (.list (xs.set k.toNat v))) ?_ q;unfold cE;dsimp only;rw[h];dsimp only;rw[if_pos ⟨h0,h1⟩]
theorem d9{k:Ky}{v:V}{Q:Unit->MH->Prop}(h:m[p]?=some (.dict kvs e))(hk:dP y=some k)(hs:aN k kvs=true)(hl:kvs.length < lid)(q:Q () (m.set p (.dict (put k v kvs) (e+1)))):Wp (cE (.ref p) y v) m Q E:=by
 refine aG (a:=()) (m':=m.set p (.dict (put k v kvs) (e+1))) ?_ q;unfold cE;dsimp only;rw[h];dsimp only;rw[hk];dsimp only;rw[hs,decide_eq_true hl];rfl
theorem dE4{v:V}{Q:V->MH->Prop}(h:m[p]?=some (.dict kvs e))(hs:aN (.int j) kvs=true)(hl:look (.int j) kvs=some v)(q:Q v (m.set p (.dict (fL (.int j) kvs) (e+1)))):Wp (cU 1 (.ref p) .pop [.int j]) m Q E:=by
 refine aG (m':=m.set p (.dict (fL (.int j) kvs) (e+1))) ?_ q;show(match m[p]? with | some (.dict kvs e)=>aK7 p kvs e .pop [.int j] m | _=>.bad)=_;rw[h];show(if aN (.int j) kvs=true then(match look (.int j) kvs with | some v=>Res.ok v (m.set p (.dict (fL (.int j) kvs) (e+1))) | Option.none=>.bad)else .bad)=_;rw[if_pos hs,hl]
theorem eJ{v:V}{Q:V->MH->Prop}(h:m[p]?=some (.list xs))(hl:xs.length < lid)(q:Q .none (m.set p (.list (xs++[v])))):Wp (cU 0 (.ref p) .append [v]) m Q E:=by
 refine aG (m':=m.set p (.list (xs++[v]))) ?_ q;show(match m[p]? with | some (.list xs)=>bK9 p xs .append [v] m | _=>.bad)=_;rw[h];show(if xs.length < lid then Res.ok V.none (m.set p (.list (xs++[v])))else .bad)=_;rw[if_pos hl]
theorem dG4(h:m[p]?=some (.dict kvs e)):smK (.ref p) m=some 1:=by unfold smK;dsimp only;rw[h]
theorem aU{k:Ky}(h:m[p]?=some (.dict kvs e))(hk:dP x=some k)(hs:aN k kvs=true):inV x (.ref p) m=.ok (look k kvs).isSome m:=by
 unfold inV;dsimp only;rw[h];dsimp only;rw[hk];dsimp only;rw[if_pos hs]
theorem bP{v:V}{k:Ky}(h:m[p]?=some (.dict kvs e))(hk:dP x=some k)(hs:aN k kvs=true)(hl:look k kvs=some v):aO6 (.ref p) x m=.ok v m:=by
 unfold aO6;dsimp only;rw[h];dsimp only;rw[hk];dsimp only;rw[if_pos hs,hl];rfl
end
end Mini.Internal
variable{a b:Nat}{x:Mn V}
namespace Mini.Internal
open PySem
structure Wo where
 k:Str
 n:Int
 r:Str
 h:Int
 deriving DecidableEq
noncomputable def Wo.v(w:Wo):V:=.tup [.str w.k,.int w.n,.str w.r,.int w.h]
noncomputable def Wo.ky(w:Wo):Ky:=.tup [.inr w.k,.inl w.n,.inr w.r,.inl w.h]
theorem dE1{a b:Wo}(h:a.ky=b.ky):a=b:=by
 obtain⟨a1,a2,a3,a4⟩:=a;obtain⟨b1,b2,b3,b4⟩:=b
 cases (h);rfl
noncomputable def mrk(n:Int)(r:Str)(h:Int):Wo:=⟨aF6,n,r,h⟩
noncomputable def aB6(a b:Wo):Bool:=a.h == b.h&&a.k == b.k&&a.n == b.n&&a.r != b.r
noncomputable def kD(l:List Wo):List (Ky×V):=l.map λw=>(w.ky,.bool true)
noncomputable def iD(l:List Int):List (Ky×V):=l.map λi=>(.int i,.bool true)
noncomputable def aB4(w:Wo)(l:List Wo):List Wo:=if w∈l then l else l++[w]
theorem dF(l:List Wo)(w:Wo):aN w.ky (kD l)=true:=by
 unfold aN kD;rw[List.all_map,List.all_eq_true];intro _ _;rfl
theorem fE(l:List Int)(k:Int):aN (.int k) (iD l)=true:=by
 unfold aN iD;rw[List.all_map,List.all_eq_true];intro _ _;rfl
theorem aR7(w:Wo):∀l:List Wo,(look w.ky (kD l)).isSome=decide (w∈l)
 |[]=>by simp[kD,look]
 |a::l=>by
  show(if a.ky=w.ky then some (V.bool true)else look w.ky (kD l)).isSome=_;by_cases z:a=w
  ·subst z;rw[if_pos rfl];simp
  ·rw[if_neg λc=>z (dE1 c),aR7 w l]
   have:w≠a:=λc=>z c.symm;simp[this]
theorem aV0(w:Wo):∀l:List Wo,put w.ky (.bool true) (kD l)=kD (aB4 w l)
 |[]=>by simp[kD,put,aB4]
 |a::l=>by
  show(if a.ky=w.ky then(a.ky,V.bool true)::kD l else(a.ky,V.bool true)::put w.ky (.bool true) (kD l))=_;by_cases z:a=w
  ·subst z;rw[if_pos rfl];simp[aB4,kD]
  ·rw[if_neg λc=>z (dE1 c),aV0 w l]
   have:w≠a:=λc=>z c.symm;unfold aB4;by_cases y:w∈l
   ·rw[if_pos y,if_pos (.tail _ y)];rfl
   ·rw[if_neg y,if_neg (by simp[this,y])];rfl
theorem bX0{a b:Int}(h:Ky.int a=Ky.int b):a=b:=dD2 h
noncomputable def tD{α:Type}(g:α->Int)(f:α->V)(l:List α):List (Ky×V):=l.map λx=>(.int (g x),f x)
theorem aV(g:α->Int)(f:α->V)(l:List α)(k:Int):aN (.int k) (tD g f l)=true:=by
 unfold aN tD;rw[List.all_map,List.all_eq_true];intro _ _;rfl
theorem fI(g:α->Int)(f:α->V)(k:Int):∀l:List α,look (.int k) (tD g f l)=(l.find? λx=>g x == k).map f
 |[]=>rfl
 |a::l=>by
  show(if Ky.int (g a)=Ky.int k then some (f a)else look (.int k) (tD g f l))=_;by_cases z:g a=k
  ·rw[if_pos (by rw[z]),List.find?_cons_of_pos (by simp[z])];rfl
  ·rw[if_neg λc=>z (bX0 c),List.find?_cons_of_neg (by simp[z]),fI g f k l]
theorem cP(g:α->Int)(f:α->V)(k:Int)(l:List α):(look (.int k) (tD g f l)).isSome=l.any λx=>g x == k:=by
 rw[fI,Option.isSome_map]
 induction l with
 |nil=>rfl
 |cons a l ih=>
  rw[List.any_cons];by_cases z:(g a == k)=true
  ·rw[List.find?_cons_of_pos (p:=λx=>g x == k) z,z];rfl
  ·rw[List.find?_cons_of_neg (p:=λx=>g x == k) z,ih];simp[z]
theorem aC6(g:α->Int)(f:α->V)(k:Int)(v:V):∀l:List α,(l.any λx=>g x == k)=false->put (.int k) v (tD g f l)=tD g f l++[(.int k,v)]
 |[],_=>rfl
 |a::l,h=>by
  rw[List.any_cons,Bool.or_eq_false_iff]at h;show(if Ky.int (g a)=Ky.int k then _ else(Ky.int (g a),f a)::put (.int k) v (tD g f l))=_;rw[if_neg λc=>by rw[bX0 c]at h;simp at h,aC6 g f k v l h.2];rfl
theorem cJ7(l:List Int):iD l=tD id (λy_=>.bool true) l:=rfl
structure Hs where
 cnt:Int
 own:Int
 onw:Int
 known:List Wo
 marked:List Int
 rows:List (Int×Str×List Wo)
 named:List (Int×Wo×Wo)
noncomputable def aK6(c:Int):Int:=(c+(c - 1) / 3) / 2+1
noncomputable def Hs.marking(s:Hs)(w:Wo):Hs×List Wo:=
 if w.k≠aC4 \/ w.n∈s.marked then(s,[])else({ s with marked:=s.marked++[w.n],known:=aB4 (mrk w.n w.r s.own) s.known },[mrk w.n w.r s.own])
noncomputable def Hs.marks(s:Hs)(n:Int)(r:Str):List Wo:=((List.range s.cnt.toNat).map λ(j:Nat)=>mrk n r j).filter λw=>decide (w∈s.known)
noncomputable def Hs.wrote(s:Hs)(n:Int):Bool:=s.rows.any λx=>x.1 == n
noncomputable def Hs.writing(s:Hs)(n:Int)(r:Str):Hs×List Wo:=
 if ((s.marks n r).length:Int) < aK6 s.cnt \/ s.wrote n=true then(s,[])else({ s with rows:=s.rows++[(n,r,s.marks n r)] },s.marks n r)
noncomputable def Hs.naming(s:Hs)(w:Wo)(ahead:List Wo):Hs×List Wo:=match ahead with
 |[]=>(s,[])
 |a::_=>if (s.named.any λx=>x.1 == w.h)=true then(s,[])else({ s with named:=s.named++[(w.h,a,w)] },[a,w])
noncomputable def Hs.hear(s:Hs)(w:Wo):Hs×List Wo:=
 if w∈s.known then(s,[])else
  let ahead:=s.known.filter λa=>aB6 a w
  let a:=({ s with known:=s.known++[w] }:Hs).marking w
  let b:=a.1.writing w.n w.r
  let c:=b.1.naming w ahead
  (c.1,a.2++b.2++c.2)
noncomputable def Hs.call(s:Hs)(r:Str):Hs×List Wo:=
 let w:Wo:=⟨aC4,s.onw,r,s.own⟩
 let a:=({ s with onw:=s.onw+s.cnt }:Hs).hear w
 (a.1,w::a.2)
structure Hd where
 p:Nat
 a:Nat
 b:Nat
 c:Nat
 d:Nat
 e:Nat
 f:Nat
 bs:List Nat
noncomputable def Hd.foot(D:Hd):List Nat:=[D.p,D.a,D.b,D.c,D.d,D.e,D.f]
noncomputable def Hd.all(D:Hd):List Nat:=D.foot++D.bs
noncomputable def aL4(l:List (Int×Str×List Wo)):List (Ky×V):=tD (·.1) (λx=>V.str x.2.1) l
noncomputable def bM6(l:List (Int×Nat)):List (Ky×V):=tD (·.1) (λx=>V.ref x.2) l
noncomputable def bak(s:Hs)(D:Hd):List (Int×Nat):=(s.rows.map (·.1)).zip D.bs
noncomputable def aD9(l:List (Int×Wo×Wo)):List V:=l.map λx=>.tup [.int x.1,x.2.1.v,x.2.2.v]
noncomputable def bD6(l:List (Int×Wo×Wo)):List (Ky×V):=tD (·.1) (λy_=>V.bool true) l
noncomputable def cZ5(D:Hd)(s:Hs):List (Nat×V):=[(8,.int s.cnt),(9,.int s.own),(10,.int s.onw),(11,.ref D.a),(12,.ref D.b),(13,.ref D.c),(14,.ref D.d),(15,.ref D.e),(16,.ref D.f)]
structure Ho(m:MH)(C:Nat)(D:Hd)(s:Hs):Prop where
 inst:m[D.p]?=some (.inst C (cZ5 D s))
 kn:∃e,m[D.a]?=some (.dict (kD s.known) e)
 mr:∃e,m[D.b]?=some (.dict (iD s.marked) e)
 ro:∃e,m[D.c]?=some (.dict (aL4 s.rows) e)
 ba:∃e,m[D.d]?=some (.dict (bM6 (bak s D)) e)
 na:m[D.e]?=some (.list (aD9 s.named))
 bl:∃e,m[D.f]?=some (.dict (bD6 s.named) e)
 bk:∀(i:Nat) (x:Int×Str×List Wo),s.rows[i]?=some x->∃q,D.bs[i]?=some q /\ m[q]?=some (.list (x.2.2.map Wo.v))
 len:D.bs.length=s.rows.length
 nd:D.all.Nodup
theorem Ho.mod{D:Hd}{s:Hs}(h:Ho m C D s)(l:Mod T m m')(ht:∀x∈D.all,x∉T):Ho m' C D s:=by
 have F:∀x∈D.foot,x∉T:=λx hx=>ht x (List.mem_append_left _ hx);refine⟨l.has h.inst (F _ (by simp[Hd.foot])),?_,?_,?_,?_,l.has h.na (F _ (by simp[Hd.foot])),?_,λi x e=>?_,h.len,h.nd⟩
 ·refine e1a1 h.kn λe k=>?_;exact⟨e,l.has k (F _ (by simp[Hd.foot]))⟩
 ·refine e1a1 h.mr λe k=>?_;exact⟨e,l.has k (F _ (by simp[Hd.foot]))⟩
 ·refine e1a1 h.ro λe k=>?_;exact⟨e,l.has k (F _ (by simp[Hd.foot]))⟩
 ·refine e1a1 h.ba λe k=>?_;exact⟨e,l.has k (F _ (by simp[Hd.foot]))⟩
 ·refine e1a1 h.bl λe k=>?_;exact⟨e,l.has k (F _ (by simp[Hd.foot]))⟩
 ·refine e1a2 (h.bk i x e) λq k1 k2=>?_
  exact⟨q,k1,l.has k2 (ht _ (List.mem_append_right _ (List.mem_of_getElem? k1)))⟩
theorem Ho.le{D:Hd}{s:Hs}(h:Ho m C D s)(l:Le m m'):Ho m' C D s:=h.mod (T:=[]) l.mod λy_ y_ q=>nomatch q
theorem Ho.lt{D:Hd}{s:Hs}(h:Ho m C D s):∀x∈D.all,x < m.length:=by
 intro x hx;refine e1a1 h.kn λy_ k1=>?_;refine e1a1 h.mr λy_ k2=>?_;refine e1a1 h.ro λy_ k3=>?_;refine e1a1 h.ba λy_ k4=>?_;refine e1a1 h.bl λy_ k5=>?_;rcases List.mem_append.mp hx with hx | hx
 ·simp only[Hd.foot,List.mem_cons,List.not_mem_nil,or_false]at hx
  rcases hx with rfl | rfl | rfl | rfl | rfl | rfl | rfl
  ·exact aS h.inst
  ·exact aS k1
  ·exact aS k2
  ·exact aS k3
  ·exact aS k4
  ·exact aS h.na
  ·exact aS k5
 ·refine e1a1 (List.getElem?_of_mem hx) λi hi=>?_
  have:i < s.rows.length:=by rw[<- h.len];exact(List.getElem?_eq_some_iff.mp hi).1
  refine e1a2 (h.bk i _ (List.getElem?_eq_getElem this)) λq e1 e2=>?_;rw[hi]at e1;(refine aF e1 λz1=>?_;clear e1;rw[z1]);exact aS e2
end Mini.Internal
variable{w:Wo}{s:Hs}{ws:List Wo}{D:Hd}{hs:List Hs}
namespace Mini.Internal
open PySem
theorem cH4(nd:l.Nodup){i j x y:Nat}(hi:l[i]?=some x)(hj:l[j]?=some y)(hij:i≠j):x≠y:=by
 rcases List.getElem?_eq_some_iff.mp hi with⟨h1,rfl⟩
 rcases List.getElem?_eq_some_iff.mp hj with⟨h2,rfl⟩
 have P:=List.pairwise_iff_getElem.mp nd;rcases Nat.lt_or_gt_of_ne hij with z | z
 ·exact P i j h1 h2 z
 ·exact λe=>P j i h2 h1 z e.symm
theorem n7{i:Nat}(h:k < 7):i+7≠k:=λc=>Nat.not_lt.mpr (Nat.le_add_left 7 i) (c▸h)
theorem Hd.upd(nd:D.all.Nodup){m:MH}{o':MObj}{j x:Nat}(hx:D.all[j]?=some x):∀(i q:Nat) (o:MObj),D.all[i]?=some q->i≠j->m[q]?=some o->(m.set x o')[q]?=some o:=
 λi q o hq hij k=>aQ (cH4 nd hx hq (λe=>hij e.symm)) k
theorem Ho.setP(h:Ho m C D s)(k:Int):Ho (m.set D.p (.inst C (cZ5 D { s with onw:=k }))) C D { s with onw:=k }:=by
 have F:=Hd.upd h.nd (m:=m) (o':=.inst C (cZ5 D { s with onw:=k })) (j:=0) rfl;refine⟨aZ h.inst,?_,?_,?_,?_,F 5 _ _ rfl (by decide) h.na,?_,λi x e=>?_,h.len,h.nd⟩
 ·refine e1a1 h.kn λe k=>?_;exact⟨e,F 1 _ _ rfl (by decide) k⟩
 ·refine e1a1 h.mr λe k=>?_;exact⟨e,F 2 _ _ rfl (by decide) k⟩
 ·refine e1a1 h.ro λe k=>?_;exact⟨e,F 3 _ _ rfl (by decide) k⟩
 ·refine e1a1 h.ba λe k=>?_;exact⟨e,F 4 _ _ rfl (by decide) k⟩
 ·refine e1a1 h.bl λe k=>?_;exact⟨e,F 6 _ _ rfl (by decide) k⟩
 ·refine e1a2 (h.bk i x e) λq k1 k2=>?_;exact⟨q,k1,F (i+7) _ _ k1 (n7 (by decide)) k2⟩
theorem Ho.setK(h:Ho m C D s)(l:List Wo)(e:Nat):Ho (m.set D.a (.dict (kD l) e)) C D { s with known:=l }:=by
 have F:=Hd.upd h.nd (m:=m) (o':=.dict (kD l) e) (j:=1) rfl;refine e1a1 h.kn λe0 k0=>?_;refine⟨F 0 _ _ rfl (by decide) h.inst,⟨e,aZ k0⟩,?_,?_,?_,F 5 _ _ rfl (by decide) h.na,?_,λi x e=>?_,h.len,h.nd⟩
 ·refine e1a1 h.mr λe k=>?_;exact⟨e,F 2 _ _ rfl (by decide) k⟩
 ·refine e1a1 h.ro λe k=>?_;exact⟨e,F 3 _ _ rfl (by decide) k⟩
 ·refine e1a1 h.ba λe k=>?_;exact⟨e,F 4 _ _ rfl (by decide) k⟩
 ·refine e1a1 h.bl λe k=>?_;exact⟨e,F 6 _ _ rfl (by decide) k⟩
 ·refine e1a2 (h.bk i x e) λq k1 k2=>?_;exact⟨q,k1,F (i+7) _ _ k1 (n7 (by decide)) k2⟩
theorem Ho.setM(h:Ho m C D s)(l:List Int)(e:Nat):Ho (m.set D.b (.dict (iD l) e)) C D { s with marked:=l }:=by
 have F:=Hd.upd h.nd (m:=m) (o':=.dict (iD l) e) (j:=2) rfl;refine e1a1 h.mr λe0 k0=>?_;refine⟨F 0 _ _ rfl (by decide) h.inst,?_,⟨e,aZ k0⟩,?_,?_,F 5 _ _ rfl (by decide) h.na,?_,λi x e=>?_,h.len,h.nd⟩
 ·refine e1a1 h.kn λe k=>?_;exact⟨e,F 1 _ _ rfl (by decide) k⟩
 ·refine e1a1 h.ro λe k=>?_;exact⟨e,F 3 _ _ rfl (by decide) k⟩
 ·refine e1a1 h.ba λe k=>?_;exact⟨e,F 4 _ _ rfl (by decide) k⟩
 ·refine e1a1 h.bl λe k=>?_;exact⟨e,F 6 _ _ rfl (by decide) k⟩
 ·refine e1a2 (h.bk i x e) λq k1 k2=>?_;exact⟨q,k1,F (i+7) _ _ k1 (n7 (by decide)) k2⟩
theorem Ho.setR(h:Ho m C D s){n:Int}{r:Str}{ws:List Wo}{q e1 e2:Nat}(hq:m[q]?=some (.list (ws.map Wo.v)))(hn:q∉D.all):
  Ho ((m.set D.c (.dict (aL4 (s.rows++[(n,r,ws)])) e1)).set D.d (.dict (bM6 (bak s D++[(n,q)])) e2)) C { D with bs:=D.bs++[q] } { s with rows:=s.rows++[(n,r,ws)] }:=by
 have F1:=Hd.upd h.nd (m:=m) (o':=.dict (aL4 (s.rows++[(n,r,ws)])) e1) (j:=3) rfl;have F2:=Hd.upd h.nd (m:=m.set D.c (.dict (aL4 (s.rows++[(n,r,ws)])) e1)) (o':=.dict (bM6 (bak s D++[(n,q)])) e2) (j:=4) rfl;have F:∀(i x:Nat) (o:MObj),D.all[i]?=some x->i≠3->i≠4->m[x]?=some o->((m.set D.c (.dict (aL4 (s.rows++[(n,r,ws)])) e1)).set D.d (.dict (bM6 (bak s D++[(n,q)])) e2))[x]?=some o:=λi x o a b c d=>F2 i x o a c (F1 i x o a b d);refine e1a1 h.ro λe3 k3=>?_;refine e1a1 h.ba λe4 k4=>?_;have qc:D.c≠q:=λe=>hn (e▸List.mem_append_left _ (by simp[Hd.foot]));have qd:D.d≠q:=λe=>hn (e▸List.mem_append_left _ (by simp[Hd.foot]));have kc:(m.set D.c (.dict (aL4 (s.rows++[(n,r,ws)])) e1))[D.c]?=some (.dict (aL4 (s.rows++[(n,r,ws)])) e1):=aZ k3;have kd:=F1 4 D.d _ rfl (by decide) k4;have eb:bak { s with rows:=s.rows++[(n,r,ws)] } { D with bs:=D.bs++[q] }=bak s D++[(n,q)]:=by
  unfold bak;rw[List.map_append];exact List.zip_append (by rw[List.length_map,h.len])
 refine⟨F 0 _ _ rfl (by decide) (by decide) h.inst,?_,?_,⟨e1,F2 3 _ _ rfl (by decide) kc⟩,⟨e2,?_⟩,F 5 _ _ rfl (by decide) (by decide) h.na,?_,λi x e=>?_,?_,?_⟩
 ·refine e1a1 h.kn λe k=>?_;exact⟨e,F 1 _ _ rfl (by decide) (by decide) k⟩
 ·refine e1a1 h.mr λe k=>?_;exact⟨e,F 2 _ _ rfl (by decide) (by decide) k⟩
 ·rw[eb];exact aZ kd
 ·refine e1a1 h.bl λe k=>?_;exact⟨e,F 6 _ _ rfl (by decide) (by decide) k⟩
 ·rcases Nat.lt_or_ge i s.rows.length with z | z
  ·have e:s.rows[i]?=some x:=by rw[<- e];exact(List.getElem?_append_left z).symm
   refine e1a2 (h.bk i x e) λy k1 k2=>?_;exact⟨y,by rw[<- k1];exact List.getElem?_append_left (by rw[h.len];exact z),F (i+7) _ _ k1 (n7 (by decide)) (n7 (by decide)) k2⟩
  ·have e:(s.rows++[(n,r,ws)])[i]?=some x:=e
   rw[List.getElem?_append_right z]at e;have hi:i=s.rows.length:=by
    cases w:i - s.rows.length with
    |zero=>exact Nat.le_antisymm (Nat.le_of_sub_eq_zero w) z
    |succ j=>rw[w]at e;injection e
   subst hi;rw[Nat.sub_self]at e
   (refine aF e λz1=>?_;clear e;rw[<- z1])
   refine⟨q,?_,aQ qd (aQ qc hq)⟩;show(D.bs++[q])[s.rows.length]?=some q;rw[<- h.len];simp
 ·show(D.bs++[q]).length=(s.rows++[(n,r,ws)]).length
  rw[List.length_append,List.length_append,h.len];rfl
 ·show(D.foot++(D.bs++[q])).Nodup
  rw[<- List.append_assoc];refine List.nodup_append.mpr ⟨h.nd,List.nodup_cons.mpr ⟨List.not_mem_nil,List.nodup_nil⟩,λa ha b hb=>?_⟩;rw[List.mem_singleton.mp hb];rintro rfl;exact hn ha
theorem Ho.setN(h:Ho m C D s){x:Int×Wo×Wo}{e1:Nat}:Ho ((m.set D.f (.dict (bD6 (s.named++[x])) e1)).set D.e (.list (aD9 (s.named++[x])))) C D { s with named:=s.named++[x] }:=by
 have F1:=Hd.upd h.nd (m:=m) (o':=.dict (bD6 (s.named++[x])) e1) (j:=6) rfl;have F2:=Hd.upd h.nd (m:=m.set D.f (.dict (bD6 (s.named++[x])) e1)) (o':=.list (aD9 (s.named++[x]))) (j:=5) rfl;have F:∀(i y:Nat) (o:MObj),D.all[i]?=some y->i≠6->i≠5->m[y]?=some o->((m.set D.f (.dict (bD6 (s.named++[x])) e1)).set D.e (.list (aD9 (s.named++[x]))))[y]?=some o:=λi x o a b c d=>F2 i x o a c (F1 i x o a b d);refine e1a1 h.bl λe3 k3=>?_;have kf:(m.set D.f (.dict (bD6 (s.named++[x])) e1))[D.f]?=some (.dict (bD6 (s.named++[x])) e1):=aZ k3;have ke:=F1 5 D.e _ rfl (by decide) h.na;refine⟨F 0 _ _ rfl (by decide) (by decide) h.inst,?_,?_,?_,?_,aZ ke,⟨e1,F2 6 _ _ rfl (by decide) kf⟩,λi x e=>?_,h.len,h.nd⟩
 ·refine e1a1 h.kn λe k=>?_;exact⟨e,F 1 _ _ rfl (by decide) (by decide) k⟩
 ·refine e1a1 h.mr λe k=>?_;exact⟨e,F 2 _ _ rfl (by decide) (by decide) k⟩
 ·refine e1a1 h.ro λe k=>?_;exact⟨e,F 3 _ _ rfl (by decide) (by decide) k⟩
 ·refine e1a1 h.ba λe k=>?_;exact⟨e,F 4 _ _ rfl (by decide) (by decide) k⟩
 ·refine e1a2 (h.bk i x e) λq k1 k2=>?_;exact⟨q,k1,F (i+7) _ _ k1 (n7 (by decide)) (n7 (by decide)) k2⟩
end Mini.Internal
variable{l:List (Int×Str×List Wo)}
namespace Mini.Internal
open PySem
structure HN where
 C:Nat
 kW:Nat
 kN:Nat
 kM:Nat
 kE:Nat
 kR:Nat
 kU:Nat
 ki:Nat
 cC:Nat
 cH:Nat
 cR:Nat
 cN:Nat
 gM:Nat
 gL:Nat
 gS:Nat
noncomputable def cQ1(kN:Nat):List CS:=[.exp (.call kN [.var 0]),.ret (.bin .FloorDiv (.bin .Sub (.var 0) (.cnst (.int 1))) (.cnst (.int 3)))]
noncomputable def bJ1(kN kM:Nat):List CS:=[.exp (.call kN [.var 0]),.ret (.bin .Add (.bin .FloorDiv (.bin .Add (.var 0) (.call kM [.var 0])) (.cnst (.int 2))) (.cnst (.int 1)))]
noncomputable def bI3:List CS:=[
 (.ret (.boolop true [(.cmp (.idx (.var 0) (.cnst (Lt.int 3))) [.Eq] [(.idx (.var 1) (.cnst (Lt.int 3)))]),(.cmp (.idx (.var 0) (.cnst (Lt.int 0))) [.Eq] [(.idx (.var 1) (.cnst (Lt.int 0)))]),(.cmp (.idx (.var 0) (.cnst (Lt.int 1))) [.Eq] [(.idx (.var 1) (.cnst (Lt.int 1)))]),(.cmp (.idx (.var 0) (.cnst (Lt.int 2))) [.NotEq] [(.idx (.var 1) (.cnst (Lt.int 2)))])]))]
noncomputable def cB5(kN kW cH:Nat):List CS:=[
 (.exp (.call kN [(.var 1)])),
 (.ite (.all false [(.not (.val (.call kW [(.var 2)]))),(.not (.val (.cmp (.cnst (Lt.int 0)) [.LtE,.Lt] [(.var 2),(.var 1)])))]) [
  (.rse cH (Str.ofString "no house of the town"))] []),
 (.asg (.attr (.var 0) 8) (.var 1)),
 (.asg (.attr (.var 0) 9) (.var 2)),
 (.asg (.attr (.var 0) 10) (.var 2)),
 (.asg (.attr (.var 0) 11) (.dict [] [])),
 (.asg (.attr (.var 0) 12) (.dict [] [])),
 (.asg (.attr (.var 0) 13) (.dict [] [])),
 (.asg (.attr (.var 0) 14) (.dict [] [])),
 (.asg (.attr (.var 0) 15) (.list [])),
 (.asg (.attr (.var 0) 16) (.dict [] []))]
noncomputable def cQ3(kR cR:Nat):List CS:=[
 (.ite (.not (.val (.call kR [(.var 1)]))) [
  (.rse cR (Str.ofString "no row"))] []),
 (.asg (.one (.one 2)) (.tup [(.cnst (Lt.str (Str.ofString "say"))),(.attr (.var 0) 10),(.var 1),(.attr (.var 0) 9)])),
 (.asg (.attr (.var 0) 10) (.bin .Add (.attr (.var 0) 10) (.attr (.var 0) 8))),
 (.ret (.bin .Add (.list [(.var 2)]) (.meth (.var 0) 1 [(.var 2)])))]
noncomputable def cQ2(kU:Nat):List CS:=[
 (.ite (.val (.cmp (.var 1) [.In] [(.attr (.var 0) 11)])) [
  (.ret (.list []))] []),
 (.asg (.one (.one 2)) (.comp (.var 3) (.one 3) 1 .expr [(.attr (.var 0) 11)] [(.val (.call kU [(.var 3),(.var 1)]))])),
 (.asg (.idx (.attr (.var 0) 11) (.var 1)) (.cnst (Lt.bool true))),
 (.ret (.bin .Add (.bin .Add (.meth (.var 0) 2 [(.var 1)]) (.meth (.var 0) 3 [(.idx (.var 1) (.cnst (Lt.int 1))),(.idx (.var 1) (.cnst (Lt.int 2)))])) (.meth (.var 0) 4 [(.var 1),(.var 2)])))]
noncomputable def aZ1:List CS:=[
 (.ite (.all false [(.val (.cmp (.idx (.var 1) (.cnst (Lt.int 0))) [.NotEq] [(.cnst (Lt.str (Str.ofString "say")))])),(.val (.cmp (.idx (.var 1) (.cnst (Lt.int 1))) [.In] [(.attr (.var 0) 12)]))]) [
  (.ret (.list []))] []),
 (.asg (.one (.one 2)) (.tup [(.cnst (Lt.str (Str.ofString "mark"))),(.idx (.var 1) (.cnst (Lt.int 1))),(.idx (.var 1) (.cnst (Lt.int 2))),(.attr (.var 0) 9)])),
 (.asg (.idx (.attr (.var 0) 12) (.idx (.var 1) (.cnst (Lt.int 1)))) (.cnst (Lt.bool true))),
 (.asg (.idx (.attr (.var 0) 11) (.var 2)) (.cnst (Lt.bool true))),
 (.ret (.list [(.var 2)]))]
noncomputable def aY8(kE:Nat):List CS:=[
 (.asg (.one (.one 3)) (.comp (.tup [(.cnst (Lt.str (Str.ofString "mark"))),(.var 1),(.var 2),(.var 4)]) (.one 4) 1 .range [(.attr (.var 0) 8)] [])),
 (.asg (.one (.one 3)) (.comp (.var 4) (.one 4) 1 .expr [(.var 3)] [(.val (.cmp (.var 4) [.In] [(.attr (.var 0) 11)]))])),
 (.ite (.all false [(.val (.cmp (.bi .len [(.var 3)]) [.Lt] [(.call kE [(.attr (.var 0) 8)])])),(.val (.cmp (.var 1) [.In] [(.attr (.var 0) 13)]))]) [
  (.ret (.list []))] []),
 (.asg (.idx (.attr (.var 0) 13) (.var 1)) (.var 2)),
 (.asg (.idx (.attr (.var 0) 14) (.var 1)) (.var 3)),
 (.ret (.bi .list [(.var 3)]))]
noncomputable def bI8:List CS:=[
 (.ite (.all false [(.val (.cmp (.var 2) [.Eq] [(.list [])])),(.val (.cmp (.idx (.var 1) (.cnst (Lt.int 3))) [.In] [(.attr (.var 0) 16)]))]) [
  (.ret (.list []))] []),
 (.asg (.idx (.attr (.var 0) 16) (.idx (.var 1) (.cnst (Lt.int 3)))) (.cnst (Lt.bool true))),
 (.exp (.smeth (.attr (.var 0) 15) .append [(.tup [(.idx (.var 1) (.cnst (Lt.int 3))),(.idx (.var 2) (.cnst (Lt.int 0))),(.var 1)])])),
 (.ret (.list [(.idx (.var 2) (.cnst (Lt.int 0))),(.var 1)]))]
noncomputable def bI9:List CS:=[
 (.asg (.one (.one 1)) (.dict [] [])),
 (.for_ .expr (.one 2) [(.bi .sorted [(.attr (.var 0) 13)])] [
  (.asg (.idx (.var 1) (.var 2)) (.idx (.attr (.var 0) 13) (.var 2)))]),
 (.ret (.var 1))]
noncomputable def fO(kW cN:Nat):List CS:=[
 (.ite (.all false [(.not (.val (.call kW [(.var 1)]))),(.val (.cmp (.var 1) [.NotIn] [(.attr (.var 0) 13)]))]) [
  (.rse cN (Str.ofString "nothing is written there"))] []),
 (.ret (.bi .list [(.idx (.attr (.var 0) 14) (.var 1))]))]
noncomputable def bJ2:List CS:=[
 (.ret (.bi .list [(.attr (.var 0) 15)]))]
structure HF(S:Sig)(N:HN):Prop where
 W:cJ S N.kW 1 1 fN
 N_:cJ S N.kN 1 1 (bI7 N.kW N.gM N.cC)
 M:cJ S N.kM 1 1 (cQ1 N.kN)
 E:cJ S N.kE 1 1 (bJ1 N.kN N.kM)
 R:cJ S N.kR 1 2 (aH1 N.gL N.gS)
 U:cJ S N.kU 2 2 bI3
 I:cJ S N.ki 3 3 (cB5 N.kN N.kW N.cH)
 call:cJ S (N.ki+1) 2 3 (cQ3 N.kR N.cR)
 hear:cJ S (N.ki+2) 2 3 (cQ2 N.kU)
 marking:cJ S (N.ki+3) 2 3 aZ1
 writing:cJ S (N.ki+4) 3 4 (aY8 N.kE)
 naming:cJ S (N.ki+5) 3 3 bI8
 ledger:cJ S (N.ki+6) 1 3 bI9
 backing:cJ S (N.ki+7) 2 2 (fO N.kW N.cN)
 caught:cJ S (N.ki+8) 1 1 bJ2
 gM:∃nm,S.globs[N.gM]?=some (nm,.int 12)
 gL:∃nm,S.globs[N.gL]?=some (nm,.str letterS)
 gS:∃nm,S.globs[N.gS]?=some (nm,.int 8)
 cls:∃d,S.cls[N.C]?=some d /\ d.exc=false /\ d.init=some N.ki /\ ∀j,j < 8->d.meths.lookup j=some (N.ki+1+j)
section
variable{N:HN}
theorem cX0(H:HF S N)(n:Nat)(c:Int)(h1:1 <= c)(h2:c <= 12)(m:MH):run S (n+3) N.kM [.int c] m=.ok (.int ((c - 1) / 3)) m:=by
 refine e1a1 H.gM λy_ gM=>?_;have en:run S (n+2) N.kN [.int c] m=.ok .none m:=by
  exact aC8 H.N_ H.W gM n h1 h2
 refine d8 ?_;exact bL H.M rfl (eC (aG (bB rfl en) (a9 (aC rfl ⟨rfl,rfl⟩))))
theorem bZ4(H:HF S N)(n:Nat)(c:Int)(h1:1 <= c)(h2:c <= 12)(m:MH):run S (n+4) N.kE [.int c] m=.ok (.int (aK6 c)) m:=by
 refine e1a1 H.gM λy_ gM=>?_;have en:run S (n+3) N.kN [.int c] m=.ok .none m:=by
  exact aC8 H.N_ H.W gM (n+1) h1 h2
 refine d8 ?_;refine bL H.E rfl (eC (aG (bB rfl en) (a9 (aG (bU (bU (bU rfl (bB rfl (cX0 H n c h1 h2 m)) rfl) rfl rfl) rfl rfl) ⟨rfl,rfl⟩))))
theorem bQ0(H:HF S N)(n:Nat)(a b:Wo)(m:MH):run S (n+1) N.kU [a.v,b.v] m=.ok (.bool (aB6 a b)) m:=by
 refine d8 ?_;refine bL H.U rfl (a9 (aG (cG2 (x:=a.h == b.h) ?_ (cG2 (x:=a.k == b.k) ?_ (cG2 (x:=a.n == b.n) ?_ (dH2 (v:=.bool (a.r != b.r)) ?_)))) ⟨?_,rfl⟩))
 ·exact aR rfl rfl rfl
 ·exact aR rfl rfl rfl
 ·exact aR rfl rfl rfl
 ·exact aR rfl rfl rfl
 ·unfold aB6;simp[Bool.and_assoc]
noncomputable def Hd.ext(D:Hd)(l:List Nat):Hd:={ D with bs:=D.bs++l }
theorem Hd.ext_nil(D:Hd):D.ext []=D:=by unfold Hd.ext;rw[List.append_nil]
theorem Hd.ext_ext(D:Hd)(a b:List Nat):(D.ext a).ext b=D.ext (a++b):=by unfold Hd.ext;rw[List.append_assoc]
inductive Tells(m:MH)(C:Nat)(D:Hd)(x:Hs×List Wo)(u:V)(m':MH):Prop
 |mk (q:Nat) (l:List Nat) (e:u=.ref q) (k1:m'[q]?=some (.list (x.2.map Wo.v))) (k2:m.length <= q) (k3:q∉(D.ext l).all) (k4:Ho m' C (D.ext l) x.1) (k5:Mod D.foot m m') (k6:∀y∈l,m.length <= y)
theorem dD{x:Hs×List Wo}(k:m'[q]?=some (.list (x.2.map Wo.v)))(g:m.length <= q)(o:q∉D.all)(h:Ho m' C D x.1)(M:Mod D.foot m m'):Tells m C D x (.ref q) m':=
 ⟨q,[],rfl,k,g,by rw[Hd.ext_nil];exact o,by rw[Hd.ext_nil];exact h,M,λy_ q=>nomatch q⟩
theorem dC{p:Hs×List Wo}(h:Wp x m (Tells m C D p) nox)(k:∀m' q l,m'[q]?=some (.list (p.2.map Wo.v))->m.length <= q->q∉(D.ext l).all->Ho m' C (D.ext l) p.1->Mod D.foot m m'->(∀y∈l,m.length <= y)->Q (.ref q) m'):Wp x m Q E:=
 bF h λu m' z=>by
  obtain⟨q,l,e,k1,k2,k3,k4,k5,k6⟩:=z;rw[e];exact k m' q l k1 k2 k3 k4 k5 k6
theorem bK7(H:HF S N)(n:Nat)(w:Wo)(h:Ho m N.C D s)(hl:s.known.length+s.marked.length < lid):Wp (run S (n+1) (N.ki+3) [.ref D.p,w.v]) m (Tells m N.C D (s.marking w)) nox:=by
 refine e1a1 h.mr λeb kb=>?_;have hc:evT S (run S n) (.all false [(.val (.cmp (.idx (.var 1) (.cnst (Lt.int 0))) [.NotEq] [(.cnst (Lt.str (Str.ofString "say")))])),(.val (.cmp (.idx (.var 1) (.cnst (Lt.int 1))) [.In] [(.attr (.var 0) 12)]))]) [some (.ref D.p),some w.v,none] m=.ok (decide (w.k≠aC4 \/ w.n∈s.marked)) m:=by
  have e1:evT S (run S n) (.val (.cmp (.idx (.var 1) (.cnst (Lt.int 0))) [.NotEq] [(.cnst (Lt.str (Str.ofString "say")))])) [some (.ref D.p),some w.v,none] m=.ok (!(w.k == aC4)) m:=aT (aR rfl rfl rfl);have e2:evT S (run S n) (.val (.cmp (.idx (.var 1) (.cnst (Lt.int 1))) [.In] [(.attr (.var 0) 12)])) [some (.ref D.p),some w.v,none] m=.ok (decide (w.n∈s.marked)) m:=by
   refine aT (aR rfl (aP rfl h.inst rfl) ?_);show inV (.int w.n) (.ref D.b) m=_;rw[aU kb rfl (fE _ _),cJ7,cP]
   congr 1
   rw[Bool.eq_iff_iff];simp
  have:=cX (bE e1 (bE e2 dJ));rw[this]
  congr 1
  rw[Bool.eq_iff_iff];simp
 refine bL H.marking rfl (bJ hc ?_);unfold Hs.marking;by_cases z:w.k≠aC4 \/ w.n∈s.marked
 ·rw[if_pos z,decide_eq_true z]
  refine a9 (aY (aH (aK λq m' l k g=>?_)));exact dD k g (λc=>Nat.not_lt.mpr g (h.lt q c)) (h.le l) l.mod
 ·rw[if_neg z,decide_eq_false z]
  have z2:w.n∉s.marked:=λc=>z (.inr c);refine bC (aG (bT9 (bT rfl (bT rfl (bT rfl (bT (aP rfl h.inst rfl) rfl))))) ?_);refine dR (aC rfl (aG (aP rfl h.inst rfl) (aC rfl (d9 kb rfl (fE _ _) (by unfold iD;rw[List.length_map];lia) ?_))));have ep:put (.int w.n) (.bool true) (iD s.marked)=iD (s.marked++[w.n]):=by
   rw[cJ7,aC6 _ _ _ _ _ (by rw[List.any_eq_false];intro x hx;simp;rintro rfl;exact z2 hx)];unfold iD tD;rw[List.map_append];rfl
  rw[ep];have h1:=h.setM (s.marked++[w.n]) (eb+1);refine e1a1 h1.kn λea ka=>?_;refine dR (aC rfl (aG (aP rfl h1.inst rfl) (aC rfl (d9 ka (k:=(mrk w.n w.r s.own).ky) rfl (dF _ _) (by unfold kD;rw[List.length_map];show s.known.length < lid;lia) ?_))));show Wp _ (List.set _ D.a (.dict (put (mrk w.n w.r s.own).ky (.bool true) (kD s.known)) (ea+1))) _ _;rw[aV0];have h2:=h1.setK (aB4 (mrk w.n w.r s.own) s.known) (ea+1);refine a9 (aY (aE (aC rfl (aH (aK λq m' l k g=>?_)))));have g':m.length <= q:=by simpa using g
  refine dD k g' (λc=>Nat.not_lt.mpr g' (h.lt q c)) (h2.le l) ?_;exact((Mod.set (by simp[Hd.foot])).trans (Mod.set (by simp[Hd.foot]))).trans l.mod
end
section
variable{N:HN}
theorem dU{x y:Mn α}{Q:α->MH->Prop}(h:x m=y m)(k:Wp y m Q E):Wp x m Q E:=by unfold Wp at k ⊢;rw[h];exact k
theorem Ho.out(h:Ho m C D s){q:Nat}(hq:m.length <= q):q∉D.all:=λc=>Nat.not_lt.mpr hq (h.lt q c)
theorem aC7(h:q∉D.all):q∉D.foot:=λc=>h (List.mem_append_left _ c)
theorem aV9(s:Hs)(x:Int)(r:Str):(s.marks x r).length <= s.cnt.toNat:=by
 exact Nat.le_trans (List.length_filter_le _ _) (by rw[List.length_map,List.length_range];exact Nat.le_refl _)
theorem bJ7(H:HF S N)(n:Nat)(x:Int)(r:Str)(h:Ho m N.C D s)(h1:1 <= s.cnt)(h2:s.cnt <= 12)(hl:s.rows.length < lid):Wp (run S (n+5) (N.ki+4) [.ref D.p,.int x,.str r]) m (Tells m N.C D (s.writing x r)) nox:=by
 have hcn:s.cnt.toNat <= 12:=dB h2;refine bL H.writing rfl (bC (bF7 (List.range s.cnt.toNat) (λ(j:Nat)=>V.int (0+(j:Int))) (λ(j:Nat)=>(mrk x r j).v) (λm'=>m'=m) (aE (aG (aP rfl h.inst rfl) (aH (aG (aL8 (Nat.lt_of_lt_of_le (aF2 (c:=13) (Int.le_trans (by decide) h1) (Int.lt_of_le_of_lt h2 (by decide:(12:Int) < 13)) (by decide)) (by decide))) ⟨rfl,rfl,λy_ y_=>rfl,?_,?_,?_⟩))))))
 ·intro j hj m' em
  rw[em];refine aC rfl (aC rfl ⟨?_,rfl⟩);show V.tup [_,_,_,.int (0+(j:Int))]=_;rw[Int.zero_add];rfl
 ·rw[List.length_range];exact Nat.le_trans hcn (by decide)
 ·intro q1 m1' m1 em l1 k1 g1
  rw[em]at l1 g1;clear em m1';have ha:=h.le l1;refine e1a1 ha.kn λea ka=>?_;have k1:m1[q1]?=some (.list (((List.range s.cnt.toNat).map λ(j:Nat)=>mrk x r j).map Wo.v)):=by rw[List.map_map];exact k1
  refine bC (aD7 ((List.range s.cnt.toNat).map λ(j:Nat)=>mrk x r j) Wo.v Wo.v (λw=>decide (w∈s.known)) (λm'=>m'=m1) (aE (aC rfl (aH (fA (m:=m1) (p:=q1) (xs:=((List.range s.cnt.toNat).map λ(j:Nat)=>mrk x r j).map Wo.v) k1 ⟨rfl,rfl,?_,?_,?_,?_⟩)))))
  ·intro m' em;rw[em];exact dE k1
  ·intro w hw m' em
   rw[em];refine aC rfl (aE2 (aG (aT (aR (t:=decide (w∈s.known)) rfl (aP rfl ha.inst rfl) ?_)) ⟨rfl,?_⟩))
   ·show inV w.v (.ref D.a) m1=_
    rw[aU ka (k:=w.ky) rfl (dF _ _),aR7]
   ·cases decide (w∈s.known)with
    |true=>exact dQ (aC (m':=m1) (a:=w.v) rfl ⟨rfl,rfl⟩)
    |false=>rfl
  ·rw[List.length_map,List.length_range];exact Nat.le_trans hcn (by decide)
  ·intro q2 m2' m2 em l2 k2 g2
   rw[em]at l2 g2;clear em m2';have k2:m2[q2]?=some (.list ((s.marks x r).map Wo.v)):=k2;have hb:=ha.le l2;have qo:q2∉D.all:=ha.out g2;refine e1a1 hb.ro λec kc=>?_;refine e1a1 hb.ba λed kd=>?_;have ml:=aV9 s x r;have hc:evT S (run S (n+4)) (.all false [(.val (.cmp (.bi .len [(.var 3)]) [.Lt] [(.call N.kE [(.attr (.var 0) 8)])])),(.val (.cmp (.var 1) [.In] [(.attr (.var 0) 13)]))]) [some (.ref D.p),some (.int x),some (.str r),some (.ref q2)] m2=.ok (decide (((s.marks x r).length:Int) < aK6 s.cnt \/ s.wrote x=true)) m2:=by
    have e1:evT S (run S (n+4)) (.val (.cmp (.bi .len [(.var 3)]) [.Lt] [(.call N.kE [(.attr (.var 0) 8)])])) [some (.ref D.p),some (.int x),some (.str r),some (.ref q2)] m2=.ok (decide (((s.marks x r).length:Int) < aK6 s.cnt)) m2:=by
     refine aT (aR (x:=.int (s.marks x r).length) ?_ (bB (aP rfl hb.inst rfl) (bZ4 H n s.cnt h1 h2 m2)) rfl);show biV .len [.ref q2] m2=_;unfold biV;dsimp only;rw[k2];dsimp only;rw[List.length_map]
    have e2:evT S (run S (n+4)) (.val (.cmp (.var 1) [.In] [(.attr (.var 0) 13)])) [some (.ref D.p),some (.int x),some (.str r),some (.ref q2)] m2=.ok (s.wrote x) m2:=by
     refine aT (aR rfl (aP rfl hb.inst rfl) ?_);show inV (.int x) (.ref D.c) m2=_;rw[aU kc rfl (aV _ _ _ _),aL4,cP];rfl
    rw[cX (bE e1 (bE e2 dJ))]
    congr 1
    rw[Bool.eq_iff_iff];simp
   refine bJ hc ?_;unfold Hs.writing;by_cases z:((s.marks x r).length:Int) < aK6 s.cnt \/ s.wrote x=true
   ·rw[if_pos z,decide_eq_true z]
    refine a9 (aY (aH (aK λq m' l k g=>?_)));have g3:m.length <= q:=Nat.le_trans l1.1 (Nat.le_trans l2.1 g);exact dD k g3 (h.out g3) (hb.le l) ((l1.trans (l2.trans l)).mod)
   ·rw[if_neg z,decide_eq_false z]
    have zw:s.wrote x=false:=by cases w:s.wrote x with | true=>exact absurd (.inr w) z | false=>rfl
    refine dR (aC rfl (aG (aP rfl hb.inst rfl) (aC rfl (d9 kc rfl (aV _ _ _ _) (by unfold aL4 tD;rw[List.length_map];exact hl) ?_))));have ep:put (.int x) (.str r) (aL4 s.rows)=aL4 (s.rows++[(x,r,s.marks x r)]):=by
     unfold aL4;rw[aC6 _ _ _ _ _ zw];unfold tD;rw[List.map_append];rfl
    rw[ep];have F:=Hd.upd hb.nd (m:=m2) (o':=.dict (aL4 (s.rows++[(x,r,s.marks x r)])) (ec+1)) (j:=3) rfl;have kd':=F 4 _ _ rfl (by decide) kd;have ki':=F 0 _ _ rfl (by decide) hb.inst;have zb:((bak s D).any λy=>y.1 == x)=false:=by
     rw[List.any_eq_false];intro y hy;have:y.1∈s.rows.map (·.1):=(List.of_mem_zip (a:=y.1) (b:=y.2) hy).1;refine e1a2 (List.mem_map.mp this) λt ht e=>?_;have:=List.any_eq_false.mp zw t ht;rw[<- e];exact this
    refine dR (aC rfl (aG (aP rfl ki' rfl) (aC rfl (d9 kd' rfl (aV _ _ _ _) (by unfold bM6 tD;rw[List.length_map];unfold bak;rw[List.length_zip,List.length_map,h.len,Nat.min_self];exact hl) ?_))));have ep2:put (.int x) (.ref q2) (bM6 (bak s D))=bM6 (bak s D++[(x,q2)]):=by
     unfold bM6;rw[aC6 _ _ _ _ _ zb];unfold tD;rw[List.map_append];rfl
    rw[ep2];have h3:=hb.setR (n:=x) (r:=r) (e1:=ec+1) (e2:=ed+1) k2 qo;have k3:((m2.set D.c (.dict (aL4 (s.rows++[(x,r,s.marks x r)])) (ec+1))).set D.d (.dict (bM6 (bak s D++[(x,q2)])) (ed+1)))[q2]?=some (.list ((s.marks x r).map Wo.v)):=
     aQ (λe=>qo (e▸List.mem_append_left _ (by simp[Hd.foot]))) (aQ (λe=>qo (e▸List.mem_append_left _ (by simp[Hd.foot]))) k2)
    have el:biV .list [.ref q2] ((m2.set D.c (.dict (aL4 (s.rows++[(x,r,s.marks x r)])) (ec+1))).set D.d (.dict (bM6 (bak s D++[(x,q2)])) (ed+1)))=alloc (.list ((s.marks x r).map Wo.v)) ((m2.set D.c (.dict (aL4 (s.rows++[(x,r,s.marks x r)])) (ec+1))).set D.d (.dict (bM6 (bak s D++[(x,q2)])) (ed+1))):=by
     unfold biV;dsimp only;rw[k3]
    refine a9 (aF3 (aE (aC rfl (aH ?_))));refine dU el (aK λq m' l k g=>?_);have gl:m2.length <= q:=by simpa using g
    have g3:m.length <= q:=Nat.le_trans l1.1 (Nat.le_trans l2.1 gl);have q3:q2 < m2.length:=aS k2;have g4:m.length <= q2:=Nat.le_trans l1.1 g2;refine⟨q,[q2],rfl,k,g3,λc=>?_,h3.le l,?_,λy hy=>by rw[List.mem_singleton.mp hy];exact g4⟩
    ·have:=h3.lt q c
     rw[List.length_set,List.length_set]at this;exact Nat.not_lt.mpr gl this
    ·exact((l1.trans l2).mod.trans ((Mod.set (by simp[Hd.foot])).trans (Mod.set (by simp[Hd.foot])))).trans l.mod
noncomputable def Wo.d(w:Wo):PyData:=.tuple [.str w.k,.int w.n,.str w.r,.int w.h]
theorem aG5(m:MH)(f:Nat):∀l:List Wo,d7 (rd (f+2) m) (l.map Wo.v)=some (l.map Wo.d)
 |[]=>rfl
 |w::l=>aZ2 rfl (aG5 m f l)
theorem bH7(x y:PyData)(a b:List PyData):PyData.eqvAll (x::a) (y::b)=(PyData.eqv x y&&PyData.eqvAll a b):=rfl
theorem bD2(a b:Wo):PyData.eqv a.d b.d=decide (a=b):=by
 obtain⟨a1,a2,a3,a4⟩:=a;obtain⟨b1,b2,b3,b4⟩:=b;have e:PyData.eqv (Wo.d ⟨a1,a2,a3,a4⟩) (Wo.d ⟨b1,b2,b3,b4⟩)=(a1 == b1&&(a2 == b2&&(a3 == b3&&(a4 == b4&&true)))):=rfl;rw[e,Bool.eq_iff_iff,decide_eq_true_iff,Bool.and_eq_true_iff,Bool.and_eq_true_iff,Bool.and_eq_true_iff,Bool.and_true,beq_iff_eq,beq_iff_eq,beq_iff_eq,beq_iff_eq];exact⟨λ⟨p,q,r,s⟩=>by subst p q r s;rfl,λe=>by cases (e);exact⟨rfl,rfl,rfl,rfl⟩⟩
theorem aX9:∀a b:List Wo,PyData.eqvAll (a.map Wo.d) (b.map Wo.d)=decide (a=b)
 |[],[]=>rfl
 |[],_::_=>(decide_eq_false λe=>by injection e).symm
 |_::_,[]=>(decide_eq_false λe=>by injection e).symm
 |x::a,y::b=>by
  rw[List.map_cons,List.map_cons,bH7,bD2,aX9 a b,Bool.eq_iff_iff,Bool.and_eq_true_iff,decide_eq_true_iff,decide_eq_true_iff,decide_eq_true_iff];exact⟨λh=>by rw[h.1,h.2],λh=>⟨(List.cons.inj h).1,(List.cons.inj h).2⟩⟩
theorem cL1{a b:List Wo}(hp:m[p]?=some (.list (a.map Wo.v)))(hq:m[q]?=some (.list (b.map Wo.v))):eqV (.ref p) (.ref q) m=.ok (decide (a=b)) m:=by
 have r1:rd cT m (.ref p)=some (.list (a.map Wo.d)):=by
  show(match m[p]? with | some (.list xs)=>(d7 (rd 11 m) xs).map PyData.list | _=>none)=_;rw[hp];show(d7 (rd 11 m) (a.map Wo.v)).map PyData.list=_;rw[aG5 m 9 a];rfl
 have r2:rd cT m (.ref q)=some (.list (b.map Wo.d)):=by
  show(match m[q]? with | some (.list xs)=>(d7 (rd 11 m) xs).map PyData.list | _=>none)=_;rw[hq];show(d7 (rd 11 m) (b.map Wo.v)).map PyData.list=_;rw[aG5 m 9 b];rfl
 unfold eqV;rw[r1,r2];show Res.ok (PyData.eqvAll _ _) m=_;rw[aX9]
theorem bV5(H:HF S N)(n:Nat)(w:Wo){ahead:List Wo}{qa:Nat}(ha:m[qa]?=some (.list (ahead.map Wo.v)))(hq:qa∉D.all)(h:Ho m N.C D s)(hl:s.named.length < lid):Wp (run S (n+1) (N.ki+5) [.ref D.p,w.v,.ref qa]) m (Tells m N.C D (s.naming w ahead)) nox:=by
 refine bL H.naming rfl (aA9 (aE7 (bH (eF (eU (aC rfl (aY (aH (aK λq0 m0 l0 k0 g0=>?_)))))))));have ha0:=l0.has ha;have e0:aF0 .Eq (.ref qa) (.ref q0) m0=.ok (decide (ahead=[])) m0:=cL1 ha0 (b:=[]) k0;refine aG e0 (aC rfl ?_);have h0:=h.le l0;refine e1a1 h0.bl λef kf=>?_
 cases ahead with
 |nil=>
  rw[show decide (([]:List Wo)=[])=true from by simp];refine fM ?_;refine a9 (aY (aH (aK λq m' l k g=>?_)));have g3:m.length <= q:=Nat.le_trans l0.1 g;exact dD k g3 (h.out g3) (h0.le l) ((l0.trans l).mod)
 |cons a as=>
  have e2:evT S (run S n) (.val (.cmp (.idx (.var 1) (.cnst (Lt.int 3))) [.In] [(.attr (.var 0) 16)])) [some (.ref D.p),some w.v,some (.ref qa)] m0=.ok (s.named.any λx=>x.1 == w.h) m0:=by
   refine aT (aR rfl (aP rfl h0.inst rfl) ?_);show inV (.int w.h) (.ref D.f) m0=_;rw[aU kf rfl (aV _ _ _ _),bD6,cP]
  rw[show decide (a::as=[])=false from by simp];refine dQ ?_;refine aG (bE e2 dJ) ?_;rw[Bool.or_false];unfold Hs.naming;dsimp only
  cases z:s.named.any λx=>x.1 == w.h with
  |true=>
   show Wp _ m0 _ _;refine a9 (aY (aH (aK λq m' l k g=>?_)));have g3:m.length <= q:=Nat.le_trans l0.1 g;exact dD k g3 (h.out g3) (h0.le l) ((l0.trans l).mod)
  |false=>
   show Wp _ m0 _ _;rw[if_neg Bool.false_ne_true];refine dR (aC rfl (aG (aP rfl h0.inst rfl) (aC rfl (d9 kf rfl (aV _ _ _ _) (by unfold bD6 tD;rw[List.length_map];exact hl) ?_))));have ep:put (.int w.h) (.bool true) (bD6 s.named)=bD6 (s.named++[(w.h,a,w)]):=by
    unfold bD6;rw[aC6 _ _ _ _ _ z];unfold tD;rw[List.map_append];rfl
   rw[ep];have F:=Hd.upd h0.nd (m:=m0) (o':=.dict (bD6 (s.named++[(w.h,a,w)])) (ef+1)) (j:=6) rfl;have ki:=F 0 _ _ rfl (by decide) h0.inst;have ke:=F 5 _ _ rfl (by decide) h0.na;have qf:D.f≠qa:=λe=>hq (e▸List.mem_append_left _ (by simp[Hd.foot]));have qe:D.e≠qa:=λe=>hq (e▸List.mem_append_left _ (by simp[Hd.foot]));have ha1:=aQ (o':=.dict (bD6 (s.named++[(w.h,a,w)])) (ef+1)) qf ha0;have hi:∀(m':MH),m'[qa]?=some (.list ((a::as).map Wo.v))->aO6 (.ref qa) (.int 0) m'=.ok a.v m':=λm' k=>by
    unfold aO6;dsimp only;rw[k];rfl
   refine eC (bV (aG (aP rfl ki rfl) ⟨0,aL9 ke,rfl,aG (bT (bT9 (bT rfl (bT (dW rfl rfl (hi _ ha1)) (bT rfl rfl)))) rfl) (eJ ke (by unfold aD9;rw[List.length_map];exact hl) ?_)⟩));have en:aD9 s.named++[V.tup [.int w.h,a.v,w.v]]=aD9 (s.named++[(w.h,a,w)]):=by unfold aD9;rw[List.map_append];rfl
   rw[en];have h1:=h0.setN (x:=(w.h,a,w)) (e1:=ef+1);have ha2:=aQ (o':=.list (aD9 (s.named++[(w.h,a,w)]))) qe ha1;refine a9 (aY (aG (bT (dW rfl rfl (hi _ ha2)) (bT rfl rfl)) (aK λq m' l k g=>?_)));have gl:m0.length <= q:=by simpa using g
   have g3:m.length <= q:=Nat.le_trans l0.1 gl;refine dD k g3 (h.out g3) (h1.le l) ?_;exact(l0.mod.trans ((Mod.set (by simp[Hd.foot])).trans (Mod.set (by simp[Hd.foot])))).trans l.mod
end
noncomputable def Hs.sz(s:Hs):Nat:=s.known.length+s.marked.length+s.rows.length+s.named.length
theorem Hs.km(s:Hs):s.known.length+s.marked.length <= s.sz:=Nat.le_trans (Nat.le_add_right _ _) (Nat.le_add_right _ _)
theorem Hs.kl(s:Hs):s.known.length <= s.sz:=Nat.le_trans (Nat.le_add_right _ _) s.km
theorem Hs.rl(s:Hs):s.rows.length <= s.sz:=Nat.le_trans (Nat.le_add_left _ _) (Nat.le_add_right _ _)
theorem Hs.nl(s:Hs):s.named.length <= s.sz:=Nat.le_add_left _ _
theorem dG0{a' b' d:Nat}(h:a' <= a+k)(h2:b' <= b+1):a'+b'+c+d <= a+b+c+d+(k+1):=by
 have:=Nat.add_le_add_right (Nat.add_le_add_right (Nat.add_le_add h h2) c) d;rw[Nat.add_add_add_comm a k b 1,Nat.add_right_comm _ (k+1) c,Nat.add_right_comm _ (k+1) d]at this;exact this
theorem sum_3{d:Nat}:a+b+(c+1)+d <= a+b+c+d+1:=Nat.le_of_eq (by rw[<- Nat.add_assoc,Nat.add_right_comm _ 1 d])
theorem dG1{d:Nat}:a+1+b+c+d=a+b+c+d+1:=by rw[Nat.add_right_comm a 1 b,Nat.add_right_comm _ 1 c,Nat.add_right_comm _ 1 d]
theorem aT8(w:Wo)(l:List Wo):(aB4 w l).length <= l.length+1:=by
 unfold aB4;by_cases h:w∈l
 ·rw[if_pos h];exact Nat.le_succ _
 ·rw[if_neg h,List.length_append];exact Nat.le_refl _
theorem dM(s:Hs)(w:Wo):(s.marking w).1.cnt=s.cnt /\ (s.marking w).1.rows=s.rows /\ (s.marking w).1.named=s.named /\ (s.marking w).1.own=s.own /\ (s.marking w).1.onw=s.onw /\ (s.marking w).1.sz <= s.sz+2 /\ (s.marking w).2.length <= 1:=by
 unfold Hs.marking
 split
 ·exact⟨rfl,rfl,rfl,rfl,rfl,Nat.le_add_right _ _,Nat.zero_le _⟩
 ·refine⟨rfl,rfl,rfl,rfl,rfl,?_,Nat.le_refl _⟩
  exact dG0 (aT8 (mrk w.n w.r s.own) s.known) (Nat.le_of_eq List.length_append)
theorem aA2(s:Hs)(x:Int)(r:Str):(s.writing x r).1.cnt=s.cnt /\ (s.writing x r).1.named=s.named /\ (s.writing x r).1.own=s.own /\ (s.writing x r).1.onw=s.onw /\ (s.writing x r).1.sz <= s.sz+1 /\ (s.writing x r).2.length <= s.cnt.toNat:=by
 unfold Hs.writing
 split
 ·exact⟨rfl,rfl,rfl,rfl,Nat.le_add_right _ _,Nat.zero_le _⟩
 ·refine⟨rfl,rfl,rfl,rfl,?_,aV9 s x r⟩
  unfold Hs.sz;rw[List.length_append];exact sum_3
theorem aO3(s:Hs)(w:Wo)(l:List Wo):(s.naming w l).1.cnt=s.cnt /\ (s.naming w l).1.own=s.own /\ (s.naming w l).1.onw=s.onw /\ (s.naming w l).1.sz <= s.sz+1 /\ (s.naming w l).2.length <= 2:=by
 cases l with
 |nil=>exact⟨rfl,rfl,rfl,Nat.le_add_right _ _,Nat.zero_le _⟩
 |cons a l=>
  unfold Hs.naming;dsimp only
  split
  ·exact⟨rfl,rfl,rfl,Nat.le_add_right _ _,Nat.zero_le _⟩
  ·refine⟨rfl,rfl,rfl,?_,Nat.le_refl _⟩
   unfold Hs.sz;rw[List.length_append];exact Nat.le_refl _
theorem cI(s:Hs)(w:Wo):(s.hear w).1.cnt=s.cnt /\ (s.hear w).1.own=s.own /\ (s.hear w).1.onw=s.onw /\ (s.hear w).1.sz <= s.sz+5 /\ (s.hear w).2.length <= s.cnt.toNat+3:=by
 unfold Hs.hear
 split
 ·exact⟨rfl,rfl,rfl,Nat.le_add_right _ _,Nat.zero_le _⟩
 ·dsimp only
  obtain⟨a1,a2,a3,a4,a5,a6,a7⟩:=dM { s with known:=s.known++[w] } w;refine e0a6 (aA2 (({ s with known:=s.known++[w] }:Hs).marking w).1 w.n w.r) λb1 b2 b3 b4 b5 b6=>?_;refine e0a5 (aO3 ((({ s with known:=s.known++[w] }:Hs).marking w).1.writing w.n w.r).1 w (s.known.filter λa=>aB6 a w)) λc1 c2 c3 c4 c5=>?_;have z:({ s with known:=s.known++[w] }:Hs).sz=s.sz+1:=by unfold Hs.sz;rw[List.length_append];exact dG1
  rw[a1]at b6;refine⟨c1.trans (b1.trans a1),c2.trans (b3.trans a4),c3.trans (b4.trans a5),Nat.le_trans c4 (Nat.succ_le_succ (Nat.le_trans b5 (Nat.succ_le_succ (Nat.le_trans a6 (Nat.le_of_eq (congrArg (·+2) z)))))),?_⟩;rw[List.length_append,List.length_append];exact Nat.le_trans (Nat.add_le_add (Nat.add_le_add a7 b6) c5) (Nat.le_of_eq (by rw[Nat.add_comm 1]))
section
variable{N:HN}
theorem aQ3(h:m[p]?=some (.dict kvs e)):aD4 .expr [.ref p] m=.ok (kvs.map λx=>x.1.val,.dict p e) m:=by
 show eW (.ref p) m=_;unfold eW;dsimp only;rw[h]
theorem bA2(h:m[p]?=some (.dict kvs e)):(Gd.dict p e).stays m=true:=by
 unfold Gd.stays;dsimp only;rw[h];exact beq_self_eq_true e
theorem bX2(l:List Wo):((kD l).map λx=>x.1.val)=l.map Wo.v:=by unfold kD;rw[List.map_map];rfl
theorem bB9(H:HF S N)(n:Nat)(w:Wo)(h:Ho m N.C D s)(h1:1 <= s.cnt)(h2:s.cnt <= 12)(hl:s.sz+8 < lid):Wp (run S (n+6) (N.ki+2) [.ref D.p,w.v]) m (Tells m N.C D (s.hear w)) nox:=by
 refine e1a1 h.kn λea ka=>?_;refine e1a4 H.cls λd hd hx hi hm=>?_;have e0:evT S (run S (n+5)) (.val (.cmp (.var 1) [.In] [(.attr (.var 0) 11)])) [some (.ref D.p),some w.v,none] m=.ok (decide (w∈s.known)) m:=by
  refine aT (aR rfl (aP rfl h.inst rfl) ?_);show inV w.v (.ref D.a) m=_;rw[aU ka (k:=w.ky) rfl (dF _ _),aR7]
 refine bL H.hear rfl (bJ e0 ?_);unfold Hs.hear;by_cases z:w∈s.known
 ·rw[if_pos z,decide_eq_true z]
  refine a9 (aY (aH (aK λq m' l k g=>?_)));exact dD k g (h.out g) (h.le l) l.mod
 ·rw[if_neg z,decide_eq_false z]
  have hsl:s.sz < lid:=Nat.lt_of_le_of_lt (Nat.le_add_right _ _) hl;have hkl:s.known.length <= lid:=Nat.le_of_lt (Nat.lt_of_le_of_lt s.kl hsl);refine bC (aD7 s.known Wo.v Wo.v (λa=>aB6 a w) (λm'=>m'=m) (aE (aG (aP rfl h.inst rfl) (aH (aG (aQ3 ka) ⟨bX2 _,rfl,?_,?_,hkl,?_⟩)))))
  ·intro m' em;rw[em];exact bA2 ka
  ·intro a ha m' em
   rw[em];refine aC rfl (aE2 (aG (aT (aB0 (vs:=[a.v,w.v]) rfl (bQ0 H _ a w m))) ⟨rfl,?_⟩))
   cases aB6 a w with
   |true=>exact dQ (aC (m':=m) (a:=a.v) rfl ⟨rfl,rfl⟩)
   |false=>rfl
  ·intro qa m1' m1 em l1 k1 g1
   rw[em]at l1 g1;clear em m1';have ha:=h.le l1;refine e1a1 ha.kn λea ka=>?_;refine dR (aC rfl (aG (aP rfl ha.inst rfl) (aC rfl (d9 ka (k:=w.ky) rfl (dF _ _) (by unfold kD;rw[List.length_map];exact Nat.lt_of_le_of_lt s.kl hsl) ?_))));show Wp _ (m1.set D.a (.dict (put w.ky (.bool true) (kD s.known)) (ea+1))) _ _;rw[aV0,show aB4 w s.known=s.known++[w]from if_neg z];have hb:=ha.setK (s.known++[w]) (ea+1);have qo:qa∉D.all:=h.out g1;have kq:=aQ (o':=.dict (kD (s.known++[w])) (ea+1)) (λe=>qo (e▸List.mem_append_left _ (by simp[Hd.foot])):D.a≠qa) k1;have M1:Mod D.foot m (m1.set D.a (.dict (kD (s.known++[w])) (ea+1))):=l1.mod.trans (Mod.set (by simp[Hd.foot]))
   generalize hs1:({ s with known:=s.known++[w] }:Hs)=s1 at hb ⊢
   have sz1:s1.sz=s.sz+1:=by rw[<- hs1];unfold Hs.sz;rw[List.length_append];exact dG1
   have cn1:s1.cnt=s.cnt:=by rw[<- hs1]
   generalize hm2:m1.set D.a (.dict (kD (s.known++[w])) (ea+1))=m2 at hb kq M1 ⊢
   have c1:=(dM s1 w).1;have c6:=(dM s1 w).2.2.2.2.2.1;have c7:=(dM s1 w).2.2.2.2.2.2;refine a9 (bU8 (bU8 (bN (aC rfl ⟨D.p,N.C,_,d,N.ki+3,rfl,hb.inst,hd,rfl,hm 2 (by decide),aC rfl (dC (bK7 H (n+4) w hb (Nat.lt_of_le_of_lt s1.km (by rw[sz1];exact Nat.lt_of_le_of_lt (Nat.add_le_add_left (show 1 <= 8 by decide) s.sz) hl))) λm3 q1 l3 k3 g3 o3 h3 M3 y3=>?_)⟩))));refine bN (aC rfl ⟨D.p,N.C,_,d,N.ki+4,rfl,h3.inst,hd,rfl,hm 3 (by decide),aC rfl (dC (bJ7 (D:=D.ext l3) H n w.n w.r h3 (by rw[c1,cn1];exact h1) (by rw[c1,cn1];exact h2) (Nat.lt_of_le_of_lt (Hs.rl _) (Nat.lt_of_le_of_lt c6 (by rw[sz1];exact Nat.lt_of_le_of_lt (Nat.add_le_add_left (show 3 <= 8 by decide) s.sz) hl)))) λm4 q2 l4 k4 g4 o4 h4 M4 y4=>?_)⟩);have b5:=(aA2 (s1.marking w).1 w.n w.r).2.2.2.2.1;have b6:=(aA2 (s1.marking w).1 w.n w.r).2.2.2.2.2;have k34:=M4.has k3 (aC7 (D:=D.ext l3) o3);have len2:(s1.marking w).2.length+((s1.marking w).1.writing w.n w.r).2.length <= 13:=by rw[c1,cn1]at b6;exact Nat.add_le_add c7 (Nat.le_trans b6 (dB h2))
   refine bO1 k34 k4 (by rw[List.length_map,List.length_map];exact dG len2 (by decide)) λq5 m5 l5 k5 g5=>?_;have h5:=h4.le l5;have le23:=M3.1;have le34:=M4.1;have qa5:m5[qa]?=some (.list ((s.known.filter λa=>aB6 a w).map Wo.v)):=l5.has (M4.has (M3.has kq (aC7 qo)) (show qa∉D.foot from aC7 qo));have lt2:qa < m2.length:=aS kq;have oa:qa∉((D.ext l3).ext l4).all:=λc=>by
    rcases List.mem_append.mp c with c | c
    ·exact qo (List.mem_append_left _ c)
    ·have c:qa∈(D.bs++l3)++l4:=c
     rcases List.mem_append.mp c with c | c
     ·rcases List.mem_append.mp c with c | c
      ·exact qo (List.mem_append_right _ c)
      ·exact absurd (y3 _ c) (Nat.not_le.mpr lt2)
     ·exact absurd (Nat.le_trans le23 (y4 _ c)) (Nat.not_le.mpr lt2)
   refine bN (aC rfl ⟨D.p,N.C,_,d,N.ki+5,rfl,h5.inst,hd,rfl,hm 4 (by decide),aC rfl (dC (bV5 (D:=(D.ext l3).ext l4) H (n+4) w qa5 oa h5 (Nat.lt_of_le_of_lt (Hs.nl _) (Nat.lt_of_le_of_lt (Nat.le_trans b5 (Nat.succ_le_succ c6)) (by rw[sz1];exact Nat.lt_of_le_of_lt (Nat.add_le_add_left (show 4 <= 8 by decide) s.sz) hl)))) λm6 q6 l6 k6 g6 o6 h6 M6 y6=>?_)⟩);have n5:=(aO3 ((s1.marking w).1.writing w.n w.r).1 w (s.known.filter λa=>aB6 a w)).2.2.2.2;have o5:q5∉((D.ext l3).ext l4).all:=h4.out g5;have k56:=M6.has k5 (aC7 (D:=(D.ext l3).ext l4) o5);refine bO1 k56 k6 (by rw[List.length_append,List.length_map,List.length_map,List.length_map];exact dG (Nat.add_le_add len2 n5) (by decide)) λq7 m7 l7 k7 g7=>?_;have h7:=h6.le l7;have lm:m.length <= m2.length:=M1.1;have le56:=M6.1;have le45:=l5.1;rw[Hd.ext_ext,Hd.ext_ext]at h7;rw[Hd.ext_ext,Hd.ext_ext]at h6;rw[<- List.append_assoc]at h6 h7;have le2:=Nat.le_trans lm le23;have le3:=Nat.le_trans le2 le34;refine⟨q7,l3++l4++l6,rfl,?_,Nat.le_trans (Nat.le_trans le3 le45) (Nat.le_trans le56 g7),h6.out g7,h7,?_,λy hy=>?_⟩
   ·rw[k7,List.map_append,List.map_append]
   ·exact(M1.trans M3).trans ((M4.trans l5.mod).trans (Mod.trans M6 l7.mod))
   ·rcases List.mem_append.mp hy with hy | hy
    ·rcases List.mem_append.mp hy with hy | hy
     ·exact Nat.le_trans lm (y3 y hy)
     ·exact Nat.le_trans le2 (y4 y hy)
    ·exact Nat.le_trans (Nat.le_trans le3 le45) (y6 y hy)
theorem cA4(H:HF S N)(n:Nat)(r:Str)(h:Ho m N.C D s)(hr:bN1 (.str r)=true)(hrl:r.length <= 64)(h1:1 <= s.cnt)(h2:s.cnt <= 12)(hl:s.sz+8 < lid):Wp (run S (n+7) (N.ki+1) [.ref D.p,.str r]) m (Tells m N.C D (s.call r)) nox:=by
 refine e1a1 H.gL λy_ gL=>?_;refine e1a1 H.gS λy_ gS=>?_;refine e1a4 H.cls λd hd hx hi hm=>?_;have er:=bE8 H.R gL gS (n+5) (m:=m) hr;refine bL H.call rfl (bJ (cO (aT (bB rfl er))) ?_);show Wp _ m _ _;refine bC (aG (bT9 (bT rfl (bT (aP rfl h.inst rfl) (bT rfl (bT (aP rfl h.inst rfl) rfl))))) ?_);refine aC5 (aG (bU (aP rfl h.inst rfl) (aP rfl h.inst rfl) rfl) (aC rfl ⟨D.p,N.C,_,rfl,h.inst,?_⟩));have hb:=h.setP (s.onw+s.cnt);show Wp _ (m.set D.p (.inst N.C (cZ5 D { s with onw:=s.onw+s.cnt }))) _ _;have M1:Mod D.foot m (m.set D.p (.inst N.C (cZ5 D { s with onw:=s.onw+s.cnt }))):=Mod.set (by simp[Hd.foot])
 generalize hm2:m.set D.p (.inst N.C (cZ5 D { s with onw:=s.onw+s.cnt }))=m2 at hb M1 ⊢
 refine a9 (bU8 (aY (aE (aC rfl (aH (aK λq0 m0 l0 k0 g0=>?_))))));have h0:=hb.le l0;refine bN (aC rfl ⟨D.p,N.C,_,d,N.ki+2,rfl,h0.inst,hd,rfl,hm 1 (by decide),aC rfl (dC (bB9 H n ⟨aC4,s.onw,r,s.own⟩ h0 h1 h2 hl) λm3 q1 l3 k3 g3 o3 h3 M3 y3=>?_)⟩);have o0:q0∉D.all:=hb.out g0;have k03:=M3.has k0 (aC7 o0);have n5:(Hs.hear { s with onw:=s.onw+s.cnt } ⟨aC4,s.onw,r,s.own⟩).2.length <= s.cnt.toNat+3:=(cI { s with onw:=s.onw+s.cnt } ⟨aC4,s.onw,r,s.own⟩).2.2.2.2;refine bO1 k03 k3 (by rw[List.length_map];exact dG (Nat.add_le_add (Nat.le_refl 1) (Nat.le_trans n5 (Nat.add_le_add_right (dB h2) 3))) (by decide)) λq7 m7 l7 k7 g7=>?_;have lm:=M1.1;have lm2:=l0.1;have lm3:=M3.1;refine⟨q7,l3,rfl,k7,Nat.le_trans (Nat.le_trans lm lm2) (Nat.le_trans lm3 g7),h3.out g7,h3.le l7,?_,λy hy=>Nat.le_trans (Nat.le_trans lm lm2) (y3 y hy)⟩;exact(M1.trans l0.mod).trans (M3.trans l7.mod)
end
end Mini.Internal
variable{k:Int}
namespace Mini.Internal
open PySem
section
variable{N:HN}
theorem bY1(h:m[p]?=some (.inst C fs))(fs':List (Nat×V))(o:MObj):
  ∃m',(m++[o]).set p (.inst C fs')=m' /\ m'[p]?=some (.inst C fs') /\ m'[m.length]?=some o /\ (∀q x,q≠p->m[q]?=some x->m'[q]?=some x) /\ m'.length=m.length+1 /\ Mod [p] m m':=by
 have hlt:=aS h;refine⟨_,rfl,aZ ((Le.app _ _).has h),?_,λq x hq k=>?_,by simp,(Le.app _ _).mod.trans (Mod.set (.head _))⟩
 ·rw[List.getElem?_set_ne (by lia)];exact bW
 ·exact aQ (λe=>hq e.symm) ((Le.app _ _).has k)
noncomputable def Hs.new(c o:Int):Hs:=⟨c,o,o,[],[],[],[]⟩
theorem nd7{n:Nat}(h:p < n):[p,n,n+1,n+2,n+3,n+4,n+5].Nodup:=by
 show(p::List.range' n 6).Nodup;exact List.nodup_cons.mpr ⟨λq=>absurd (List.mem_range'_1.mp q).1 (Nat.not_le.mpr h),List.nodup_range'⟩
theorem mem7{n y:Nat}(hy:y∈[p,n,n+1,n+2,n+3,n+4,n+5]):y=p \/ n <= y:=by
 have hy:y∈p::List.range' n 6:=hy;rcases List.mem_cons.mp hy with e | e
 ·exact .inl e
 ·exact .inr (List.mem_range'_1.mp e).1
theorem cY{Q:Fl×Lo->MH->Prop}{k n:Nat}{e:CE}(he:ev S F e r m=.ok (.ref m.length) (m++[o]))(hv:ev S F (.var 0) r (m++[o])=.ok (.ref p) (m++[o]))(h:m[p]?=some (.inst C fs))(hn:m.length=n)(q:∀m',m'[p]?=some (.inst C (e9 k (.ref n) fs))->m'[n]?=some o->(∀q x,q≠p->m[q]?=some x->m'[q]?=some x)->m'.length=n+1->Mod [p] m m'->Wp (exs S F ss r) m' Q E):Wp (exs S F (.asg (.attr (.var 0) k) e::ss) r) m Q E:=by
 subst hn;refine e1a6 (bY1 h (e9 k (.ref m.length) fs) o) λa1 e1 i1 n1 f1 L1 M1=>?_;refine aC5 (aG he (aG hv ⟨p,C,fs,rfl,(Le.app _ _).has h,?_⟩));rw[e1];exact q a1 i1 n1 f1 L1 M1
theorem bX7(H:HF S N)(n:Nat){c o:Int}{p:Nat}(h1:1 <= c)(h2:c <= 12)(h3:0 <= o)(h4:o < c)(hp:m[p]?=some (.inst N.C [])):Wp (run S (n+3) N.ki [.ref p,.int c,.int o]) m (λu m'=>u=.none /\ ∃D,D.p=p /\ Ho m' N.C D (Hs.new c o) /\ Mod [p] m m' /\ ∀y∈D.all,y=p \/ m.length <= y) nox:=by
 refine e1a1 H.gM λy_ gM=>?_;have en:run S (n+2) N.kN [.int c] m=.ok .none m:=by
  exact aC8 H.N_ H.W gM n h1 h2
 have hlt:=aS hp;refine bL H.I rfl (eC (aG (bB rfl en) (bJ (t:=false) (cX (bE (x:=false) (cO (aT (bB rfl (bI H.W (n+1) o)))) (bE (x:=false) (bU1 rfl rfl h3 h4) dJ))) ?_)));clear en h1 h2 h3 h4;refine aC5 (aC rfl (aC rfl ⟨p,N.C,[],rfl,hp,?_⟩));have k1:=aZ (o':=.inst N.C (e9 8 (.int c) [])) hp;refine aC5 (aC rfl (aC rfl ⟨p,N.C,_,rfl,k1,?_⟩));have k2:=aZ (o':=.inst N.C (e9 9 (.int o) (e9 8 (.int c) []))) k1;refine aC5 (aC rfl (aC rfl ⟨p,N.C,_,rfl,k2,?_⟩));have k3:=aZ (o':=.inst N.C (e9 10 (.int o) (e9 9 (.int o) (e9 8 (.int c) [])))) k2;have M0:Mod [p] m (((m.set p (.inst N.C (e9 8 (.int c) []))).set p (.inst N.C (e9 9 (.int o) (e9 8 (.int c) [])))).set p (.inst N.C (e9 10 (.int o) (e9 9 (.int o) (e9 8 (.int c) []))))):=
  ((Mod.set (.head _)).trans (Mod.set (.head _))).trans (Mod.set (.head _))
 have L0:(((m.set p (.inst N.C (e9 8 (.int c) []))).set p (.inst N.C (e9 9 (.int o) (e9 8 (.int c) [])))).set p (.inst N.C (e9 10 (.int o) (e9 9 (.int o) (e9 8 (.int c) []))))).length=m.length:=by simp
 clear k1 k2
 generalize ((m.set p (.inst N.C (e9 8 (.int c) []))).set p (.inst N.C (e9 9 (.int o) (e9 8 (.int c) [])))).set p (.inst N.C (e9 10 (.int o) (e9 9 (.int o) (e9 8 (.int c) []))))=a0 at k3 M0 L0 ⊢
 refine cY rfl rfl k3 L0 λa1 i1 n1 f1 L1 M1=>?_;refine cY rfl rfl i1 L1 λa2 i2 n2 f2 L2 M2=>?_;refine cY rfl rfl i2 L2 λa3 i3 n3 f3 L3 M3=>?_;refine cY rfl rfl i3 L3 λa4 i4 n4 f4 L4 M4=>?_;refine cY rfl rfl i4 L4 λa5 i5 n5 f5 L5 M5=>?_;refine cY rfl rfl i5 L5 λa6 i6 n6 f6 L6 M6=>?_;have g:∀k,m.length+k≠p:=λk e=>absurd hlt (by rw[<- e];exact Nat.not_lt.mpr (Nat.le_add_right _ _));refine cS ⟨rfl,⟨p,m.length,m.length+1,m.length+2,m.length+3,m.length+4,m.length+5,[]⟩,rfl,⟨i6,⟨0,?_⟩,⟨0,?_⟩,⟨0,?_⟩,⟨0,?_⟩,?_,⟨0,n6⟩,λi x e=>?_,rfl,nd7 hlt⟩,?_,λy hy=>mem7 hy⟩
 ·exact f6 _ _ (g 0) (f5 _ _ (g 0) (f4 _ _ (g 0) (f3 _ _ (g 0) (f2 _ _ (g 0) n1))))
 ·exact f6 _ _ (g 1) (f5 _ _ (g 1) (f4 _ _ (g 1) (f3 _ _ (g 1) n2)))
 ·exact f6 _ _ (g 2) (f5 _ _ (g 2) (f4 _ _ (g 2) n3))
 ·exact f6 _ _ (g 3) (f5 _ _ (g 3) n4)
 ·exact f6 _ _ (g 4) n5
 ·injection e
 ·exact((M0.trans M1).trans (M2.trans M3)).trans ((M4.trans M5).trans M6)
theorem aY3(H:HF S N)(n:Nat)(h:Ho m N.C D s):run S (n+1) (N.ki+8) [.ref D.p] m=.ok (.ref m.length) (m++[.list (aD9 s.named)]):=by
 rw[bT1 H.caught rfl];show Res.bind (Res.bind (Res.bind (Res.bind (Res.bind (ev S (run S n) (.attr (.var 0) 15) [some (.ref D.p)] m) _) _) _) _) _=_;rw[aP (k:=15) (v:=.ref D.e) rfl h.inst rfl];show Res.bind (Res.bind (Res.bind (biV .list [.ref D.e] m) _) _) _=_;have:biV .list [.ref D.e] m=.ok (.ref m.length) (m++[.list (aD9 s.named)]):=by
  unfold biV;dsimp only;rw[h.na];rfl
 rw[this];rfl
noncomputable def fF(l:List (Int×Str×List Wo))(k:Int):Str:=match l.find? (λx=>x.1 == k)with
 |some x=>x.2.1
 |none=>Str.empty
noncomputable def ledD(l:List (Int×Str×List Wo)):List (Ky×V):=(sortI (l.map (·.1))).foldl (λd i=>put (.int i) (.str (fF l i)) d) []
theorem aJ7(g:α->Int)(f:α->V):∀l:List α,aA0 (tD g f l)=some (l.map g)
 |[]=>rfl
 |a::l=>by
  show(aA0 (tD g f l)).map _=_;rw[aJ7 g f l];rfl
theorem aR6:∀{l:List Int},j∈insI i l↔j=i \/ j∈l
 |[]=>by simp[insI]
 |a::l=>by
  unfold insI
  split
  ·simp
  ·rw[List.mem_cons,aR6,List.mem_cons];exact⟨λh=>by rcases h with h | h | h <;> simp[h],λh=>by rcases h with h | h | h <;> simp[h]⟩
theorem mem_sortI:∀{l:List Int},j∈sortI l↔j∈l
 |[]=>Iff.rfl
 |a::l=>by
  show j∈insI a (sortI l)↔_;rw[aR6,mem_sortI,List.mem_cons]
theorem bH3(i:Int):∀l:List Int,(insI i l).length=l.length+1
 |[]=>rfl
 |a::l=>by
  unfold insI
  split
  ·rfl
  ·rw[List.length_cons,bH3,List.length_cons]
theorem aC0:∀l:List Int,(sortI l).length=l.length
 |[]=>rfl
 |a::l=>by
  show(insI a (sortI l)).length=_;rw[bH3,aC0,List.length_cons]
theorem bK3{v:V}{d:List (Ky×V)}(h:aN (.int k) d=true):aN (.int k) (put (.int j) v d)=true:=by
 induction d with
 |nil=>rfl
 |cons a d ih=>
  obtain⟨b,x⟩:=a;unfold aN at h ih ⊢;rw[List.all_cons,Bool.and_eq_true]at h;show(if b=Ky.int j then(b,v)::d else(b,x)::put (.int j) v d).all _=true
  split
  ·rw[List.all_cons,h.1,h.2];rfl
  ·rw[List.all_cons,ih h.2,h.1];rfl
theorem bU4{k:Ky}{v:V}:∀d:List (Ky×V),(put k v d).length <= d.length+1
 |[]=>Nat.le_refl _
 |(b,x)::d=>by
  show(if b=k then(b,v)::d else(b,x)::put k v d).length <= _
  split
  ·exact Nat.le_succ _
  ·exact Nat.succ_le_succ (bU4 (k:=k) (v:=v) d)
theorem bB4(h:Wp x m (λu m'=>∃q e,u=.ref q /\ m'[q]?=some (.dict kvs e) /\ m.length <= q /\ Le m m') nox)(k:∀m' q e,m'[q]?=some (.dict kvs e)->m.length <= q->Le m m'->Q (.ref q) m'):Wp x m Q E:=
 bF h λu m' z=>by
  refine e2a4 z λq e e0 k1 k2 k3=>?_;rw[e0];exact k m' q e k1 k2 k3
inductive LInv(C:Nat)(D:Hd)(s:Hs)(m m0:MH)(zs:List Int)(r:Lo)(m':MH):Prop
 |mk (a:List Int) (e:Nat) (x:Option V) (er:r=[some (.ref D.p),some (.ref m.length),x]) (e1:sortI (s.rows.map (·.1))=a++zs) (ka:m'[m.length]?=some (.dict (a.foldl (λd i=>put (.int i) (.str (fF s.rows i)) d) []) e)) (kb:m'[m0.length]?=some (.list ((sortI (s.rows.map (·.1))).map V.int))) (hh:Ho m' C D s) (ll:Le m m') (hq:aN (.int 0) (a.foldl (λd i=>put (.int i) (.str (fF s.rows i)) d) [])=true) (hz:(a.foldl (λd i=>put (.int i) (.str (fF s.rows i)) d) []).length <= a.length)
theorem aJ6(H:HF S N)(n:Nat)(h:Ho m N.C D s)(hl:s.rows.length < 64):Wp (run S (n+1) (N.ki+6) [.ref D.p]) m (λu m'=>∃q e,u=.ref q /\ m'[q]?=some (.dict (ledD s.rows) e) /\ m.length <= q /\ Le m m') nox:=by
 refine bL H.ledger rfl (bC (aG (a:=.ref m.length) (m':=m++[.dict [] 0]) rfl ?_));have l0:Le m (m++[.dict [] 0]):=.app _ _;have k0:(m++[.dict [] 0])[m.length]?=some (.dict [] 0):=bW
 generalize m++[MObj.dict [] 0]=m0 at l0 k0 ⊢
 have h0:=h.le l0;refine e1a1 h0.ro λec kc=>?_;have hs:biV .sorted [.ref D.c] m0=.ok (.ref m0.length) (m0++[.list ((sortI (s.rows.map (·.1))).map V.int)]):=by
  unfold biV;dsimp only;rw[kc];dsimp only;unfold aL4;rw[aJ7];dsimp only;rw[if_pos (.inl (by rw[List.length_map];exact hl))];rfl
 have k1:(m0++[MObj.list ((sortI (s.rows.map (·.1))).map V.int)])[m0.length]?=some (.list ((sortI (s.rows.map (·.1))).map V.int)):=bW;have l1:Le m0 (m0++[.list ((sortI (s.rows.map (·.1))).map V.int)]):=.app _ _;have g1:m0.length < (m0++[MObj.list ((sortI (s.rows.map (·.1))).map V.int)]).length:=by simp
 generalize (m0++[MObj.list ((sortI (s.rows.map (·.1))).map V.int)])=m1 at k1 l1 g1 hs
 have lt0:=aS k0;have ht:∀i∈sortI (s.rows.map (·.1)),look (.int i) (aL4 s.rows)=some (.str (fF s.rows i)):=λi hi=>by
  have hi:=mem_sortI.mp hi;refine e1a2 (List.mem_map.mp hi) λx hx e=>?_;unfold aL4;rw[fI];unfold fF
  cases q:s.rows.find? λx=>x.1 == i with
  |none=>exact absurd (List.find?_eq_none.mp q x hx) (by simp[e])
  |some y=>rfl
 refine eR (sortI (s.rows.map (·.1))) V.int (LInv N.C D s m m0) (aE (aF3 (aE (aG (aP rfl h0.inst rfl) (aH (aG hs (aH (fA k1 ⟨rfl,⟨[],0,none,rfl,rfl,l1.has k0,k1,h0.le l1,l0.trans l1,rfl,Nat.le_refl _⟩,?_,?_,?_⟩))))))))
 ·rintro zs r m' ⟨a,e,x,rfl,e1,ka,kb,hh,ll,hq,hz⟩
  exact dE kb
 ·rintro z zs r m' ⟨a,e,x,rfl,e1,ka,kb,hh,ll,hq,hz⟩
  refine e1a1 hh.ro λe2 k2=>?_;have hm:z∈sortI (s.rows.map (·.1)):=by rw[e1];simp
  have al:a.length < 64:=by
   have:=congrArg List.length e1;rw[aC0,List.length_map,List.length_append]at this;exact Nat.lt_of_le_of_lt (Nat.le_trans (Nat.le_add_right _ _) (Nat.le_of_eq this.symm)) hl
  have np:m.length∉D.all:=h.out (Nat.le_refl _);refine aC rfl (dR (aG (dW (aP rfl hh.inst rfl) rfl (bP k2 rfl (aV _ _ _ _) (ht z hm))) (aC rfl (aC rfl (d9 ka rfl hq (Nat.lt_of_le_of_lt hz (Nat.lt_of_lt_of_le al (by decide))) (cS ?_))))));refine⟨a++[z],e+1,some (.int z),rfl,by rw[e1,List.append_assoc];rfl,?_,aQ (Nat.ne_of_lt lt0) kb,hh.mod (T:=[m.length]) (Mod.set (.head _)) λy hy hy'=>?_,?_,?_,?_⟩
  ·rw[List.foldl_append];exact aZ ka
  ·rw[List.mem_singleton.mp hy']at hy;exact np hy
  ·exact ll.set (Nat.le_refl _) _
  ·rw[List.foldl_append];exact bK3 hq
  ·rw[List.foldl_append,List.length_append]
   have:=bU4 (k:=.int z) (v:=.str (fF s.rows z)) (a.foldl (λd i=>put (.int i) (.str (fF s.rows i)) d) []);exact Nat.le_trans this (Nat.succ_le_succ hz)
 ·rintro r m' ⟨a,e,x,rfl,e1,ka,kb,hh,ll,hq,hz⟩
  rw[List.append_nil]at e1;refine a9 (aC rfl ⟨m.length,e,rfl,?_,Nat.le_refl _,ll⟩);unfold ledD;rw[e1];exact ka
end
end Mini.Internal
variable{C:List (Nat×MObj)}{x:Int}
namespace Mini.Internal
open PySem
noncomputable def Rf(v:V):Prop:=∃d,(∀m,rd 11 m v=some d) /\ PyData.eqv d d=true
theorem cU3(w:Wo):Rf w.v:=⟨w.d,λy_=>rfl,by rw[bD2];exact decide_eq_true rfl⟩
theorem cU5(x:Int×Wo×Wo):Rf (.tup [.int x.1,x.2.1.v,x.2.2.v]):=by
 refine⟨.tuple [.int x.1,x.2.1.d,x.2.2.d],λy_=>rfl,?_⟩;show(x.1 == x.1&&(PyData.eqv x.2.1.d x.2.1.d&&(PyData.eqv x.2.2.d x.2.2.d&&true)))=true;rw[bD2,bD2,beq_self_eq_true,decide_eq_true rfl,decide_eq_true rfl];rfl
theorem bT4:∀{xs:List V},(∀x∈xs,Rf x)->∃ds,(∀m,d7 (rd 11 m) xs=some ds) /\ PyData.eqvAll ds ds=true
 |[],_=>⟨[],λy_=>rfl,rfl⟩
 |x::xs,h=>by
  refine e1a2 (h x (.head _)) λd h1 h2=>?_;refine e1a2 (bT4 λy hy=>h y (.tail _ hy)) λds h3 h4=>?_;exact⟨d::ds,λm=>aZ2 (h1 m) (h3 m),by rw[bH7,h2,h4];rfl⟩
theorem aI6(hp:m[p]?=some (.list xs)):rd cT m (.ref p)=(d7 (rd 11 m) xs).map PyData.list:=by
 show(match m[p]? with | some (.list xs)=>(d7 (rd 11 m) xs).map PyData.list | _=>none)=_;rw[hp]
theorem bD3(hx:∀x∈xs,Rf x)(hp:m[p]?=some (.list xs))(hq:m[q]?=some (.list xs)):eqV (.ref p) (.ref q) m=.ok true m:=by
 refine e1a2 (bT4 hx) λds h1 h2=>?_;have r1:∀{p:Nat},m[p]?=some (.list xs)->rd cT m (.ref p)=some (.list ds):=λhp=>by rw[aI6 hp,h1];rfl
 unfold eqV;rw[r1 hp,r1 hq];show Res.ok (PyData.eqvAll ds ds) m=_;rw[h2]
theorem aT2:∀{ks:List (Ky×V)},(∀x∈ks,∃t,x.2=.str t /\ look x.1 ls=some (.str t))->aF9 m ls ks=some true
 |[],_=>rfl
 |(k,v)::r,h=>by
  refine e1a2 (h _ (.head _)) λt e hl=>?_;have e:v=.str t:=e;rw[e];show(match look k ls with | none=>some false | some u=>(match rd cT m (.str t)with | some x=>(match rd cT m u with | some y=>(match aF9 m ls r with | some b=>some (PyData.eqv x y&&b) | none=>none) | none=>none) | none=>none))=_;rw[hl,aT2 λx hx=>h x (.tail _ hx)];show some (t == t&&true)=_;rw[beq_self_eq_true];rfl
theorem cL3{ks:List (Ky×V)}{e':Nat}(hp:m[p]?=some (.dict ks e))(hq:m[q]?=some (.dict ls e'))(hne:p≠q)(hl:ks.length=ls.length)(h1:aF8 ks=true)(h2:aF8 ls=true)(h:∀x∈ks,∃t,x.2=.str t /\ look x.1 ls=some (.str t)):eqV (.ref p) (.ref q) m=.ok true m:=by
 have r1:rd cT m (.ref p)=none:=by
  show(match m[p]? with | some (.list xs)=>(d7 (rd 11 m) xs).map PyData.list | _=>none)=_;rw[hp]
 have en:eqN m (eqX 8 m) (.ref p) (.ref q)=some true:=by
  show(match m[p]? with | some (.list xs)=>(match m[q]? with | some (.list ys)=>(if p≠q /\ xs.length=ys.length then bM9 (eqX 8 m) xs ys else none) | _=>none) | some (.dict ks _)=>(match m[q]? with | some (.dict ls _)=>(if p≠q /\ ks.length=ls.length /\ (aF8 ks&&aF8 ls)=true then aF9 m ls ks else none) | _=>none) | _=>none)=_;rw[hp,hq];show(if p≠q /\ ks.length=ls.length /\ (aF8 ks&&aF8 ls)=true then aF9 m ls ks else none)=_;rw[if_pos ⟨hne,hl,by rw[h1,h2];rfl⟩];exact aT2 h
 unfold eqV;rw[r1];rw[en]
theorem dT{a b:V}(h:eqV a b m=.ok true m):aF0 .NotEq a b m=.ok false m:=by
 show(eqV a b m).bind _=_;rw[h];rfl
theorem ins_mem{l:List Int}:j∈insI i l↔j=i \/ j∈l:=aR6
theorem cO7:∀{l:List Int},l.Pairwise (· < ·)->i∉l->(insI i l).Pairwise (· < ·)
 |[],_,_=>List.pairwise_singleton _ _
 |k::l,h,hi=>by
  show(if i <= k then i::k::l else k::insI i l).Pairwise (· < ·);have hk:i≠k:=λe=>hi (e▸.head _);have h':=List.pairwise_cons.mp h;by_cases z:i <= k
  ·rw[if_pos z]
   have z:i < k:=Int.lt_iff_le_and_ne.mpr ⟨z,hk⟩;exact List.pairwise_cons.mpr ⟨List.forall_mem_cons.mpr ⟨z,λx hx=>Int.lt_trans z (h'.1 x hx)⟩,h⟩
  ·rw[if_neg z]
   refine List.pairwise_cons.mpr ⟨λx hx=>?_,cO7 h'.2 λq=>hi (.tail _ q)⟩;rcases ins_mem.mp hx with e | e
   ·rw[e];exact Int.not_le.mp z
   ·exact h'.1 x e
theorem bS0:∀{l:List Int},l.Nodup->(sortI l).Pairwise (· < ·)
 |[],_=>List.Pairwise.nil
 |i::l,h=>by
  rw[List.nodup_cons]at h;exact cO7 (bS0 h.2) λq=>h.1 (mem_sortI.mp q)
theorem aU7:∀{l:List Int},l.Pairwise (· < ·)->sortI l=l
 |[],_=>rfl
 |i::l,h=>by
  have h':=List.pairwise_cons.mp h;show insI i (sortI l)=_;rw[aU7 h'.2]
  cases l with
  |nil=>rfl
  |cons j l=>exact if_pos (Int.le_of_lt (h'.1 j (.head _)))
theorem cU9{v:V}:∀{is:List Int} {f:Int->V},k∉is->put (.int k) v (tD id f is)=tD id f is++[(.int k,v)]:=λ{is f} h=>by
 rw[aC6];rw[List.any_eq_false];intro x hx e;exact h (eq_of_beq e▸hx)
noncomputable def aF7(l:List (Int×Str×List Wo)):List (Ky×V):=tD id (λi=>.str (fF l i)) (sortI (l.map (·.1)))
theorem bW5(nd:(l.map (·.1)).Nodup):ledD l=aF7 l:=by
 have key:∀(is js:List Int),(js++is).Nodup->is.foldl (λd i=>put (.int i) (.str (fF l i)) d) (tD id (λi=>.str (fF l i)) js)=tD id (λi=>.str (fF l i)) (js++is):=by
  intro is
  induction is with
  |nil=>intro js _;rw[List.append_nil];rfl
  |cons i is ih=>
   intro js h;have hi:i∉js:=λc=>(List.nodup_append.mp h).2.2 i c i (.head _) rfl;rw[List.foldl_cons,cU9 hi];have:=ih (js++[i]) (by rw[List.append_assoc];exact h);rw[List.append_assoc]at this;rw[show tD id (λi=>V.str (fF l i)) js++[(Ky.int i,V.str (fF l i))]=tD id (λi=>.str (fF l i)) (js++[i]) by unfold tD;rw[List.map_append];rfl];exact this
 exact key _ [] ((bS0 nd).imp λh=>Int.ne_of_lt h)
theorem aS0(g:α->Int)(f:α->V)(l:List α):aF8 (tD g f l)=true:=by
 unfold aF8 tD;rw[List.all_map,List.all_eq_true];intro _ _;rfl
theorem bG7:∀x∈aF7 l,∃t,x.2=.str t /\ look x.1 (aF7 l)=some (.str t):=λx hx=>by
 refine e1a2 (List.mem_map.mp hx) λi hi z71=>?_;rw[<- z71];refine⟨fF l i,rfl,?_⟩;have hs:((sortI (l.map (·.1))).find? λx=>id x == i).isSome=true:=by rw[List.find?_isSome];exact⟨i,hi,beq_self_eq_true i⟩
 refine e1a1 (Option.isSome_iff_exists.mp hs) λy hy=>?_;have e:y=i:=eq_of_beq (List.find?_some (p:=λx=>id x == i) hy);unfold aF7;rw[show(Ky.int (id i),V.str (fF l i)).1=Ky.int i from rfl,fI,hy,e];rfl
section
variable{N:HN}
theorem bM7(H:HF S N)(n:Nat){v:V}(h:Ho m N.C D s)(hv:Pl m v)(hb:(match v with | .int k=>!s.wrote k | _=>true)=true):Wp (run S (n+2) (N.ki+7) [.ref D.p,v]) m (λy y=>False) (λc m'=>c=N.cN /\ m'=m):=by
 refine e1a1 h.ro λec kc=>?_;have ew:evT S (run S (n+1)) (.not (.val (.call N.kW [(.var 1)]))) [some (.ref D.p),some v] m=.ok (!vW v) m:=cO (aT (bB rfl (cC7 H.W n hv)));have e1:evT S (run S (n+1)) (.all false [(.not (.val (.call N.kW [(.var 1)]))),(.val (.cmp (.var 1) [.NotIn] [(.attr (.var 0) 13)]))]) [some (.ref D.p),some v] m=.ok true m:=by
  cases hq:vW v with
  |false=>rw[hq]at ew;exact cX (short ew)
  |true=>
   refine e1a1 (vW_is hq) λk zz1=>?_;subst zz1;have hb:(!s.wrote k)=true:=hb;refine cX (bE (x:=false) (by rw[ew];rfl) (bE (x:=true) (aT (aR rfl (aP rfl h.inst rfl) ?_)) dJ));show Res.bind (inV (.int k) (.ref D.c) m) _=_;rw[aU kc rfl (aV _ _ _ _),aL4,cP];show Res.ok (!s.wrote k) m=_;rw[hb]
 exact bL H.backing rfl (bJ e1 (s_rse ⟨rfl,rfl⟩))
noncomputable def aY7(l:List (Int×Str×List Wo))(k:Int):List Wo:=match l.find? (λx=>x.1 == k)with
 |some x=>x.2.2
 |none=>[]
theorem cZ6{bs:List Nat}:∀{x:Int×Str×List Wo},l.find? (λx=>x.1 == k)=some x->bs.length=l.length->∃(i q:Nat),l[i]?=some x /\ bs[i]?=some q /\ ((l.map (·.1)).zip bs).find? (λy=>y.1 == k)=some (x.1,q):=by
 induction l generalizing bs with
 |nil=>intro x h;injection h
 |cons a l ih=>
  intro x h hl
  cases bs with
  |nil=>injection hl
  |cons b bs=>
   by_cases z:(a.1 == k)=true
   ·rw[List.find?_cons_of_pos (p:=λx:Int×Str×List Wo=>x.1 == k) z]at h
    (refine aF h λz1=>?_;clear h;subst z1)
    exact⟨0,b,rfl,rfl,List.find?_cons_of_pos (p:=λy:Int×Nat=>y.1 == k) z⟩
   ·rw[List.find?_cons_of_neg (p:=λx:Int×Str×List Wo=>x.1 == k) z]at h
    refine e2a3 (ih h (Nat.succ.inj hl)) λi q h1 h2 h3=>?_;exact⟨i+1,q,h1,h2,(List.find?_cons_of_neg (p:=λy:Int×Nat=>y.1 == k) z).trans h3⟩
theorem bJ6(hb:s.wrote k=true):∃x,s.rows.find? (λx=>x.1 == k)=some x:=by
 have hs:(s.rows.find? λx=>x.1 == k).isSome=true:=by
  rw[List.find?_isSome];refine e1a2 (List.any_eq_true.mp hb) λx hx e=>?_;exact⟨x,hx,e⟩
 exact Option.isSome_iff_exists.mp hs
theorem aP5(H:HF S N)(n:Nat){k:Int}(h:Ho m N.C D s)(hb:s.wrote k=true):run S (n+2) (N.ki+7) [.ref D.p,.int k] m=.ok (.ref m.length) (m++[.list ((aY7 s.rows k).map Wo.v)]):=by
 refine e1a1 h.ro λec kc=>?_;refine e1a1 h.ba λed kd=>?_;refine e1a1 (bJ6 hb) λx hx=>?_;refine e2a3 (cZ6 hx h.len) λi q h1 h2 h3=>?_;refine e1a2 (h.bk i x h1) λq' g1 g2=>?_;rw[h2]at g1
 (refine aF g1 λz1=>?_;clear g1;subst z1)
 have ew:evT S (run S (n+1)) (.not (.val (.call N.kW [(.var 1)]))) [some (.ref D.p),some (.int k)] m=.ok false m:=cO (aT (bB rfl (bI H.W n k)));have e1:evT S (run S (n+1)) (.all false [(.not (.val (.call N.kW [(.var 1)]))),(.val (.cmp (.var 1) [.NotIn] [(.attr (.var 0) 13)]))]) [some (.ref D.p),some (.int k)] m=.ok false m:=by
  refine cX (bE (x:=false) ew (bE (x:=false) (aT (aR rfl (aP rfl h.inst rfl) ?_)) dJ));show Res.bind (inV (.int k) (.ref D.c) m) _=_;rw[aU kc rfl (aV _ _ _ _),aL4,cP];show Res.ok (!s.wrote k) m=_;rw[hb];rfl
 have ei:aO6 (.ref D.d) (.int k) m=.ok (.ref q) m:=bP kd rfl (aV _ _ _ _) (by unfold bM6;rw[fI];unfold bak;rw[h3];rfl);have eb:aY7 s.rows k=x.2.2:=by unfold aY7;rw[hx]
 rw[bT1 H.backing rfl];show((exs S (run S (n+1)) (fO N.kW N.cN) [some (.ref D.p),some (.int k)] m).bind dK8)=_;have e2:exs S (run S (n+1)) (fO N.kW N.cN) [some (.ref D.p),some (.int k)] m=.ok (.ret (.ref m.length),[some (.ref D.p),some (.int k)]) (m++[.list ((aY7 s.rows k).map Wo.v)]):=by
  have w:Wp (exs S (run S (n+1)) (fO N.kW N.cN) [some (.ref D.p),some (.int k)]) m (λp m'=>p=(.ret (.ref m.length),[some (.ref D.p),some (.int k)]) /\ m'=m++[.list ((aY7 s.rows k).map Wo.v)]) nox:=by
   refine bJ e1 (a9 (aF3 (aE (aG (dW (aP rfl h.inst rfl) rfl ei) (aH (aG (a:=.ref m.length) (m':=m++[.list ((aY7 s.rows k).map Wo.v)]) ?_ ⟨rfl,rfl⟩))))));unfold biV;dsimp only;rw[g2,eb];rfl
  refine e2a3 (fU w) λa m' e z71 z72=>?_;rw[<- z71,<- z72];exact e
 rw[e2];rfl
end
end Mini.Internal
variable{i:Nat}
namespace Mini.Internal
open PySem
structure Lr where
 s:Int
 r:Int
 w:Wo
noncomputable def Lr.v(l:Lr):V:=.tup [.int l.s,.int l.r,l.w.v]
noncomputable def aW3(l:List (Int×Lr)):List (Ky×V):=tD (·.1) (λx=>x.2.v) l
structure Tn where
 cnt:Int
 hs:List Hs
 given:Int
 lets:List (Int×Lr)
 said:List Wo
noncomputable def Tn.send(t:Tn)(l:Lr):Tn:={ t with given:=t.given+1,lets:=t.lets++[(t.given,l)] }
noncomputable def Tn.say(t:Tn)(w:Wo):Tn:={ t with said:=aB4 w t.said }
noncomputable def Tn.to(h:Int)(w:Wo)(t:Tn)(j:Nat):Tn:=if (j:Int)=h then t else t.send ⟨h,j,w⟩
noncomputable def Tn.tell1(h:Int)(t:Tn)(w:Wo):Tn:=(List.range t.cnt.toNat).foldl (Tn.to h w) (t.say w)
noncomputable def Tn.tell(t:Tn)(h:Int)(ws:List Wo):Tn:=ws.foldl (Tn.tell1 h) t
structure Tn.Lk(t:Tn)(b:Nat):Prop where
 lt:∀x∈t.lets,x.1 < t.given
 ll:t.lets.length <= b
 sl:t.said.length <= b
theorem Tn.Lk.mono{t:Tn}(h:t.Lk b)(k:b <= c):t.Lk c:=⟨h.lt,Nat.le_trans h.ll k,Nat.le_trans h.sl k⟩
theorem Tn.Lk.send{t:Tn}(h:t.Lk b)(l:Lr):(t.send l).Lk (b+1):=by
 refine⟨λx hx=>?_,?_,Nat.le_succ_of_le h.sl⟩
 ·rcases List.mem_append.mp hx with hx | hx
  ·exact Int.lt_trans (h.lt x hx) (Int.lt_succ _)
  ·rw[List.mem_singleton.mp hx];exact Int.lt_succ _
 ·show(t.lets++[_]).length <= _
  rw[List.length_append];exact Nat.succ_le_succ h.ll
theorem Tn.Lk.say{t:Tn}(h:t.Lk b)(w:Wo):(t.say w).Lk (b+1):=⟨h.lt,Nat.le_succ_of_le h.ll,Nat.le_trans (aT8 w t.said) (Nat.succ_le_succ h.sl)⟩
theorem Tn.Lk.to{t:Tn}(h:t.Lk b)(i:Int)(w:Wo)(j:Nat):(t.to i w j).Lk (b+1):=by
 unfold Tn.to
 split
 ·exact h.mono (Nat.le_succ _)
 ·exact h.send _
theorem Tn.Lk.tos{b:Nat}(i:Int)(w:Wo):∀(l:List Nat) {t:Tn} {b:Nat},t.Lk b->(l.foldl (Tn.to i w) t).Lk (b+l.length)
 |[],_,_,h=>h
 |j::l,t,b,h=>by
  have:=Tn.Lk.tos (b:=0) i w l (h.to i w j);rw[List.length_cons,Nat.add_comm l.length,<- Nat.add_assoc];exact this
theorem dF6(i:Int)(w:Wo)(t:Tn)(j:Nat):(t.to i w j).cnt=t.cnt /\ (t.to i w j).hs=t.hs /\ (t.to i w j).said=t.said:=by
 unfold Tn.to
 split <;> exact⟨rfl,rfl,rfl⟩
theorem bQ9(i:Int)(w:Wo):∀(l:List Nat) (t:Tn),(l.foldl (Tn.to i w) t).cnt=t.cnt /\ (l.foldl (Tn.to i w) t).hs=t.hs /\ (l.foldl (Tn.to i w) t).said=t.said
 |[],_=>⟨rfl,rfl,rfl⟩
 |j::l,t=>by
  have h:=bQ9 i w l (t.to i w j);have k:=dF6 i w t j;exact⟨h.1.trans k.1,h.2.1.trans k.2.1,h.2.2.trans k.2.2⟩
theorem aI1(i:Int)(w:Wo)(t:Tn):(t.tell1 i w).cnt=t.cnt /\ (t.tell1 i w).hs=t.hs /\ (t.tell1 i w).said=aB4 w t.said:=bQ9 i w _ (t.say w)
theorem Tn.Lk.tell1{t:Tn}(h:t.Lk b)(i:Int)(w:Wo)(h2:t.cnt <= 12):(t.tell1 i w).Lk (b+13):=by
 have:=Tn.Lk.tos (b:=0) i w (List.range t.cnt.toNat) (h.say w);refine this.mono ?_;rw[List.length_range,Nat.add_assoc];exact Nat.add_le_add_left (by rw[Nat.add_comm];exact Nat.succ_le_succ (dB h2)) b
theorem bM(i:Int):∀(ws:List Wo) (t:Tn),(t.tell i ws).cnt=t.cnt /\ (t.tell i ws).hs=t.hs /\ (t.tell i ws).said=ws.foldl (λl w=>aB4 w l) t.said
 |[],_=>⟨rfl,rfl,rfl⟩
 |w::l,t=>by
  have h:=bM i l (t.tell1 i w);have k:=aI1 i w t;refine⟨h.1.trans k.1,h.2.1.trans k.2.1,h.2.2.trans ?_⟩;rw[k.2.2];rfl
theorem Tn.Lk.tell(i:Int):∀(ws:List Wo) {t:Tn} {b:Nat},t.Lk b->t.cnt <= 12->(t.tell i ws).Lk (b+13 * ws.length)
 |[],_,_,h,_=>h
 |w::l,t,b,h,h2=>by
  have:=Tn.Lk.tell i l (h.tell1 i w h2) (by rw[(aI1 i w t).1];exact h2);rw[List.length_cons,Nat.mul_succ,Nat.add_comm (13 * l.length),<- Nat.add_assoc];exact this
structure Td where
 p:Nat
 h:Nat
 o:Nat
 l:Nat
 s:Nat
 ds:List Hd
noncomputable def Td.foot(T:Td):List Nat:=[T.p,T.h,T.o,T.l,T.s]
noncomputable def Td.all(T:Td):List Nat:=T.foot++T.ds.flatMap Hd.all
theorem Td.m0{T:Td}:T.p∈T.foot:=.head _
theorem Td.m1{T:Td}:T.h∈T.foot:=.tail _ (.head _)
theorem Td.m2{T:Td}:T.o∈T.foot:=.tail _ (.tail _ (.head _))
theorem Td.m3{T:Td}:T.l∈T.foot:=.tail _ (.tail _ (.tail _ (.head _)))
theorem Td.m4{T:Td}:T.s∈T.foot:=.tail _ (.tail _ (.tail _ (.tail _ (.head _))))
theorem Td.ne{T:Td}(h:T.foot.Nodup):T.o≠T.l /\ T.o≠T.s /\ T.l≠T.s:=⟨cH4 h (i:=2) (j:=3) rfl rfl (by decide),cH4 h (i:=2) (j:=4) rfl rfl (by decide),cH4 h (i:=3) (j:=4) rfl rfl (by decide)⟩
theorem Td.out{T:Td}(h:T.foot.Nodup):T.p∉[T.o,T.l,T.s] /\ T.h∉[T.o,T.l,T.s]:=by
 have a:=List.nodup_cons.mp h;have b:=List.nodup_cons.mp a.2;exact⟨λc=>a.1 (.tail _ c),b.1⟩
theorem Td.mem{T:Td}{x:Nat}:x∈T.all↔x∈T.foot \/ ∃D∈T.ds,x∈D.all:=by
 unfold Td.all;rw[List.mem_append,List.mem_flatMap]
noncomputable def cJ8(t:Tn)(T:Td):List (Ky×V):=tD (·.1) (λx:Int×Nat=>V.ref x.2) ((t.hs.map (·.own)).zip (T.ds.map (·.p)))
structure To(m:MH)(N:HN)(T:Td)(t:Tn):Prop where
 inst:m[T.p]?=some (.inst (N.C+2) [(8,.int t.cnt),(26,.ref T.h),(27,.ref T.o),(28,.ref T.s)])
 hd:∃e,m[T.h]?=some (.dict (cJ8 t T) e)
 po:m[T.o]?=some (.inst (N.C+1) [(20,.int t.given),(21,.ref T.l)])
 le:∃e,m[T.l]?=some (.dict (aW3 t.lets) e)
 sa:∃e,m[T.s]?=some (.dict (kD t.said) e)
 hs:∀(i:Nat) (D:Hd),T.ds[i]?=some D->∃s,t.hs[i]?=some s /\ Ho m N.C D s
 len:T.ds.length=t.hs.length
 nd:T.foot.Nodup
 df:∀D∈T.ds,∀x∈D.all,x∉T.foot
 dd:∀(i j:Nat) (D D':Hd),T.ds[i]?=some D->T.ds[j]?=some D'->i≠j->∀x∈D.all,x∉D'.all
section
variable{N:HN}{T:Td}{t:Tn}
theorem To.mod{X:List Nat}(h:To m N T t)(l:Mod X m m')(hx:∀x∈T.all,x∉X):To m' N T t:=by
 have F:∀x∈T.foot,x∉X:=λx q=>hx x (Td.mem.mpr (.inl q));refine⟨l.has h.inst (F _ Td.m0),h.hd.imp λe k=>l.has k (F _ Td.m1),l.has h.po (F _ Td.m2),h.le.imp λe k=>l.has k (F _ Td.m3),h.sa.imp λe k=>l.has k (F _ Td.m4),λi D e=>?_,h.len,h.nd,h.df,h.dd⟩;refine e1a2 (h.hs i D e) λs k1 k2=>?_;exact⟨s,k1,k2.mod l λx q=>hx x (Td.mem.mpr (.inr ⟨D,List.mem_of_getElem? e,q⟩))⟩
theorem To.up(h:To m N T t)(l:Le m m'):To m' N T t:=h.mod (X:=[]) l.mod λy_ y_ q=>nomatch q
theorem To.lt(h:To m N T t):∀x∈T.all,x < m.length:=by
 intro x hx;rcases Td.mem.mp hx with hx | ⟨D,hD,hx⟩
 ·refine e1a1 h.hd λy_ k1=>?_
  refine e1a1 h.le λy_ k2=>?_;refine e1a1 h.sa λy_ k3=>?_;simp only[Td.foot,List.mem_cons,List.not_mem_nil,or_false]at hx;rcases hx with rfl | rfl | rfl | rfl | rfl
  ·exact aS h.inst
  ·exact aS k1
  ·exact aS h.po
  ·exact aS k2
  ·exact aS k3
 ·refine e1a1 (List.getElem?_of_mem hD) λi e=>?_
  refine e1a2 (h.hs i D e) λs y_ k=>?_;exact k.lt x hx
theorem To.out(h:To m N T t){q:Nat}(hq:m.length <= q):q∉T.all:=λc=>Nat.not_lt.mpr hq (h.lt q c)
theorem To.chg(h:To m N T t)(M:Mod [T.o,T.l,T.s] m m'){g:Int}{ls:List (Int×Lr)}{sd:List Wo}(po:m'[T.o]?=some (.inst (N.C+1) [(20,.int g),(21,.ref T.l)]))(le:∃e,m'[T.l]?=some (.dict (aW3 ls) e))(sa:∃e,m'[T.s]?=some (.dict (kD sd) e)):To m' N T { t with given:=g,lets:=ls,said:=sd }:=by
 have hp:=Td.out h.nd;refine⟨M.has h.inst hp.1,h.hd.imp λe k=>M.has k hp.2,po,le,sa,λi D e=>?_,h.len,h.nd,h.df,h.dd⟩;refine e1a2 (h.hs i D e) λs k1 k2=>?_;exact⟨s,k1,k2.mod M λx q c=>h.df D (List.mem_of_getElem? e) x q (.tail _ (.tail _ c))⟩
theorem aC2{l:List α}{x:α}(h:l[i]?=some x):l.set i x=l:=by
 refine List.ext_getElem? λj=>?_;by_cases q:i=j
 ·subst q;rw[List.getElem?_set_self (List.getElem?_eq_some_iff.mp h).1,h]
 ·rw[List.getElem?_set_ne q]
set_option tactic.hygienic true in
theorem To.hou(h:To m N T t){i:Nat}{D:Hd}{s s':Hs}{l:List Nat}(hi:T.ds[i]?=some D)(hs:t.hs[i]?=some s)(ho:s'.own=s.own)(M:Mod D.foot m m')(H:Ho m' N.C (D.ext l) s')(hl:∀y∈l,m.length <= y):To m' N { T with ds:=T.ds.set i (D.ext l) } { t with hs:=t.hs.set i s' }:=by
 have hD:=List.mem_of_getElem? hi;have lt:=(List.getElem?_eq_some_iff.mp hi).1;have F:∀x∈T.foot,x∉D.foot:=λx q c=>h.df D hD x (List.mem_append_left _ c) q;have ext:∀x,x∈(D.ext l).all->x∈D.all \/ m.length <= x:=λx q=>by
  rcases List.mem_append.mp q with q | q
  ·exact .inl (List.mem_append_left _ q)
  ·rcases List.mem_append.mp q with q | q
   ·exact .inl (List.mem_append_right _ q)
   ·exact .inr (hl x q)
 have get:∀(j:Nat) (D':Hd),(T.ds.set i (D.ext l))[j]?=some D'->(j=i /\ D'=D.ext l) \/ (j≠i /\ T.ds[j]?=some D'):=λj D' e=>by
  by_cases q:i=j
  ·subst q
   rw[List.getElem?_set_self lt]at e;exact .inl ⟨rfl,(Option.some.inj e).symm⟩
  ·rw[List.getElem?_set_ne q]at e
   exact .inr ⟨λc=>q c.symm,e⟩
 have oldlt:∀(j:Nat) (D':Hd),T.ds[j]?=some D'->∀x∈D'.all,x < m.length:=λj D' e x q=>h.lt x (Td.mem.mpr (.inr ⟨D',List.mem_of_getElem? e,q⟩));refine⟨M.has h.inst (F _ Td.m0),?_,M.has h.po (F _ Td.m2),h.le.imp λe k=>M.has k (F _ Td.m3),h.sa.imp λe k=>M.has k (F _ Td.m4),λj D' e=>?_,?_,h.nd,λD' q=>?_,λj k D1 D2 e1 e2 hne x q=>?_⟩
 ·refine e1a1 h.hd λe k=>?_
  refine⟨e,?_⟩;have e1:(t.hs.set i s').map (·.own)=t.hs.map (·.own):=by
   rw[List.map_set,ho];exact aC2 (by rw[List.getElem?_map,hs];rfl)
  have e2:(T.ds.set i (D.ext l)).map (·.p)=T.ds.map (·.p):=by
   rw[List.map_set];exact aC2 (by rw[List.getElem?_map,hi];rfl)
  show m'[T.h]?=some (.dict (tD _ _ (((t.hs.set i s').map (·.own)).zip ((T.ds.set i (D.ext l)).map (·.p)))) e);rw[e1,e2];exact M.has k (F _ Td.m1)
 ·rcases get j D' e with⟨rfl,rfl⟩ | ⟨hj,e⟩
  ·exact⟨s',List.getElem?_set_self (by rw[<- h.len];exact lt),H⟩
  ·refine e1a2 (h.hs j D' e) λs1 k1 k2=>?_
   refine⟨s1,by rw[List.getElem?_set_ne λc=>hj c.symm];exact k1,k2.mod M λx q c=>h.dd j i D' D e hi hj x q (List.mem_append_left _ c)⟩
 ·rw[List.length_set,List.length_set];exact h.len
 ·refine e1a1 (List.getElem?_of_mem q) λj e=>?_
  intro x hx c;rcases get j D' e with⟨rfl,rfl⟩ | ⟨hj,e⟩
  ·rcases ext x hx with z | z
   ·exact h.df D hD x z c
   ·exact Nat.not_lt.mpr z (h.lt x (Td.mem.mpr (.inl c)))
  ·exact h.df D' (List.mem_of_getElem? e) x hx c
 ·rcases get j D1 e1 with⟨rfl,rfl⟩ | ⟨hj,e1⟩
  ·rcases get k D2 e2 with⟨rfl,rfl⟩ | ⟨hk,e2⟩
   ·exact absurd rfl hne
   ·intro c
    rcases ext x q with z | z
    ·exact h.dd j k D D2 hi e2 hne x z c
    ·exact Nat.not_lt.mpr z (oldlt k D2 e2 x c)
  ·rcases get k D2 e2 with⟨rfl,rfl⟩ | ⟨hk,e2⟩
   ·intro c
    rename_i e0;rcases ext x c with z | z
    ·exact h.dd j k D1 D e0 hi hne x q z
    ·exact Nat.not_lt.mpr z (oldlt j D1 e0 x q)
   ·exact h.dd j k D1 D2 e1 e2 hne x q
end
noncomputable def Tw(m:MH)(N:HN)(p:Nat)(t:Tn)(B:List (Nat×MObj)):Prop:=∃T,T.p=p /\ To m N T t /\ ∀x∈B,x.1∉T.all /\ m[x.1]?=some x.2
section
variable{N:HN}{t:Tn}
theorem Tw.new(h:Tw m N p t B)(l:Le m m'){q:Nat}{o:MObj}(k:m'[q]?=some o)(g:m.length <= q):Tw m' N p t ((q,o)::B):=by
 refine e1a3 h λT e h1 h2=>?_;exact⟨T,e,h1.up l,b9 ⟨h1.out g,k⟩ λx q=>⟨(h2 x q).1,l.has (h2 x q).2⟩⟩
theorem Tw.has(h:Tw m N p t B){q:Nat}{o:MObj}(k:(q,o)∈B):m[q]?=some o:=by
 refine e1a3 h λT e h1 h2=>?_;exact(h2 _ k).2
theorem Tw.sub(h:Tw m N p t B)(k:∀x∈B',x∈B):Tw m N p t B':=by
 refine e1a3 h λT e h1 h2=>?_;exact⟨T,e,h1,λx q=>h2 x (k x q)⟩
theorem Tw.set(h:Tw m N p t ((q,o)::B))(o':MObj)(hn:∀x∈B,x.1≠q):Tw (m.set q o') N p t ((q,o')::B):=by
 refine e1a3 h λT e h1 h2=>?_;have hq:=(h2 _ (.head _)).1;refine⟨T,e,h1.mod (X:=[q]) (Mod.set (.head _)) λx hx c=>hq (List.mem_singleton.mp c▸hx),b9 ⟨hq,aZ (h2 _ (.head _)).2⟩ λx hx=>⟨(h2 x (.tail _ hx)).1,aQ (λc=>hn x hx c.symm) (h2 x (.tail _ hx)).2⟩⟩
end
end Mini.Internal
variable{u:Option Tn}{t y:Tn}{ls:List (Option Lr)}{T:Td}
namespace Mini.Internal
open PySem
noncomputable def cB4:List CS:=[
 (.asg (.attr (.var 0) 20) (.cnst (Lt.int 0))),
 (.asg (.attr (.var 0) 21) (.dict [] []))]
noncomputable def cQ0:List CS:=[
 (.asg (.one (.one 2)) (.attr (.var 0) 20)),
 (.asg (.attr (.var 0) 20) (.bin .Add (.var 2) (.cnst (Lt.int 1)))),
 (.asg (.idx (.attr (.var 0) 21) (.var 2)) (.var 1)),
 (.ret (.var 2))]
noncomputable def bI6(kW cL:Nat):List CS:=[
 (.ite (.all false [(.not (.val (.call kW [(.var 1)]))),(.val (.cmp (.var 1) [.NotIn] [(.attr (.var 0) 21)]))]) [
  (.rse cL (Str.ofString "no such letter waits"))] []),
 (.ret (.smeth (.attr (.var 0) 21) .pop [(.var 1)]))]
noncomputable def cB3:List CS:=[
 (.ret (.comp (.tup [(.var 1),(.idx (.attr (.var 0) 21) (.var 1))]) (.one 1) 1 .expr [(.bi .sorted [(.attr (.var 0) 21)])] []))]
noncomputable def cB1(kN kW cH C:Nat):List CS:=[
 (.exp (.call kN [(.var 1)])),
 (.ite (.not (.val (.isi (.var 2) .list))) [
  (.rse cH (Str.ofString "a list of liars is wanted"))] []),
 (.asg (.one (.one 3)) (.dict [] [])),
 (.for_ .expr (.one 4) [(.var 2)] [
  (.ite (.all false [(.not (.val (.call kW [(.var 4)]))),(.not (.val (.cmp (.cnst (Lt.int 0)) [.LtE,.Lt] [(.var 4),(.var 1)]))),(.val (.cmp (.var 4) [.In] [(.var 3)]))]) [
   (.rse cH (Str.ofString "no other house of the town"))] []),
  (.asg (.idx (.var 3) (.var 4)) (.cnst (Lt.bool true)))]),
 (.asg (.attr (.var 0) 8) (.var 1)),
 (.asg (.attr (.var 0) 26) (.dict [] [])),
 (.for_ .range (.one 4) [(.var 1)] [
  (.ite (.val (.cmp (.var 4) [.NotIn] [(.var 3)])) [
   (.asg (.idx (.attr (.var 0) 26) (.var 4)) (.new C [(.var 1),(.var 4)]))] [])]),
 (.asg (.attr (.var 0) 27) (.new (C+1) [])),
 (.asg (.attr (.var 0) 28) (.dict [] []))]
noncomputable def bJ0(kW cH:Nat):List CS:=[
 (.ite (.all false [(.not (.val (.call kW [(.var 1)]))),(.val (.cmp (.var 1) [.NotIn] [(.attr (.var 0) 26)]))]) [
  (.rse cH (Str.ofString "no honest house of the town"))] []),
 (.ret (.idx (.attr (.var 0) 26) (.var 1)))]
noncomputable def cP9:List CS:=[
 (.for_ .expr (.one 3) [(.var 2)] [
  (.asg (.idx (.attr (.var 0) 28) (.var 3)) (.cnst (Lt.bool true))),
  (.for_ .range (.one 4) [(.attr (.var 0) 8)] [
   (.ite (.val (.cmp (.var 4) [.NotEq] [(.var 1)])) [
    (.exp (.meth (.attr (.var 0) 27) 17 [(.tup [(.var 1),(.var 4),(.var 3)])]))] [])])]),
 (.ret (.bi .list [(.var 2)]))]
noncomputable def cB2:List CS:=[
 (.asg (.one (.one 3)) (.meth (.meth (.var 0) 22 [(.var 1)]) 0 [(.var 2)])),
 (.ret (.meth (.var 0) 23 [(.var 1),(.var 3)]))]
noncomputable def bI4:List CS:=[
 (.asg (.one (.one 2)) (.meth (.attr (.var 0) 27) 18 [(.var 1)])),
 (.ite (.val (.cmp (.idx (.var 2) (.cnst (Lt.int 1))) [.NotIn] [(.attr (.var 0) 26)])) [
  (.ret (.list []))] []),
 (.ret (.meth (.var 0) 23 [(.idx (.var 2) (.cnst (Lt.int 1))),(.meth (.idx (.attr (.var 0) 26) (.idx (.var 2) (.cnst (Lt.int 1)))) 1 [(.idx (.var 2) (.cnst (Lt.int 2)))])]))]
noncomputable def dM9(kW kD cH cW cF:Nat):List CS:=[
 (.ite (.all false [(.not (.val (.call kW [(.var 1)]))),(.not (.val (.cmp (.cnst (Lt.int 0)) [.LtE,.Lt] [(.var 1),(.attr (.var 0) 8)]))),(.val (.cmp (.var 1) [.In] [(.attr (.var 0) 26)]))]) [
  (.rse cH (Str.ofString "no liar of the town"))] []),
 (.ite (.all false [(.not (.val (.call kW [(.var 2)]))),(.not (.val (.cmp (.cnst (Lt.int 0)) [.LtE,.Lt] [(.var 2),(.attr (.var 0) 8)]))),(.val (.cmp (.var 2) [.Eq] [(.var 1)]))]) [
  (.rse cH (Str.ofString "no other house of the town"))] []),
 (.ite (.not (.val (.call kD [(.attr (.var 0) 8),(.var 3)]))) [
  (.rse cW (Str.ofString "no word of the town"))] []),
 (.ite (.all true [(.val (.cmp (.idx (.var 3) (.cnst (Lt.int 3))) [.NotEq] [(.var 1)])),(.val (.cmp (.var 3) [.NotIn] [(.attr (.var 0) 28)]))]) [
  (.rse cF (Str.ofString "nobody has spoken that word"))] []),
 (.asg (.idx (.attr (.var 0) 28) (.var 3)) (.cnst (Lt.bool true))),
 (.ret (.meth (.attr (.var 0) 27) 17 [(.tup [(.var 1),(.var 2),(.var 3)])]))]
noncomputable def cB0:List CS:=[
 (.ret (.meth (.attr (.var 0) 27) 19 []))]
noncomputable def bI5:List CS:=[
 (.ret (.bi .list [(.attr (.var 0) 28)]))]
noncomputable def aY9:List CS:=[
 (.ret (.meth (.meth (.var 0) 22 [(.var 1)]) 5 []))]
noncomputable def aP6:List CS:=[
 (.ret (.meth (.meth (.var 0) 22 [(.var 1)]) 6 [(.var 2)]))]
noncomputable def aZ0:List CS:=[
 (.ret (.meth (.meth (.var 0) 22 [(.var 1)]) 7 []))]
structure TF(S:Sig)(N:HN):Prop where
 H:HF S N
 caller:cJ S (N.kR+1) 2 2 aH2
 word:cJ S (N.kR+2) 2 2 (aL1 N.kN N.kW N.kR (N.kR+1) (N.gS+1))
 gN:∃nm,S.globs[N.gS+1]?=some (nm,.int 9999)
 pinit:cJ S (N.ki+9) 1 1 cB4
 send:cJ S (N.ki+10) 2 3 cQ0
 pbring:cJ S (N.ki+11) 2 2 (bI6 N.kW (N.cR+3))
 pwait:cJ S (N.ki+12) 1 1 cB3
 tinit:cJ S (N.ki+13) 3 5 (cB1 N.kN N.kW N.cH N.C)
 honest:cJ S (N.ki+14) 2 2 (bJ0 N.kW N.cH)
 tell:cJ S (N.ki+15) 3 5 cP9
 tcall:cJ S (N.ki+16) 3 4 cB2
 tbring:cJ S (N.ki+17) 2 3 bI4
 lie:cJ S (N.ki+18) 4 4 (dM9 N.kW (N.kR+2) N.cH (N.cR+1) (N.cR+2))
 twait:cJ S (N.ki+19) 1 1 cB0
 spoken:cJ S (N.ki+20) 1 1 bI5
 tledger:cJ S (N.ki+21) 2 2 aY9
 tbacking:cJ S (N.ki+22) 3 3 aP6
 tcaught:cJ S (N.ki+23) 2 2 aZ0
 post:∃d,S.cls[N.C+1]?=some d /\ d.exc=false /\ d.init=some (N.ki+9) /\ d.meths.lookup 17=some (N.ki+10) /\ d.meths.lookup 18=some (N.ki+11) /\ d.meths.lookup 19=some (N.ki+12)
 town:∃d,S.cls[N.C+2]?=some d /\ d.exc=false /\ d.init=some (N.ki+13) /\ d.meths=[(22,N.ki+14),(23,N.ki+15),(0,N.ki+16),(18,N.ki+17),(24,N.ki+18),(19,N.ki+19),(25,N.ki+20),(5,N.ki+21),(6,N.ki+22),(7,N.ki+23)]
theorem cV0{v:Lr}{l:List (Int×Lr)}(h:∀x∈l,x.1 < k):put (.int k) v.v (aW3 l)=aW3 (l++[(k,v)]):=by
 unfold aW3;rw[aC6]
 ·unfold tD;rw[List.map_append];rfl
 ·rw[List.any_eq_false]
  intro x hx e;exact absurd (eq_of_beq e) (Int.ne_of_lt (h x hx))
section
variable{N:HN}
theorem bS7(Z:TF S N)(n:Nat)(l:Lr){b:Nat}(h:To m N T t)(k:t.Lk b)(hb:b < lid):Wp (run S (n+1) (N.ki+10) [.ref T.o,l.v]) m (λu m'=>u=.int t.given /\ To m' N T (t.send l) /\ Mod [T.o,T.l,T.s] m m') nox:=by
 refine e1a1 h.le λe kd=>?_;have nd:=Td.ne h.nd;have nol:T.o≠T.l:=nd.1;have nos:T.o≠T.s:=nd.2.1;have nls:T.l≠T.s:=nd.2.2;refine bL Z.send rfl (bC (aG (aP rfl h.po rfl) (aC5 (aC rfl (aC rfl ⟨T.o,N.C+1,_,rfl,h.po,?_⟩)))));have po1:=aZ (o':=.inst (N.C+1) [(20,.int (t.given+1)),(21,.ref T.l)]) h.po;have le1:=aQ (o':=.inst (N.C+1) [(20,.int (t.given+1)),(21,.ref T.l)]) nol kd;refine dR (aC rfl (aG (aP rfl po1 rfl) (aC rfl (d9 le1 (k:=.int t.given) rfl (aV _ _ _ _) (by unfold aW3 tD;rw[List.length_map];exact Nat.lt_of_le_of_lt k.ll hb) ?_))));show Wp _ (List.set _ T.l (.dict (put (.int t.given) l.v (aW3 t.lets)) (e+1))) _ _;rw[cV0 k.lt];have M:Mod [T.o,T.l,T.s] m ((m.set T.o (.inst (N.C+1) [(20,.int (t.given+1)),(21,.ref T.l)])).set T.l (.dict (aW3 (t.lets++[(t.given,l)])) (e+1))):=(Mod.set (.head _)).trans (Mod.set (.tail _ (.head _)));refine a9 (aC rfl ⟨rfl,h.chg M (aQ (λq=>nol q.symm) po1) ⟨_,aZ le1⟩ ?_,M⟩);exact h.sa.imp λe' k'=>aQ nls (aQ nos k')
theorem nq(h:q∉T.all):q∉[T.o,T.l,T.s]:=λc=>h (Td.mem.mpr (.inl (.tail _ (.tail _ c))))
inductive TIn(N:HN)(T:Td)(t:Tn)(h:Int)(q:Nat)(w:Wo)(m:MH)(zs:List Nat)(r:Lo)(m':MH):Prop
 |mk (a:List Nat) (x:Option V) (e:List.range t.cnt.toNat=a++zs) (er:r=[some (.ref T.p),some (.int h),some (.ref q),some w.v,x]) (k:To m' N T (a.foldl (Tn.to h w) (t.say w))) (M:Mod [T.o,T.l,T.s] m m')
inductive TOut(N:HN)(T:Td)(t:Tn)(h:Int)(q:Nat)(ws:List Wo)(m:MH)(zs:List Wo)(r:Lo)(m':MH):Prop
 |mk (a:List Wo) (x y:Option V) (e:ws=a++zs) (er:r=[some (.ref T.p),some (.int h),some (.ref q),x,y]) (k:To m' N T (t.tell h a)) (M:Mod [T.o,T.l,T.s] m m')
theorem cT4(Z:TF S N)(n:Nat)(h:Int){ws:List Wo}{q b:Nat}(H:Tw m N p t B)(hq:(q,.list (ws.map Wo.v))∈B)(k:t.Lk b)(hb:b+13 * ws.length < lid)(h0:1 <= t.cnt)(h2:t.cnt <= 12):Wp (run S (n+2) (N.ki+15) [.ref p,.int h,.ref q]) m (λu m'=>∃q',u=.ref q' /\ Tw m' N p (t.tell h ws) ((q',.list (ws.map Wo.v))::B) /\ m.length <= q') nox:=by
 refine e1a3 H λT z71 h1 hB=>?_;subst z71;refine e1a5 Z.post λy_ hpd y_ y_ hm1 y_=>?_;have qo:=nq (hB _ hq).1;have kq:m[q]?=some (.list (ws.map Wo.v)):=(hB _ hq).2;refine bL Z.tell rfl (eR ws Wo.v (TOut N T t h q ws m) (aE (aC rfl (aH (fA kq ⟨rfl,⟨[],none,none,rfl,rfl,h1,Mod.refl _ _⟩,?_,?_,?_⟩)))))
 ·rintro zs r m' ⟨a,x,y,e,er,k',M⟩
  exact dE (M.has kq qo)
 ·rintro w zs r m' ⟨a,x,y,e,er,k',M⟩
  subst er;refine e1a1 k'.sa λes ks=>?_;have lk:=Tn.Lk.tell h a k h2;have al:a.length+1 <= ws.length:=by rw[e,List.length_append,List.length_cons,<- Nat.add_assoc];exact Nat.succ_le_succ (Nat.le_add_right _ _)
  have cn:(t.tell h a).cnt=t.cnt:=(bM h a t).1;have bl:b+13 * a.length+13 < lid:=Nat.lt_of_le_of_lt (by rw[Nat.add_assoc];exact Nat.add_le_add_left (Nat.mul_le_mul_left 13 al) b) hb;refine aC rfl (dR (aC rfl (aG (aP rfl k'.inst rfl) (aC rfl (d9 ks (k:=w.ky) rfl (dF _ _) (by unfold kD;rw[List.length_map];exact Nat.lt_of_le_of_lt lk.sl (Nat.lt_of_le_of_lt (Nat.le_add_right _ 13) bl)) ?_)))));show Wp _ (m'.set T.s (.dict (put w.ky (.bool true) (kD (t.tell h a).said)) (es+1))) _ _;rw[aV0];have nd:=Td.ne h1.nd;have M1:Mod [T.o,T.l,T.s] m' (m'.set T.s (.dict (kD (aB4 w (t.tell h a).said)) (es+1))):=Mod.set (.tail _ (.tail _ (.head _)));have k1:To (m'.set T.s (.dict (kD (aB4 w (t.tell h a).said)) (es+1))) N T ((t.tell h a).say w):=k'.chg M1 (aQ (λc=>nd.2.1 c.symm) k'.po) (k'.le.imp λe' k'=>aQ (λc=>nd.2.2 c.symm) k') ⟨_,aZ ks⟩
  generalize m'.set T.s (.dict (kD (aB4 w (t.tell h a).said)) (es+1))=m1 at M1 k1 ⊢
  have M2:=M.trans M1;refine eR (List.range (t.tell h a).cnt.toNat) (λ(j:Nat)=>V.int (0+(j:Int))) (TIn N T (t.tell h a) h q w m) (aE (aG (aP rfl k1.inst rfl) (aH (aG (aL8 ?_) ⟨rfl,⟨[],y,rfl,rfl,k1,M2⟩,λy_ y_ y_ y_=>rfl,?_,?_⟩))))
  ·show((t.tell h a).cnt).natAbs < 2 ^ 30
   rw[cn];exact Nat.lt_of_lt_of_le (aF2 (c:=13) (Int.le_trans (by decide) h0) (Int.lt_of_le_of_lt h2 (by decide:(12:Int) < 13)) (by decide)) (by decide)
  ·rintro j js r m2 ⟨c,z,e2,er,k2,M3⟩
   subst er;refine aC rfl (bJ (t:=!((0+(j:Int)) == h)) (aT (aR rfl rfl rfl)) ?_);have ej:(c++[j]).foldl (Tn.to h w) ((t.tell h a).say w)=Tn.to h w (c.foldl (Tn.to h w) ((t.tell h a).say w)) j:=by rw[List.foldl_append];rfl
   have ec:List.range (t.tell h a).cnt.toNat=(c++[j])++js:=by rw[e2,List.append_assoc];rfl
   cases hz:(0+(j:Int)) == h with
   |true=>
    have hz:=eq_of_beq hz;rw[Int.zero_add]at hz;exact cS ⟨c++[j],some (.int (0+(j:Int))),ec,rfl,by rw[ej];unfold Tn.to;rw[if_pos hz];exact k2,M3⟩
   |false=>
    have hz:¬((j:Int)=h):=λq=>by rw[q,Int.zero_add,beq_self_eq_true]at hz;injection hz
    have lk2:=Tn.Lk.tos (b:=0) h w c (lk.say w);have cl:c.length <= 12:=by
     have:=congrArg List.length e2;rw[List.length_range,List.length_append,cn]at this;exact Nat.le_trans (Nat.le_add_right _ _) (this▸dB h2)
    refine eC (bN (aG (aP rfl k2.inst rfl) ⟨T.o,N.C+1,_,_,N.ki+10,rfl,k2.po,hpd,rfl,hm1,?_⟩));refine aC rfl ?_;refine bF (bS7 Z n ⟨h,0+(j:Int),w⟩ k2 lk2 (Nat.lt_of_le_of_lt (by rw[Nat.add_assoc];exact Nat.add_le_add_left (by rw[Nat.add_comm];exact Nat.succ_le_succ cl) _) bl)) λu m3 z3=>?_;refine cS ⟨c++[j],some (.int (0+(j:Int))),ec,rfl,?_,M3.trans z3.2.2⟩;rw[ej];unfold Tn.to;rw[if_neg hz];have:=z3.2.1;rw[Int.zero_add]at this;exact this
  ·rintro r m2 ⟨c,z,e2,er,k2,M3⟩
   subst er;rw[List.append_nil]at e2;refine cS ⟨a++[w],some w.v,z,by rw[e,List.append_assoc];rfl,rfl,?_,M3⟩;unfold Tn.tell;rw[List.foldl_append];show To m2 N T (Tn.tell1 h (t.tell h a) w);unfold Tn.tell1;rw[e2];exact k2
 ·rintro r m' ⟨a,x,y,e,er,k',M⟩
  subst er;rw[List.append_nil]at e;subst e;have kq':=M.has kq qo;have el:biV .list [.ref q] m'=alloc (.list (ws.map Wo.v)) m':=by unfold biV;dsimp only;rw[kq']
  refine a9 (aF3 (aE (aC rfl (aH (dU el (aK λq' m2 l k2 g=>⟨q',rfl,?_⟩))))));have tw:Tw m' N T.p (t.tell h ws) B:=⟨T,rfl,k',λx hx=>⟨(hB x hx).1,M.has (hB x hx).2 (nq (hB x hx).1)⟩⟩
  exact⟨tw.new l k2 g,Nat.le_trans M.1 g⟩
end
structure Tn.Ok(t:Tn)(b:Nat):Prop where
 lk:t.Lk b
 c1:1 <= t.cnt
 c2:t.cnt <= 12
 on:(t.hs.map (·.own)).Nodup
 hc:∀s∈t.hs,s.cnt=t.cnt /\ s.sz <= b
 as:(t.lets.map (·.1)).Pairwise (· < ·)
noncomputable def Tn.turn(t:Tn)(i:Nat)(x:Hs×List Wo):Tn:=Tn.tell { t with hs:=t.hs.set i x.1 } x.1.own x.2
noncomputable def Tn.take(t:Tn)(k:Int):Tn:={ t with lets:=t.lets.filter λx=>!(x.1 == k) }
section
variable{N:HN}
theorem aS2(len:T.ds.length=t.hs.length)(nd:(t.hs.map (·.own)).Nodup)(hs:t.hs[i]?=some s):∃D,T.ds[i]?=some D /\ look (.int s.own) (cJ8 t T)=some (.ref D.p):=by
 have lt:=(List.getElem?_eq_some_iff.mp hs).1;have lt':i < T.ds.length:=by rw[len];exact lt
 refine⟨T.ds[i],List.getElem?_eq_getElem lt',?_⟩;unfold cJ8;rw[fI];have key:∀(is:List Int) (js:List Nat) (i:Nat) (x:Int) (y:Nat),is.Nodup->is[i]?=some x->js[i]?=some y->(is.zip js).find? (λz=>z.1 == x)=some (x,y):=by
  intro is
  induction is with
  |nil=>intro js i x y _ h;injection h
  |cons a is ih=>
   intro js i x y nd h1 h2
   cases js with
   |nil=>injection h2
   |cons c js=>
    have nd:=List.nodup_cons.mp nd
    cases i with
    |zero=>
     have e1:a=x:=Option.some.inj h1;have e2:c=y:=Option.some.inj h2;subst e1 e2;exact List.find?_cons_of_pos (by exact beq_self_eq_true a)
    |succ i=>
     have h1:is[i]?=some x:=h1;rw[List.zip_cons_cons,List.find?_cons_of_neg]
     ·exact ih js i x y nd.2 h1 h2
     ·intro q
      exact nd.1 ((show a=x from eq_of_beq q)▸List.mem_of_getElem? h1)
 rw[key _ _ i s.own T.ds[i].p nd (by rw[List.getElem?_map,hs];rfl) (by rw[List.getElem?_map,List.getElem?_eq_getElem lt'];rfl)];rfl
theorem aS1(hs:∀s∈t.hs,s.own≠h):(look (.int h) (cJ8 t T)).isSome=false:=by
 unfold cJ8;rw[cP,List.any_eq_false];intro x hx e;have:x.1∈t.hs.map (·.own):=(List.of_mem_zip (a:=x.1) (b:=x.2) hx).1;refine e1a2 (List.mem_map.mp this) λs h1 h2=>?_;exact hs s h1 (h2.trans (eq_of_beq e))
theorem fJ(Z:TF S N)(n:Nat)(h:To m N T t)(nd:(t.hs.map (·.own)).Nodup)(hs:t.hs[i]?=some s):∃D,T.ds[i]?=some D /\ Ho m N.C D s /\ run S (n+2) (N.ki+14) [.ref T.p,.int s.own] m=.ok (.ref D.p) m:=by
 refine e1a2 (aS2 h.len nd hs) λD e el=>?_;refine e1a2 (h.hs i D e) λs' e1 e2=>?_;rw[hs]at e1
 (refine aF e1 λz1=>?_;clear e1;subst z1)
 refine e1a1 h.hd λed kd=>?_;have so:aN (.int s.own) (cJ8 t T)=true:=aV _ _ _ _;refine⟨D,e,e2,d8 (bL Z.honest rfl (bJ (t:=false) (cX (bE (x:=false) (cO (aT (bB rfl (bI Z.H.W n s.own)))) (bE (x:=false) (aT (aR rfl (aP rfl h.inst rfl) ?_)) dJ))) (a9 (aG (dW (aP rfl h.inst rfl) rfl (bP kd rfl so el)) ⟨rfl,rfl⟩))))⟩;show Res.bind (inV (.int s.own) (.ref T.h) m) _=_;rw[aU kd rfl so,el];rfl
theorem To.tells(h1:To m N T t)(hB:∀x∈B,x.1∉T.all /\ m[x.1]?=some x.2){l:List Nat}{q:Nat}{x:Hs×List Wo}(hi:T.ds[i]?=some D)(hs:t.hs[i]?=some s)(ho:x.1.own=s.own)(k:m'[q]?=some (.list (x.2.map Wo.v)))(g:m.length <= q)(o:q∉(D.ext l).all)(H:Ho m' N.C (D.ext l) x.1)(M:Mod D.foot m m')(hl:∀y∈l,m.length <= y):Tw m' N T.p { t with hs:=t.hs.set i x.1 } ((q,.list (x.2.map Wo.v))::B):=by
 have old:∀z,z∈({ T with ds:=T.ds.set i (D.ext l) }:Td).all->z∈T.all \/ z∈(D.ext l).all:=λz hz=>by
  rcases Td.mem.mp hz with hz | ⟨D',hD,hz⟩
  ·exact .inl (Td.mem.mpr (.inl hz))
  ·rcases List.mem_or_eq_of_mem_set hD with hD | rfl
   ·exact .inl (Td.mem.mpr (.inr ⟨D',hD,hz⟩))
   ·exact .inr hz
 have new:∀z,z∈(D.ext l).all->z∈T.all \/ m.length <= z:=λz hz=>by
  rcases List.mem_append.mp hz with hz | hz
  ·exact .inl (Td.mem.mpr (.inr ⟨D,List.mem_of_getElem? hi,List.mem_append_left _ hz⟩))
  ·rcases List.mem_append.mp hz with hz | hz
   ·exact .inl (Td.mem.mpr (.inr ⟨D,List.mem_of_getElem? hi,List.mem_append_right _ hz⟩))
   ·exact .inr (hl z hz)
 refine⟨{ T with ds:=T.ds.set i (D.ext l) },rfl,h1.hou hi hs ho M H hl,b9 ⟨λc=>?_,k⟩ λy hy=>⟨λc=>?_,M.has (hB y hy).2 λc=>(hB y hy).1 (Td.mem.mpr (.inr ⟨D,List.mem_of_getElem? hi,List.mem_append_left _ c⟩))⟩⟩
 ·rcases old _ c with c | c
  ·exact h1.out g c
  ·exact o c
 ·rcases old _ c with c | c
  ·exact(hB y hy).1 c
  ·rcases new _ c with c | c
   ·exact(hB y hy).1 c
   ·exact Nat.not_lt.mpr c (aS (hB y hy).2)
theorem dF5(Z:TF S N)(h:To m N T t):∃d,m[T.p]?=some (.inst (N.C+2) [(8,.int t.cnt),(26,.ref T.h),(27,.ref T.o),(28,.ref T.s)]) /\ S.cls[N.C+2]?=some d /\ d.meths=[(22,N.ki+14),(23,N.ki+15),(0,N.ki+16),(18,N.ki+17),(24,N.ki+18),(19,N.ki+19),(25,N.ki+20),(5,N.ki+21),(6,N.ki+22),(7,N.ki+23)]:=by
 refine e1a4 Z.town λd h1 y_ y_ h2=>?_;exact⟨d,h.inst,h1,h2⟩
theorem aX(Z:TF S N)(H:Tw m N p t B){F:Fns}{r:Lo}{E:Nat->MH->Prop}{Q:V->MH->Prop}{o:CE}{k j:Nat}{as:List CE}(ho:ev S F o r m=.ok (.ref p) m)(hf:aL7 k ([(8,.none),(26,.none),(27,.none),(28,.none)])=none)(hk:[(22,N.ki+14),(23,N.ki+15),(0,N.ki+16),(18,N.ki+17),(24,N.ki+18),(19,N.ki+19),(25,N.ki+20),(5,N.ki+21),(6,N.ki+22),(7,N.ki+23)].lookup k=some j)(q:Wp (evs S F as r) m (λvs m'=>Wp (F j (.ref p::vs)) m' Q E) E):Wp (ev S F (.meth o k as) r) m Q E:=by
 refine e1a3 H λT z71 h1 hB=>?_;subst z71;refine e1a3 (dF5 Z h1) λd e1 e2 e3=>?_;refine bN (aG ho ⟨T.p,N.C+2,_,d,j,rfl,e1,e2,?_,by rw[e3];exact hk,q⟩);have key:∀(a b c d a' b' c' d':V),aL7 k [(8,a),(26,b),(27,c),(28,d)]=none->aL7 k [(8,a'),(26,b'),(27,c'),(28,d')]=none:=by
  intro a b c d a' b' c' d' h;have h:(if 8=k then some a else if 26=k then some b else if 27=k then some c else if 28=k then some d else none)=none:=h;show(if 8=k then some a' else if 26=k then some b' else if 27=k then some c' else if 28=k then some d' else none)=none;by_cases h1:8=k
  ·rw[if_pos h1]at h;injection h
  ·rw[if_neg h1]at h ⊢
   by_cases h2:26=k
   ·rw[if_pos h2]at h;injection h
   ·rw[if_neg h2]at h ⊢
    by_cases h3:27=k
    ·rw[if_pos h3]at h;injection h
    ·rw[if_neg h3]at h ⊢
     by_cases h4:28=k
     ·rw[if_pos h4]at h;injection h
     ·rw[if_neg h4]
 exact key _ _ _ _ _ _ _ _ hf
theorem aG8(s:Hs)(w:Wo):(s.hear w).1.own=s.own:=(cI s w).2.1
theorem aH0(s:Hs)(r:Str):(s.call r).1.own=s.own:=aG8 { s with onw:=s.onw+s.cnt } ⟨aC4,s.onw,r,s.own⟩
theorem bQ6(Z:TF S N)(n:Nat){x:Hs×List Wo}{q:Nat}{s:Hs}(H:Tw m N p { t with hs:=t.hs.set i x.1 } ((q,.list (x.2.map Wo.v))::B))(ho:x.1.own=s.own)(k:t.Ok b)(hb:b+13 * x.2.length < lid):Wp (run S (n+2) (N.ki+15) [.ref p,.int s.own,.ref q]) m (λu m'=>∃q',u=.ref q' /\ Tw m' N p (t.turn i x) ((q',.list (x.2.map Wo.v))::B) /\ m.length <= q') nox:=by
 refine bF (cT4 Z n s.own H (.head _) ⟨k.lk.lt,k.lk.ll,k.lk.sl⟩ hb k.c1 k.c2) λu m' z=>?_;refine e1a3 z λq' e z g=>?_;refine⟨q',e,?_,g⟩;unfold Tn.turn;rw[ho];exact z.sub λy hy=>by
  rcases List.mem_cons.mp hy with rfl | hy
  ·exact .head _
  ·exact .tail _ (.tail _ hy)
theorem bE4(Z:TF S N)(n:Nat){r:Str}(H:Tw m N p t B)(k:t.Ok b)(hs:t.hs[i]?=some s)(hr:bN1 (.str r)=true)(hrl:r.length <= 64)(hb:b+300 < lid):Wp (run S (n+8) (N.ki+16) [.ref p,.int s.own,.str r]) m (λu m'=>∃q,u=.ref q /\ Tw m' N p (t.turn i (s.call r)) ((q,.list ((s.call r).2.map Wo.v))::B) /\ m.length <= q) nox:=by
 have sc:=k.hc s (List.mem_of_getElem? hs);refine e1a3 (id H) λT zz1=>?_;subst zz1;intro h1 hB;refine e1a3 (fJ Z (n+5) h1 k.on hs) λD hD hH eh=>?_;refine e1a4 Z.H.cls λdh hd hx hi hm=>?_;have bl:s.sz+8 < lid:=Nat.lt_of_le_of_lt (Nat.add_le_add sc.2 (by decide:8 <= 300)) hb;refine bL Z.tcall rfl (bC (bN (aX Z H rfl rfl rfl (aC rfl (aG eh ⟨D.p,N.C,_,dh,N.ki+1,rfl,hH.inst,hd,rfl,hm 0 (by decide),aC rfl (dC (cA4 Z.H n r hH hr hrl (by rw[sc.1];exact k.c1) (by rw[sc.1];exact k.c2) bl) λm1 q1 l1 k1 g1 o1 H1 M1 y1=>?_)⟩)))));have H2:=h1.tells hB hD hs (aH0 s r) k1 g1 o1 H1 M1 y1;have n5:(s.call r).2.length <= 16:=by
  have:=(cI { s with onw:=s.onw+s.cnt } ⟨aC4,s.onw,r,s.own⟩).2.2.2.2;rw[List.length_cons];exact Nat.succ_le_succ (Nat.le_trans this (Nat.add_le_add_right (dB (show s.cnt <= 12 by rw[sc.1];exact k.c2)) 3))
 exact a9 (aX Z H2 rfl rfl rfl (aC rfl (bF (bQ6 Z (n+5) H2 (aH0 s r) k (Nat.lt_of_le_of_lt (Nat.add_le_add_left (Nat.le_trans (Nat.mul_le_mul_left 13 n5) (by decide)) b) hb)) λu m' z=>z.imp λq z=>⟨z.1,z.2.1,Nat.le_trans M1.1 z.2.2⟩)))
theorem bH5{l:Lr}{ls:List (Int×Lr)}(as:(ls.map (·.1)).Pairwise (· < ·))(h:(k,l)∈ls):ls.find? (λx=>x.1 == k)=some (k,l):=by
 induction ls with
 |nil=>cases (h)
 |cons a ls ih=>
  have as:=List.pairwise_cons.mp as;by_cases z:(a.1 == k)=true
  ·rw[List.find?_cons_of_pos (p:=λx:Int×Lr=>x.1 == k) z]
   rcases List.mem_cons.mp h with h | h
   ·rw[h]
   ·exact absurd (eq_of_beq z) (Int.ne_of_lt (as.1 k (List.mem_map.mpr ⟨_,h,rfl⟩)))
  ·rw[List.find?_cons_of_neg (p:=λx:Int×Lr=>x.1 == k) z]
   rcases List.mem_cons.mp h with h | h
   ·rw[<- h]at z;exact absurd (beq_self_eq_true k) z
   ·exact ih as.2 h
theorem bI1:∀{ls:List (Int×Lr)},(ls.map (·.1)).Pairwise (· < ·)->fL (.int k) (aW3 ls)=aW3 (ls.filter λx=>!(x.1 == k))
 |[],_=>rfl
 |a::ls,as=>by
  have as:=List.pairwise_cons.mp as;show(if Ky.int a.1=Ky.int k then aW3 ls else(Ky.int a.1,a.2.v)::fL (.int k) (aW3 ls))=_;by_cases z:a.1=k
  ·rw[if_pos (by rw[z]),List.filter_cons_of_neg (by simp[z])]
   congr 1
   refine(List.filter_eq_self.mpr λx hx=>?_).symm;have:=as.1 x.1 (List.mem_map.mpr ⟨x,hx,rfl⟩);rw[Bool.not_eq_true',beq_eq_false_iff_ne];rw[<- z];exact(Int.ne_of_lt this).symm
  ·rw[if_neg λc=>z (bX0 c),List.filter_cons_of_pos (by simp[z]),bI1 as.2];rfl
theorem aV5(Z:TF S N)(n:Nat){k:Int}{l:Lr}(h:To m N T t)(as:(t.lets.map (·.1)).Pairwise (· < ·))(hk:(k,l)∈t.lets):Wp (run S (n+2) (N.ki+11) [.ref T.o,.int k]) m (λu m'=>u=l.v /\ To m' N T (t.take k) /\ Mod [T.o,T.l,T.s] m m') nox:=by
 refine e1a1 h.le λe kd=>?_;have so:aN (.int k) (aW3 t.lets)=true:=aV _ _ _ _;have el:look (.int k) (aW3 t.lets)=some l.v:=by unfold aW3;rw[fI,bH5 as hk];rfl
 have nd:=Td.ne h.nd;refine bL Z.pbring rfl (bJ (t:=false) (cX (bE (x:=false) (cO (aT (bB rfl (bI Z.H.W n k)))) (bE (x:=false) (aT (aR rfl (aP rfl h.po rfl) ?_)) dJ))) (a9 (bV (aG (aP rfl h.po rfl) ⟨1,dG4 kd,rfl,aC rfl (dE4 kd so el ⟨rfl,?_,Mod.set (.tail _ (.head _))⟩)⟩))))
 ·show Res.bind (inV (.int k) (.ref T.l) m) _=_
  rw[aU kd rfl so,el];rfl
 ·rw[bI1 as]
  exact h.chg (Mod.set (.tail _ (.head _))) (aQ (λq=>nd.1 q.symm) h.po) ⟨_,aZ kd⟩ (h.sa.imp λe' k'=>aQ nd.2.2 k')
theorem To.beside(hB:∀x∈B,x.1∉T.all /\ m[x.1]?=some x.2)(M:Mod [T.o,T.l,T.s] m m'):∀x∈B,x.1∉T.all /\ m'[x.1]?=some x.2:=λx hx=>⟨(hB x hx).1,M.has (hB x hx).2 (nq (hB x hx).1)⟩
theorem cF2(Z:TF S N)(n:Nat){k:Int}{l:Lr}(H:Tw m N p t B)(O:t.Ok b)(hk:(k,l)∈t.lets)(hl:∀s∈t.hs,s.own≠l.r):Wp (run S (n+3) (N.ki+17) [.ref p,.int k]) m (λu m'=>∃q,u=.ref q /\ Tw m' N p (t.take k) ((q,.list [])::B) /\ m.length <= q) nox:=by
 refine e1a3 H λT z71 h1 hB=>?_;subst z71;refine e1a6 Z.post λy_ hpd y_ y_ y_ hm1 y_=>?_;refine bL Z.tbring rfl (bC (bN (aG (aP rfl h1.inst rfl) ⟨T.o,N.C+1,_,_,N.ki+11,rfl,h1.po,hpd,rfl,hm1,aC rfl (bF (aV5 Z n h1 O.as hk) λu m1 z=>?_)⟩)));refine e0a3 z λzz1=>?_;subst zz1;intro h2 M;refine e1a1 h2.hd λed kd=>?_;refine bJ (t:=true) (aT (aR rfl (aP rfl h2.inst rfl) ?_)) (a9 (aY (aH (aK λq m2 l2 k2 g2=>⟨q,rfl,?_⟩))))
 ·show Res.bind (inV (.int l.r) (.ref T.h) m1) _=_
  rw[aU kd rfl (aV _ _ _ _)];rw[aS1 (t:=t.take k) hl];rfl
 ·have tw:Tw m1 N T.p (t.take k) B:=⟨T,rfl,h2,To.beside hB M⟩
  exact⟨tw.new l2 k2 g2,Nat.le_trans M.1 g2⟩
theorem cF3(Z:TF S N)(n:Nat){k:Int}{l:Lr}(H:Tw m N p t B)(O:t.Ok b)(hk:(k,l)∈t.lets)(hs:t.hs[i]?=some s)(hl:s.own=l.r)(hb:b+300 < lid):Wp (run S (n+7) (N.ki+17) [.ref p,.int k]) m (λu m'=>∃q,u=.ref q /\ Tw m' N p ((t.take k).turn i (s.hear l.w)) ((q,.list ((s.hear l.w).2.map Wo.v))::B) /\ m.length <= q) nox:=by
 refine e1a3 H λT zz1=>?_;subst zz1;intro h1 hB;refine e1a6 Z.post λy_ hpd y_ y_ y_ hm1 y_=>?_;have sc:=O.hc s (List.mem_of_getElem? hs);have bl:s.sz+8 < lid:=Nat.lt_of_le_of_lt (Nat.add_le_add sc.2 (by decide:8 <= 300)) hb;refine bL Z.tbring rfl (bC (bN (aG (aP rfl h1.inst rfl) ⟨T.o,N.C+1,_,_,N.ki+11,rfl,h1.po,hpd,rfl,hm1,aC rfl (bF (aV5 Z (n+4) h1 O.as hk) λu m1 z=>?_)⟩)));refine e0a3 z λzz1=>?_;subst zz1;intro h2 M;have O2:(t.take k).Ok b:=⟨⟨λx hx=>O.lk.lt x (List.mem_filter.mp hx).1,Nat.le_trans (List.length_filter_le _ _) O.lk.ll,O.lk.sl⟩,O.c1,O.c2,O.on,O.hc,List.Pairwise.sublist (List.Sublist.map _ List.filter_sublist) O.as⟩
 have tw:Tw m1 N T.p (t.take k) B:=⟨T,rfl,h2,To.beside hB M⟩
 refine e1a1 h2.hd λed kd=>?_;refine e1a2 (aS2 (t:=t.take k) h2.len O.on hs) λD hD el=>?_;refine e1a2 (h2.hs i D hD) λs' e1 hH=>?_;rw[show(t.take k).hs[i]?=some s from hs]at e1
 (refine aF e1 λz1=>?_;clear e1;subst z1)
 refine e1a4 Z.H.cls λdh hd hx hi hm=>?_;have so:aN (.int s.own) (cJ8 (t.take k) T)=true:=aV _ _ _ _;rw[hl]at el so;refine bJ (t:=false) (aT (aR rfl (aP rfl h2.inst rfl) ?_)) ?_
 ·show Res.bind (inV (.int l.r) (.ref T.h) m1) _=_
  rw[aU kd rfl so,el];rfl
 refine a9 (aX Z tw rfl rfl rfl (aE (aC rfl (aE (bN (aG (dW (aP rfl h2.inst rfl) rfl (bP kd rfl so el)) ⟨D.p,N.C,_,dh,N.ki+2,rfl,hH.inst,hd,rfl,hm 1 (by decide),aC rfl (dC (bB9 Z.H n l.w hH (by rw[sc.1];exact O.c1) (by rw[sc.1];exact O.c2) bl) λm3 q3 l3 k3 g3 o3 H3 M3 y3=>?_)⟩))))));have H4:=h2.tells (t:=t.take k) (To.beside hB M) hD hs (aG8 s l.w) k3 g3 o3 H3 M3 y3;have n5:(s.hear l.w).2.length <= 15:=by
  have:=(cI s l.w).2.2.2.2;exact Nat.le_trans this (Nat.add_le_add_right (dB (show s.cnt <= 12 by rw[sc.1];exact O.c2)) 3)
 refine aH ?_;have:=bQ6 Z (n+4) H4 (aG8 s l.w) O2 (Nat.lt_of_le_of_lt (Nat.add_le_add_left (Nat.le_trans (Nat.mul_le_mul_left 13 n5) (by decide)) b) hb);rw[hl]at this;exact bF this λu m' z=>z.imp λq z=>⟨z.1,z.2.1,Nat.le_trans M.1 (Nat.le_trans M3.1 z.2.2)⟩
end
structure Wo.Ok(c:Int)(w:Wo):Prop where
 k:w.k=aC4 \/ w.k=aF6
 n0:0 <= w.n
 n1:w.n <= 9999
 r:bN1 (.str w.r)=true
 h0:0 <= w.h
 h1:w.h < c
 c:w.k=aC4->(w.n - w.h) % c=0
section
variable{N:HN}
theorem dI8(Z:TF S N)(n:Nat){h r:Int}{w:Wo}(H:Tw m N p t B)(O:t.Ok b)(h0:0 <= h)(h1:h < t.cnt)(hl:∀s∈t.hs,s.own≠h)(r0:0 <= r)(r1:r < t.cnt)(hr:r≠h)(hw:w.Ok t.cnt)(hf:w.h=h \/ w∈t.said)(hb:b+300 < lid):Wp (run S (n+4) (N.ki+18) [.ref p,.int h,.int r,w.v]) m (λu m'=>u=.int t.given /\ Tw m' N p ((t.say w).send ⟨h,r,w⟩) B /\ m.length <= m'.length) nox:=by
 refine e1a3 H λT z71 h1' hB=>?_;subst z71;refine e1a5 Z.post λy_ hpd y_ y_ hm1 y_=>?_;refine e1a1 Z.H.gM λy_ gM=>?_;refine e1a1 Z.gN λy_ gN=>?_;refine e1a1 Z.H.gL λy_ gL=>?_;refine e1a1 Z.H.gS λy_ gS=>?_;refine e1a1 h1'.hd λed kd=>?_;refine e1a1 h1'.sa λes ks=>?_;have nd:=Td.ne h1'.nd;have ew:run S (n+3) _ [.int t.cnt,w.v] m=.ok (.bool true) m:=bN8 Z.word Z.H.N_ Z.H.W Z.H.R Z.caller gM gN gL gS n O.c1 O.c2 hw.k hw.n0 hw.n1 hw.r hw.h0 hw.h1 hw.c;refine bL Z.lie rfl (bJ (t:=false) (cX (bE (x:=false) (cO (aT (bB rfl (bI Z.H.W (n+2) h)))) (bE (x:=false) (bU1 rfl (aP rfl h1'.inst rfl) h0 h1) (bE (x:=false) (aT (aR rfl (aP rfl h1'.inst rfl) ?_)) dJ)))) ?_)
 ·show inV (.int h) (.ref T.h) m=_
  rw[aU kd rfl (aV _ _ _ _)];show Res.ok ((look (.int h) (cJ8 t T)).isSome) m=_;rw[aS1 hl]
 refine bJ (t:=false) (cX (bE (x:=false) (cO (aT (bB rfl (bI Z.H.W (n+2) r)))) (bE (x:=false) (bU1 rfl (aP rfl h1'.inst rfl) r0 r1) (bE (x:=false) (aT (aR rfl rfl ?_)) dJ)))) ?_
 ·show Res.ok (r == h) m=_
  rw[beq_eq_false_iff_ne.mpr hr]
 refine bJ (t:=false) (cO (aT (aB0 (vs:=[.int t.cnt,w.v]) ?_ ew))) ?_
 ·show Res.bind (ev S _ (.attr (.var 0) 8) _ m) _=_
  rw[aP (v:=.int t.cnt) rfl h1'.inst rfl];rfl
 have e4:evT S (run S (n+3)) (.all true [(.val (.cmp (.idx (.var 3) (.cnst (Lt.int 3))) [.NotEq] [(.var 1)])),(.val (.cmp (.var 3) [.NotIn] [(.attr (.var 0) 28)]))]) [some (.ref T.p),some (.int h),some (.int r),some w.v] m=.ok false m:=by
  have e1:evT S (run S (n+3)) (.val (.cmp (.idx (.var 3) (.cnst (Lt.int 3))) [.NotEq] [(.var 1)])) [some (.ref T.p),some (.int h),some (.int r),some w.v] m=.ok (!(w.h == h)) m:=aT (aR rfl rfl rfl);have e2:evT S (run S (n+3)) (.val (.cmp (.var 3) [.NotIn] [(.attr (.var 0) 28)])) [some (.ref T.p),some (.int h),some (.int r),some w.v] m=.ok (!decide (w∈t.said)) m:=by
   refine aT (aR rfl (aP rfl h1'.inst rfl) ?_);show Res.bind (inV w.v (.ref T.s) m) _=_;rw[aU ks (k:=w.ky) rfl (dF _ _),aR7];rfl
  rw[cX (aN7 e1 (aN7 e2 dJ))];rcases hf with hf | hf
  ·rw[hf,beq_self_eq_true];rfl
  ·rw[decide_eq_true hf,Bool.not_true,Bool.false_and,Bool.and_false]
 refine bJ e4 ?_;refine dR (aC rfl (aG (aP rfl h1'.inst rfl) (aC rfl (d9 ks (k:=w.ky) rfl (dF _ _) (by unfold kD;rw[List.length_map];exact Nat.lt_of_le_of_lt O.lk.sl (Nat.lt_of_le_of_lt (Nat.le_add_right _ 300) hb)) ?_))));show Wp _ (m.set T.s (.dict (put w.ky (.bool true) (kD t.said)) (es+1))) _ _;rw[aV0];have M1:Mod [T.o,T.l,T.s] m (m.set T.s (.dict (kD (aB4 w t.said)) (es+1))):=Mod.set (.tail _ (.tail _ (.head _)));have k1:To (m.set T.s (.dict (kD (aB4 w t.said)) (es+1))) N T (t.say w):=h1'.chg M1 (aQ (λc=>nd.2.1 c.symm) h1'.po) (h1'.le.imp λe' k'=>aQ (λc=>nd.2.2 c.symm) k') ⟨_,aZ ks⟩
 generalize m.set T.s (.dict (kD (aB4 w t.said)) (es+1))=m1 at M1 k1 ⊢
 refine a9 (bN (aG (aP rfl k1.inst rfl) ⟨T.o,N.C+1,_,_,N.ki+10,rfl,k1.po,hpd,rfl,hm1,?_⟩));refine aC rfl ?_;exact bF (bS7 Z (n+2) ⟨h,r,w⟩ k1 (O.lk.say w) (Nat.lt_of_le_of_lt (Nat.add_le_add_left (by decide) b) hb)) λu m2 z=>⟨z.1,⟨T,rfl,z.2.1,To.beside hB (M1.trans z.2.2)⟩,(M1.trans z.2.2).1⟩
noncomputable def aA3(x:Int×Lr):V:=.tup [.int x.1,x.2.v]
theorem cG3(Z:TF S N)(n:Nat)(h:To m N T t)(O:t.Ok b)(hb:b < lid):Wp (run S (n+1) (N.ki+12) [.ref T.o]) m (λu m'=>∃q,u=.ref q /\ m'[q]?=some (.list (t.lets.map aA3)) /\ m.length <= q /\ Le m m') nox:=by
 refine e1a1 h.le λe kd=>?_;have hs:biV .sorted [.ref T.l] m=alloc (.list (t.lets.map λx=>V.int x.1)) m:=by
  unfold biV;dsimp only;rw[kd];dsimp only;unfold aW3;rw[aJ7];dsimp only;rw[if_pos (.inr O.as),aU7 O.as,List.map_map];rfl
 refine bL Z.pwait rfl (a9 (bF7 t.lets (λx=>V.int x.1) aA3 (λm'=>m'=m++[.list (t.lets.map λx=>V.int x.1)]) (aE (aF3 (aE (aG (aP rfl h.po rfl) (aH (aG hs (aH (fA bW ⟨rfl,rfl,?_,?_,?_,?_⟩))))))))))
 ·intro m' em;rw[em];exact dE bW
 ·intro x hx m' em
  have l:=Le.app m [.list (t.lets.map λx=>V.int x.1)];have ed:aO6 (.ref T.l) (.int x.1) m'=.ok x.2.v m':=by
   rw[em];refine bP (l.has kd) rfl (aV _ _ _ _) ?_;unfold aW3;rw[fI,bH5 O.as (show(x.1,x.2)∈t.lets from hx)];rfl
  have po:=l.has h.po;rw[<- em]at po;exact aC rfl (aG (bT9 (bT rfl (bT (dW (aP rfl po rfl) rfl ed) rfl))) ⟨rfl,em⟩)
 ·exact Nat.le_trans O.lk.ll (Nat.le_of_lt hb)
 ·intro q m1 m2 em l2 k2 hq
  rw[em]at l2 hq;exact⟨q,rfl,k2,by rw[List.length_append]at hq;exact Nat.le_trans (Nat.le_add_right _ _) hq,(Le.app _ _).trans l2⟩
theorem aQ1(Z:TF S N)(n:Nat)(H:Tw m N p t B)(O:t.Ok b)(hb:b < lid):Wp (run S (n+2) (N.ki+19) [.ref p]) m (λu m'=>∃q,u=.ref q /\ Tw m' N p t ((q,.list (t.lets.map aA3))::B) /\ Le m m' /\ m.length <= q) nox:=by
 refine e1a3 (id H) λT z71 h1 hB=>?_;subst z71;refine e1a6 Z.post λy_ hpd y_ y_ y_ y_ hm1=>?_;refine bL Z.twait rfl (a9 (bN (aG (aP rfl h1.inst rfl) ⟨T.o,N.C+1,_,_,N.ki+12,rfl,h1.po,hpd,rfl,hm1,aC rfl (bF (cG3 Z n h1 O hb) λu m1 z=>?_)⟩)));refine e1a4 z λq e k g l=>?_;exact⟨q,e,H.new l k g,l,g⟩
theorem aB8(Z:TF S N)(n:Nat)(H:Tw m N p t B):Wp (run S (n+1) (N.ki+20) [.ref p]) m (λu m'=>∃q,u=.ref q /\ Tw m' N p t ((q,.list (t.said.map Wo.v))::B) /\ Le m m' /\ m.length <= q) nox:=by
 refine e1a3 (id H) λT z71 h1 hB=>?_;subst z71;refine e1a1 h1.sa λes ks=>?_;have el:biV .list [.ref T.s] m=alloc (.list (t.said.map Wo.v)) m:=by unfold biV;dsimp only;rw[ks];dsimp only;rw[bX2]
 refine bL Z.spoken rfl (a9 (aF3 (aE (aG (aP rfl h1.inst rfl) (aH (dU el (aK λq m1 l k g=>⟨q,rfl,H.new l k g,l,g⟩)))))))
theorem bK1(Z:TF S N)(n:Nat)(H:Tw m N p t B)(O:t.Ok b)(hs:t.hs[i]?=some s)(hl:s.rows.length < 64)(nd:(s.rows.map (·.1)).Nodup):Wp (run S (n+3) (N.ki+21) [.ref p,.int s.own]) m (λu m'=>∃q e,u=.ref q /\ Tw m' N p t ((q,.dict (aF7 s.rows) e)::B) /\ Le m m' /\ m.length <= q) nox:=by
 refine e1a3 (id H) λT zz1=>?_;subst zz1;intro h1 hB;refine e1a3 (fJ Z n h1 O.on hs) λD hD hH eh=>?_;refine e1a4 Z.H.cls λdh hd hx hi hm=>?_;refine bL Z.tledger rfl (a9 (bN (aX Z H rfl rfl rfl (aC rfl (aG eh ⟨D.p,N.C,_,dh,N.ki+6,rfl,hH.inst,hd,rfl,hm 5 (by decide),aC rfl (bB4 (aJ6 Z.H (n+1) hH hl) λm1 q e k g l=>⟨q,e,rfl,?_,l,g⟩)⟩)))));rw[bW5 nd]at k;exact H.new l k g
theorem aI2(Z:TF S N)(n:Nat){k:Int}(H:Tw m N p t B)(O:t.Ok b)(hs:t.hs[i]?=some s)(hw:s.wrote k=true):Wp (run S (n+3) (N.ki+22) [.ref p,.int s.own,.int k]) m (λu m'=>∃q,u=.ref q /\ Tw m' N p t ((q,.list ((aY7 s.rows k).map Wo.v))::B) /\ Le m m' /\ m.length <= q) nox:=by
 refine e1a3 (id H) λT zz1=>?_;subst zz1;intro h1 hB;refine e1a3 (fJ Z n h1 O.on hs) λD hD hH eh=>?_;refine e1a4 Z.H.cls λdh hd hx hi hm=>?_;exact bL Z.tbacking rfl (a9 (bN (aX Z H rfl rfl rfl (aC rfl (aG eh ⟨D.p,N.C,_,dh,N.ki+7,rfl,hH.inst,hd,rfl,hm 6 (by decide),aC rfl (aG (aP5 Z.H n hH hw) ⟨_,rfl,H.new (.app _ _) bW (Nat.le_refl _),.app _ _,Nat.le_refl _⟩)⟩)))))
theorem aD3(Z:TF S N)(n:Nat)(H:Tw m N p t B)(O:t.Ok b)(hs:t.hs[i]?=some s):Wp (run S (n+3) (N.ki+23) [.ref p,.int s.own]) m (λu m'=>∃q,u=.ref q /\ Tw m' N p t ((q,.list (aD9 s.named))::B) /\ Le m m' /\ m.length <= q) nox:=by
 refine e1a3 (id H) λT z71 h1 hB=>?_;subst z71;refine e1a3 (fJ Z n h1 O.on hs) λD hD hH eh=>?_;refine e1a4 Z.H.cls λdh hd hx hi hm=>?_;exact bL Z.tcaught rfl (a9 (bN (aX Z H rfl rfl rfl (aC rfl (aG eh ⟨D.p,N.C,_,dh,N.ki+8,rfl,hH.inst,hd,rfl,hm 7 (by decide),aC rfl (aG (aY3 Z.H (n+1) hH) ⟨_,rfl,H.new (.app _ _) bW (Nat.le_refl _),.app _ _,Nat.le_refl _⟩)⟩)))))
end
noncomputable def aL6(L:List Int)(a:List Nat):List Int:=(a.map λ(j:Nat)=>(j:Int)).filter λj=>!(L.any λy=>y == j)
noncomputable def cG(c:Int)(L:List Int):List Int:=aL6 L (List.range c.toNat)
noncomputable def Tn.new(c:Int)(L:List Int):Tn:=⟨c,(cG c L).map (Hs.new c),0,[],[]⟩
theorem cP0(L:List Int)(j:Int):(look (.int j) (iD L)).isSome=L.any λy=>y == j:=by rw[cJ7,cP];rfl
theorem dK2(h:j∉L):put (.int j) (.bool true) (iD L)=iD (L++[j]):=by
 rw[cJ7,aC6]
 ·unfold iD tD;rw[List.map_append];rfl
 ·rw[List.any_eq_false]
  intro x hx e;exact h (eq_of_beq e▸hx)
theorem fR(L:List Int)(a:List Nat)(j:Nat):aL6 L (a++[j])=if (L.any λy=>y == (j:Int))=true then aL6 L a else aL6 L a++[(j:Int)]:=by
 unfold aL6;rw[List.map_append,List.filter_append];show _++List.filter _ [(j:Int)]=_;rw[List.filter_cons,List.filter_nil]
 cases L.any λy=>y == (j:Int)
 ·rfl
 ·exact List.append_nil _
theorem cJ5{c:Int}(nd:L.Nodup)(hL:∀x∈L,0 <= x /\ x < c):L.length <= c.toNat:=by
 have h1:(L.map Int.toNat).Nodup:=List.pairwise_map.mpr (List.Pairwise.imp_of_mem (λ{x y} hx hy hne e=>hne (by rw[<- Int.toNat_of_nonneg (hL x hx).1,<- Int.toNat_of_nonneg (hL y hy).1,e])) nd);have h2:L.map Int.toNat ⊆ List.range c.toNat:=λy hy=>by
  refine e1a2 (List.mem_map.mp hy) λx hx zz1=>?_;subst zz1;have:=hL x hx;exact List.mem_range.mpr ((Int.toNat_lt_toNat (Int.lt_of_le_of_lt this.1 this.2)).mpr this.2)
 have:=h1.length_le_of_subset h2;rw[List.length_map,List.length_range]at this;exact this
section
variable{N:HN}
theorem cG5(Z:TF S N)(n:Nat)(h:m[q]?=some (.inst (N.C+1) [])):Wp (run S (n+1) (N.ki+9) [.ref q]) m (λu m'=>u=.none /\ m'[q]?=some (.inst (N.C+1) [(20,.int 0),(21,.ref m.length)]) /\ m'[m.length]?=some (.dict [] 0) /\ Mod [q] m m') nox:=by
 refine bL Z.pinit rfl (aC5 (aC rfl (aC rfl ⟨q,N.C+1,[],rfl,h,?_⟩)));have h1:=aZ (o':=.inst (N.C+1) [(20,.int 0)]) h;have hl:(m.set q (.inst (N.C+1) [(20,.int 0)])).length=m.length:=List.length_set;show Wp _ (m.set q (.inst (N.C+1) [(20,.int 0)])) _ _;have M0:Mod [q] m (m.set q (.inst (N.C+1) [(20,.int 0)])):=Mod.set (.head _)
 generalize m.set q (.inst (N.C+1) [(20,.int 0)])=m1 at h1 hl M0 ⊢
 exact cY rfl rfl h1 hl λm2 i2 n2 f2 L2 M2=>cS ⟨rfl,i2,n2,M0.trans M2⟩
inductive TL1(q p d:Nat)(c:Int)(L:List Int)(m:MH)(zs:List Int)(r:Lo)(m':MH):Prop
 |mk (a:List Int) (e:Nat) (x:Option V) (el:L=a++zs) (er:r=[some (.ref p),some (.int c),some (.ref q),some (.ref d),x]) (kd:m'[d]?=some (.dict (iD a) e)) (l:Le m m')
inductive TL2(N:HN)(q p d h:Nat)(c:Int)(L:List Int)(m:MH)(zs:List Nat)(r:Lo)(m':MH):Prop
 |mk (a:List Nat) (ds:List Hd) (e:Nat) (x:Option V) (el:List.range c.toNat=a++zs) (er:r=[some (.ref p),some (.int c),some (.ref q),some (.ref d),x])
   (kh:m'[h]?=some (.dict (tD (·.1) (λx:Int×Nat=>V.ref x.2) ((aL6 L a).zip (ds.map (·.p)))) e)) (M:Mod [h] m m')
   (hs:∀(i:Nat) (D:Hd),ds[i]?=some D->∃o,(aL6 L a)[i]?=some o /\ Ho m' N.C D (Hs.new c o)) (len:ds.length=(aL6 L a).length) (fr:∀D∈ds,∀x∈D.all,m.length <= x)
   (dd:∀(i j:Nat) (D D':Hd),ds[i]?=some D->ds[j]?=some D'->i≠j->∀x∈D.all,x∉D'.all)
theorem cJ9{a:List Nat}(h:x∈aL6 L a):∃j∈a,x=(j:Int):=by
 have:=(List.mem_filter.mp h).1;refine e1a2 (List.mem_map.mp this) λj h1 h2=>?_;exact⟨j,h1,h2.symm⟩
theorem nd5{d:Nat}(h1:a < b)(h2:b < c)(h3:c < d)(h4:d < e):[a,b,c,d,e].Nodup:=by
 have h12:=Nat.lt_trans h1 h2;have h13:=Nat.lt_trans h12 h3;have h23:=Nat.lt_trans h2 h3;simp only[List.nodup_cons,List.mem_cons,List.not_mem_nil,or_false,not_or,not_false_eq_true,List.nodup_nil,and_true];exact⟨⟨Nat.ne_of_lt h1,Nat.ne_of_lt h12,Nat.ne_of_lt h13,Nat.ne_of_lt (Nat.lt_trans h13 h4)⟩,⟨Nat.ne_of_lt h2,Nat.ne_of_lt h23,Nat.ne_of_lt (Nat.lt_trans h23 h4)⟩,⟨Nat.ne_of_lt h3,Nat.ne_of_lt (Nat.lt_trans h3 h4)⟩,Nat.ne_of_lt h4⟩
set_option tactic.hygienic true in
theorem cE9(Z:TF S N)(n:Nat){c:Int}{L:List Int}{q p d h:Nat}{m3:MH}{e:Nat}{Q:Fl×Lo->MH->Prop}(c1:1 <= c)(c2:c <= 12)(i3:m3[p]?=some (.inst (N.C+2) [(8,.int c),(26,.ref h)]))(ph:p < h)(hlt:h < m3.length)(kd3:m3[d]?=some (.dict (iD L) e))(dh:d≠h){j:Nat}{js:List Nat}{r:Lo}{m4:MH}(I:TL2 N q p d h c L m3 (j::js) r m4):
  Wp (aI4 (.one 4) (V.int (0+(j:Int))) r) m4 (λr' m'=>Wp (exs S (run S (n+3)) [(.ite (.val (.cmp (.var 4) [.NotIn] [(.var 3)])) [(.asg (.idx (.attr (.var 0) 26) (.var 4)) (.new N.C [(.var 1),(.var 4)]))] [])] r') m' (aZ5 Q (TL2 N q p d h c L m3) js) nox) nox:=by
 obtain⟨a,ds,e4,x4,el,er,kh,M,hs,len,fr,dd⟩:=I;subst er;have dh:d∉[h]:=λc=>dh (List.mem_singleton.mp c);have kd4:=M.has kd3 dh;have i4:=M.has i3 λc=>absurd (List.mem_singleton.mp c) (Nat.ne_of_lt ph);have ejs:List.range c.toNat=(a++[j])++js:=by rw[el,List.append_assoc];rfl
 refine aC rfl (bJ (t:=!(L.any λy=>y == (0+(j:Int)))) (aT (aR rfl rfl ?_)) ?_)
 ·show Res.bind (inV (.int (0+(j:Int))) (.ref d) m4) _=_
  rw[aU kd4 rfl (fE _ _),cP0];rfl
 rw[Int.zero_add]
 cases hz:L.any λy=>y == (j:Int)with
 |true=>
  refine cS ⟨a++[j],ds,e4,_,ejs,rfl,?_,M,?_,?_,fr,dd⟩
  all_goals rw[fR,if_pos hz]
  ·exact kh
  ·exact hs
  ·exact len
 |false=>
  have hj:j < c.toNat:=List.mem_range.mp (by rw[el];exact List.mem_append_right _ (.head _));have hj':(j:Int) < c:=Int.lt_toNat.mp hj;refine e1a4 Z.H.cls λdc hd hx hi hm=>?_;refine dR (bF6 (aC rfl ⟨dc,N.ki,hd,hx,hi,?_⟩));refine bF (bX7 Z.H n (p:=m4.length) c1 c2 (Int.natCast_nonneg j) hj' bW) λu m5 z=>?_;obtain⟨hu,D,hDp,hH,M5,hD⟩:=z;refine⟨hu,?_⟩;have L5:Le m4 m5:=by
   refine⟨Nat.le_trans (by rw[List.length_append];exact Nat.le_add_right _ _) M5.1,λy hy=>?_⟩;rw[M5.2 y (by rw[List.length_append];exact Nat.lt_of_lt_of_le hy (Nat.le_add_right _ _)) λc=>absurd (List.mem_singleton.mp c) (Nat.ne_of_lt hy),List.getElem?_append_left hy]
  have Df:∀y∈D.all,m4.length <= y:=λy hy=>by
   rcases hD y hy with rfl | hy
   ·exact Nat.le_refl _
   ·rw[List.length_append]at hy;exact Nat.le_trans (Nat.le_add_right _ _) hy
  have kh5:=L5.has kh;have le34:=M.1;refine aG (aP rfl (L5.has i4) rfl) (aC rfl (d9 kh5 (k:=.int (j:Int)) rfl (aV _ _ _ _) ?_ ?_))
  ·unfold tD
   rw[List.length_map,List.length_zip];refine Nat.lt_of_le_of_lt (Nat.min_le_left _ _) ?_;refine Nat.lt_of_le_of_lt (List.length_filter_le _ _) ?_;rw[List.length_map];have:=congrArg List.length el;rw[List.length_range,List.length_append]at this;exact Nat.lt_of_le_of_lt (Nat.le_trans (Nat.le_add_right _ _) (this▸dB c2)) (by decide)
  have na:((aL6 L a).zip (ds.map (·.p))).any (λx=>x.1 == (j:Int))=false:=by
   rw[List.any_eq_false];intro y hy e;have:y.1∈aL6 L a:=(List.of_mem_zip (a:=y.1) (b:=y.2) hy).1;refine e1a2 (cJ9 this) λi h1 h2=>?_;have:j∈a:=by
    have:(i:Int)=(j:Int):=h2.symm.trans (eq_of_beq e);rw[<- Int.ofNat_inj.mp this];exact h1
   have nr:(List.range c.toNat).Nodup:=List.nodup_range;rw[el]at nr;exact(List.nodup_append.mp nr).2.2 j this j (.head _) rfl
  have ep:put (.int (j:Int)) (.ref m4.length) (tD (·.1) (λx:Int×Nat=>V.ref x.2) ((aL6 L a).zip (ds.map (·.p))))=tD (·.1) (λx:Int×Nat=>V.ref x.2) ((aL6 L (a++[j])).zip ((ds++[D]).map (·.p))):=by
   rw[aC6 _ _ _ _ _ na,fR,if_neg (by rw[hz];exact Bool.false_ne_true),List.map_append,List.zip_append (by rw[List.length_map];exact len.symm)];unfold tD;rw[List.map_append];show _=_++[(Ky.int (j:Int),V.ref D.p)];rw[hDp]
  rw[ep];have hmod:Mod [h] m5 (m5.set h (.dict (tD (·.1) (λx:Int×Nat=>V.ref x.2) ((aL6 L (a++[j])).zip ((ds++[D]).map (·.p)))) (e4+1))):=Mod.set (.head _);have ge:∀(i:Nat) (D':Hd),(ds++[D])[i]?=some D'->(i < ds.length /\ ds[i]?=some D') \/ (i=ds.length /\ D'=D):=λi D' e=>by
   rcases Nat.lt_or_ge i ds.length with z | z
   ·rw[List.getElem?_append_left z]at e;exact .inl ⟨z,e⟩
   ·rw[List.getElem?_append_right z]at e
    have:i - ds.length=0:=by
     cases h:i - ds.length with
     |zero=>rfl
     |succ k=>rw[h]at e;injection e
    rw[this]at e;exact .inr ⟨Nat.le_antisymm (Nat.le_of_sub_eq_zero this) z,(Option.some.inj e).symm⟩
  have frD:∀y∈D.all,m3.length <= y:=λy hy=>Nat.le_trans le34 (Df y hy);have oldlt:∀(i:Nat) (D':Hd),ds[i]?=some D'->∀y∈D'.all,y < m4.length:=λi D' e y hy=>by
   refine e1a2 (hs i D' e) λo y_ h2=>?_;exact h2.lt y hy
  refine cS ⟨a++[j],ds++[D],e4+1,_,ejs,rfl,aZ kh5,M.trans (L5.mod.trans hmod),λi D' e=>?_,?_,λD' hD'=>?_,λi k D1 D2 e1 e2 hne y hy=>?_⟩
  ·rcases ge i D' e with⟨z,e⟩ | ⟨rfl,rfl⟩
   ·refine e1a2 (hs i D' e) λo h1 h2=>?_
    exact⟨o,by rw[fR,if_neg (by rw[hz];exact Bool.false_ne_true),List.getElem?_append_left (by rw[<- len];exact z)];exact h1,(h2.le L5).mod hmod λy hy c=>by
     have:=fr D' (List.mem_of_getElem? e) y hy;rw[List.mem_singleton.mp c]at this;exact Nat.not_lt.mpr this hlt⟩
   ·refine⟨(j:Int),by rw[fR,if_neg (by rw[hz];exact Bool.false_ne_true),len,List.getElem?_append_right (Nat.le_refl _),Nat.sub_self];rfl,hH.mod hmod λy hy c=>?_⟩
    have:=frD y hy;rw[List.mem_singleton.mp c]at this;exact Nat.not_lt.mpr this hlt
  ·rw[fR,if_neg (by rw[hz];exact Bool.false_ne_true),List.length_append,List.length_append,len];rfl
  ·rcases List.mem_append.mp hD' with h | h
   ·exact fr D' h
   ·rw[List.mem_singleton.mp h];exact frD
  ·rcases ge i D1 e1 with⟨z1,e1⟩ | ⟨z1,rfl⟩
   ·rcases ge k D2 e2 with⟨z2,e2⟩ | ⟨z2,rfl⟩
    ·exact dd i k D1 D2 e1 e2 hne y hy
    ·rename_i e0
     exact λc=>Nat.not_lt.mpr (Df y c) (oldlt i D1 e0 y hy)
   ·rcases ge k D2 e2 with⟨z2,e2⟩ | ⟨z2,rfl⟩
    ·exact λc=>Nat.not_lt.mpr (Df y hy) (oldlt k D2 e2 y c)
    ·exact absurd (z1.trans z2.symm) hne
theorem cT3(Z:TF S N)(n:Nat){c:Int}{L:List Int}{q p d h:Nat}{m3:MH}(i3:m3[p]?=some (.inst (N.C+2) [(8,.int c),(26,.ref h)]))(ph:p < h)(hlt:h < m3.length)(hB:∀x∈B,x.1≠p /\ x.1 < h /\ m3[x.1]?=some x.2){r:Lo}{m4:MH}(I:TL2 N q p d h c L m3 [] r m4):
  Wp (exs S (run S (n+3)) [(.asg (.attr (.var 0) 27) (.new (N.C+1) [])),(.asg (.attr (.var 0) 28) (.dict [] []))] r) m4 (bJ4 λu m'=>u=.none /\ Tw m' N p (Tn.new c L) B) nox:=by
 obtain⟨a,ds,e4,x4,el,er,kh,M,hs,len,fr,dd⟩:=I;subst er;rw[List.append_nil]at el;have i4:=M.has i3 λc=>absurd (List.mem_singleton.mp c) (Nat.ne_of_lt ph);have B4:∀x∈B,m4[x.1]?=some x.2:=λx hx=>M.has ((hB x hx).2.2) λc=>absurd (List.mem_singleton.mp c) (Nat.ne_of_lt (hB x hx).2.1);refine e1a4 Z.post λdp hpd hpx hpi y_=>?_;refine aC5 (bF6 (aH ⟨dp,N.ki+9,hpd,hpx,hpi,bF (cG5 Z (n+2) (q:=m4.length) bW) λu m5 z=>?_⟩));refine e0a4 z λhu k5 k5' M5=>?_;refine⟨hu,?_⟩;have L5:Le m4 m5:=by
  refine⟨Nat.le_trans (by rw[List.length_append];exact Nat.le_add_right _ _) M5.1,λy hy=>?_⟩;rw[M5.2 y (by rw[List.length_append];exact Nat.lt_of_lt_of_le hy (Nat.le_add_right _ _)) λc=>absurd (List.mem_singleton.mp c) (Nat.ne_of_lt hy),List.getElem?_append_left hy]
 rw[List.length_append]at k5 k5';have k5:m5[m4.length]?=some (.inst (N.C+1) [(20,.int 0),(21,.ref (m4.length+1))]):=k5;have k5':m5[m4.length+1]?=some (.dict [] 0):=k5';refine aC rfl ⟨p,N.C+2,_,rfl,L5.has i4,?_⟩;show Wp _ (m5.set p (.inst (N.C+2) [(8,.int c),(26,.ref h),(27,.ref m4.length)])) _ _;have i6:=aZ (o':=.inst (N.C+2) [(8,.int c),(26,.ref h),(27,.ref m4.length)]) (L5.has i4);have M6:Mod [p] m5 (m5.set p (.inst (N.C+2) [(8,.int c),(26,.ref h),(27,.ref m4.length)])):=Mod.set (.head _)
 generalize m5.set p (.inst (N.C+2) [(8,.int c),(26,.ref h),(27,.ref m4.length)])=m6 at i6 M6 ⊢
 refine cY rfl rfl i6 rfl λm7 i7 n7 f7 L7 M7=>?_;have le34:=M.1;have h34:h < m4.length:=Nat.lt_of_lt_of_le hlt le34;have l6:m4.length+1 < m6.length:=Nat.lt_of_lt_of_le (aS k5') M6.1;have up:∀(y:Nat) (o:MObj),y≠p->m5[y]?=some o->m7[y]?=some o:=λy o hy k=>f7 y o hy (M6.has k λc=>hy (List.mem_singleton.mp c));have m57:Mod [p] m5 m7:=M6.trans M7;have pD:∀D∈ds,∀y∈D.all,y∉[p]:=λD hD y hy c=>by
  have:=fr D hD y hy;rw[List.mem_singleton.mp c]at this;exact Nat.not_lt.mpr this (Nat.lt_trans ph hlt)
 have Dlt:∀D∈ds,∀y∈D.all,y < m4.length:=λD hD y hy=>by
  refine e1a1 (List.getElem?_of_mem hD) λi e=>?_;refine e1a2 (hs i D e) λo y_ h2=>?_;exact h2.lt y hy
 have ea:aL6 L a=cG c L:=by unfold cG;rw[el]
 have eo:((cG c L).map (Hs.new c)).map (·.own)=cG c L:=by rw[List.map_map];exact List.map_id _
 refine cS ⟨rfl,⟨p,h,m4.length,m4.length+1,m6.length,ds⟩,rfl,⟨i7,⟨e4,?_⟩,up _ _ (Nat.ne_of_lt (Nat.lt_trans ph h34)).symm k5,⟨0,up _ _ (Nat.ne_of_lt (Nat.lt_trans (Nat.lt_trans ph h34) (Nat.lt_succ_self _))).symm k5'⟩,⟨0,n7⟩,λi D e=>?_,?_,?_,λD hD y hy c=>?_,dd⟩,λx hx=>⟨λc=>?_,up _ _ (hB x hx).1 (L5.has (B4 x hx))⟩⟩
 ·show m7[h]?=some (.dict (tD _ _ ((((cG c L).map (Hs.new c)).map (·.own)).zip (ds.map (·.p)))) e4)
  rw[eo,<- ea];exact up _ _ (Nat.ne_of_lt ph).symm (L5.has kh)
 ·refine e1a2 (hs i D e) λo h1 h2=>?_
  refine⟨Hs.new c o,?_,(h2.le L5).mod m57 (pD D (List.mem_of_getElem? e))⟩;show((cG c L).map (Hs.new c))[i]?=_;rw[List.getElem?_map,<- ea,h1];rfl
 ·show ds.length=((cG c L).map (Hs.new c)).length
  rw[List.length_map,<- ea];exact len
 ·exact nd5 ph h34 (Nat.lt_succ_self _) l6
 ·have c:y∈[p,h,m4.length,m4.length+1,m6.length]:=c
  have y1:=fr D hD y hy;have y2:=Dlt D hD y hy;simp only[List.mem_cons,List.not_mem_nil,or_false]at c;rcases c with rfl | rfl | rfl | rfl | rfl
  ·exact Nat.not_lt.mpr y1 (Nat.lt_trans ph hlt)
  ·exact Nat.not_lt.mpr y1 hlt
  ·exact Nat.lt_irrefl _ y2
  ·exact Nat.not_lt.mpr (Nat.le_succ _) y2
  ·exact Nat.lt_irrefl _ (Nat.lt_trans y2 (Nat.lt_trans (Nat.lt_succ_self _) l6))
 ·rcases Td.mem.mp c with c | ⟨D,hD,c⟩
  ·have c:x.1∈[p,h,m4.length,m4.length+1,m6.length]:=c
   have xl:=(hB x hx).2.1;simp only[List.mem_cons,List.not_mem_nil,or_false]at c;rcases c with c | c | c | c | c
   ·exact(hB x hx).1 c
   all_goals rw[c]at xl
   ·exact Nat.lt_irrefl _ xl
   ·exact Nat.lt_irrefl _ (Nat.lt_trans xl h34)
   ·exact Nat.lt_irrefl _ (Nat.lt_trans xl (Nat.lt_trans h34 (Nat.lt_succ_self _)))
   ·exact Nat.lt_irrefl _ (Nat.lt_trans xl (Nat.lt_trans h34 (Nat.lt_trans (Nat.lt_succ_self _) l6)))
  ·exact Nat.not_lt.mpr (fr D hD _ c) (Nat.lt_trans (hB x hx).2.1 hlt)
theorem cF0(Z:TF S N)(n:Nat){c:Int}{L:List Int}(hp:m[p]?=some (.inst (N.C+2) []))(hB:∀x∈B,x.1≠p /\ m[x.1]?=some x.2)(hq:m[q]?=some (.list (L.map V.int)))(c1:1 <= c)(c2:c <= 12)(hL:∀x∈L,0 <= x /\ x < c)(nd:L.Nodup):Wp (run S (n+4) (N.ki+13) [.ref p,.int c,.ref q]) m (λu m'=>u=.none /\ Tw m' N p (Tn.new c L) B) nox:=by
 refine e1a1 Z.H.gM λy_ gM=>?_;have en:run S (n+3) N.kN [.int c] m=.ok .none m:=by
  exact aC8 Z.H.N_ Z.H.W gM (n+1) c1 c2
 have ei:aB3 S (.ref q) .list m=.ok true m:=by unfold aB3;dsimp only;rw[hq];rfl
 have plt:=aS hp;refine bL Z.tinit rfl (eC (aG (bB rfl en) (bJ (t:=false) (cO (aT (bU3 rfl ei))) (bC (aG (a:=.ref m.length) (m':=m++[.dict [] 0]) rfl ?_)))));have l0:Le m (m++[.dict [] 0]):=.app _ _;have k0:(m++[.dict [] 0])[m.length]?=some (.dict [] 0):=bW
 generalize m++[MObj.dict [] 0]=m0 at l0 k0 ⊢
 refine eR L V.int (TL1 q p m.length c L m) (aE (aC rfl (aH (fA (l0.has hq) ⟨rfl,⟨[],0,none,rfl,rfl,k0,l0⟩,?_,?_,?_⟩))))
 ·rintro zs r m' ⟨a,e,x,el,er,kd,l⟩
  exact dE (l.has hq)
 ·rintro z zs r m' ⟨a,e,x,el,er,kd,l⟩
  subst er;have hz:=hL z (by rw[el];exact List.mem_append_right _ (.head _));have za:z∉a:=λc=>by rw[el]at nd;exact(List.nodup_append.mp nd).2.2 z c z (.head _) rfl
  have al:a.length < lid:=by
   have h1:a.length <= L.length:=by rw[el,List.length_append];exact Nat.le_add_right _ _
   have h2:=cJ5 nd hL;exact Nat.lt_of_le_of_lt (Nat.le_trans h1 (Nat.le_trans h2 (dB c2))) (by decide)
  refine aC rfl (bJ (t:=false) (cX (bE (x:=false) (cO (aT (bB rfl (bI Z.H.W (n+2) z)))) (bE (x:=false) (bU1 rfl rfl hz.1 hz.2) (bE (x:=false) (aT (aR rfl rfl ?_)) dJ)))) ?_)
  ·show inV (.int z) (.ref m.length) m'=_
   rw[aU kd rfl (fE _ _),cP0];rw[show(a.any λy=>y == z)=false from List.any_eq_false.mpr λx hx e=>za (eq_of_beq e▸hx)]
  ·refine dR (aC rfl (aC rfl (aC rfl (d9 kd (k:=.int z) rfl (fE _ _) (by unfold iD;rw[List.length_map];exact al) ?_))))
   rw[dK2 za];exact cS ⟨a++[z],e+1,some (.int z),by rw[el,List.append_assoc];rfl,rfl,aZ kd,l.set (Nat.le_refl _) _⟩
 ·rintro r m1 ⟨a,e,x,el,er,kd,l⟩
  subst er;rw[List.append_nil]at el;subst el;have hp1:=l.has hp;refine aC5 (aC rfl (aC rfl ⟨p,N.C+2,[],rfl,hp1,?_⟩));show Wp _ (m1.set p (.inst (N.C+2) [(8,.int c)])) _ _;have hp2:=aZ (o':=.inst (N.C+2) [(8,.int c)]) hp1;have M2:Mod [p] m1 (m1.set p (.inst (N.C+2) [(8,.int c)])):=Mod.set (.head _)
  generalize m1.set p (.inst (N.C+2) [(8,.int c)])=m2 at hp2 M2 ⊢
  refine cY rfl rfl hp2 rfl λm3 i3 n3 f3 L3 M3=>?_;have i3:m3[p]?=some (.inst (N.C+2) [(8,.int c),(26,.ref m2.length)]):=i3;have ph:p < m2.length:=Nat.lt_of_lt_of_le (aS hp1) M2.1;have dlt:m.length < m1.length:=aS kd;have dm:m.length≠p:=(Nat.ne_of_lt plt).symm;have kd3:m3[m.length]?=some (.dict (iD L) e):=f3 _ _ dm (M2.has kd λc=>dm (List.mem_singleton.mp c));have B3:∀x∈B,m3[x.1]?=some x.2:=λx hx=>f3 _ _ (hB x hx).1 (M2.has (l.has (hB x hx).2) λc=>(hB x hx).1 (List.mem_singleton.mp c));have Blt:∀x∈B,x.1 < m2.length:=λx hx=>Nat.lt_of_lt_of_le (aS (l.has (hB x hx).2)) M2.1;refine eR (List.range c.toNat) (λ(j:Nat)=>V.int (0+(j:Int))) (TL2 N q p m.length m2.length c L m3) (aE (aC rfl (aH (aG (aL8 (Nat.lt_of_lt_of_le (aF2 (c:=13) (Int.le_trans (by decide) c1) (Int.lt_of_le_of_lt c2 (by decide:(12:Int) < 13)) (by decide)) (by decide))) ⟨rfl,⟨[],[],0,x,rfl,rfl,n3,Mod.refl _ _,λy_ y_ h=>absurd h (by simp),rfl,λy_ h=>absurd h List.not_mem_nil,λy_ y_ y_ y_ h=>absurd h (by simp)⟩,λy_ y_ y_ y_=>rfl,?_,?_⟩))))
  ·exact λj js r m4 I=>cE9 Z n c1 c2 i3 ph (aS n3) kd3 (Nat.ne_of_lt (Nat.lt_of_lt_of_le dlt M2.1)) I
  ·exact λr m4 I=>cT3 Z n i3 ph (aS n3) (λx hx=>⟨(hB x hx).1,Blt x hx,B3 x hx⟩) I
end
end Mini.Internal
variable{j:Nat}
namespace Mini.Internal
open PySem
noncomputable abbrev Thr{α:Type}(x:Mn α)(m:MH)(c:Nat):Prop:=Wp x m (λy y=>False) (λd m'=>d=c /\ m'=m)
theorem bR1{x:Mn α}{Q:α->MH->Prop}(h:Thr x m c)(e:E c m):Wp x m Q E:=wp_mono h (λy_ y_ q=>q.elim) λd m' q=>by rw[q.1,q.2];exact e
theorem dF7{x:Mn α}{Q:α->MH->Prop}(h:Thr x m c):Wp x m Q (λd m'=>d=c /\ m'=m):=bR1 h ⟨rfl,rfl⟩
section
variable{N:HN}{v:V}
theorem aU5(Z:TF S N)(n:Nat)(H:Tw m N p t B)(O:t.Ok b)(hs:t.hs[i]?=some s)(hv:Pl m v)(hb:(match v with | .int k=>!s.wrote k | _=>true)=true):Thr (run S (n+3) (N.ki+22) [.ref p,.int s.own,v]) m N.cN:=by
 refine e1a3 (id H) λT z71 h1 hB=>?_;subst z71;refine e1a3 (fJ Z n h1 O.on hs) λD hD hH eh=>?_;refine e1a4 Z.H.cls λdh hd hx hi hm=>?_;exact bL Z.tbacking rfl (a9 (bN (aX Z H rfl rfl rfl (aC rfl (aG eh ⟨D.p,N.C,_,dh,N.ki+7,rfl,hH.inst,hd,rfl,hm 6 (by decide),aC rfl (dF7 (bM7 Z.H n hH hv hb))⟩)))))
end
end Mini.Internal
variable{c:Int}
namespace Mini.Internal
open PySem
noncomputable def Tn.As(t:Tn):Prop:=(t.lets.map (·.1)).Pairwise (· < ·) /\ ∀x∈t.lets,x.1 < t.given
theorem Tn.As.send(h:t.As)(l:Lr):(t.send l).As:=by
 refine⟨?_,λx hx=>?_⟩
 ·show((t.lets++[(t.given,l)]).map (·.1)).Pairwise _
  rw[List.map_append];refine List.pairwise_append.mpr ⟨h.1,List.pairwise_singleton _ _,λa ha b hb=>?_⟩;refine e1a2 (List.mem_map.mp ha) λx hx zz1=>?_;subst zz1;rw[List.mem_singleton.mp hb];exact h.2 x hx
 ·rcases List.mem_append.mp hx with hx | hx
  ·exact Int.lt_trans (h.2 x hx) (Int.lt_succ _)
  ·rw[List.mem_singleton.mp hx];exact Int.lt_succ _
theorem bQ8{P:Tn->Prop}(hs:∀(t:Tn) (j:Nat),P t->P (t.send ⟨h,j,w⟩)):∀(l:List Nat) {t:Tn},P t->P (l.foldl (Tn.to h w) t)
 |[],_,a=>a
 |j::l,t,a=>bQ8 hs l (by
  unfold Tn.to
  split
  ·exact a
  ·exact hs t j a)
theorem aQ2{P:Tn->Prop}{h:Int}:∀{ws:List Wo} (_:∀w∈ws,(∀t:Tn,P t->P (t.say w)) /\ ∀(t:Tn) (j:Nat),P t->P (t.send ⟨h,j,w⟩)) {t:Tn},P t->P (t.tell h ws)
 |[],_,_,a=>a
 |w::ws,hs,t,a=>aQ2 (ws:=ws) (λw q=>hs w (.tail _ q)) (bQ8 (hs w (.head _)).2 _ ((hs w (.head _)).1 t a))
theorem Tn.As.tell(a:t.As):(t.tell h ws).As:=aQ2 (P:=Tn.As) (λw y_=>⟨λt a=>a,λt j a=>a.send _⟩) a
theorem tell_lets:t.given <= (t.tell h ws).given /\ ∀x∈(t.tell h ws).lets,x∈t.lets \/ (t.given <= x.1 /\ x.2.w∈ws):=
 aQ2 (P:=λu=>t.given <= u.given /\ ∀x∈u.lets,x∈t.lets \/ (t.given <= x.1 /\ x.2.w∈ws)) (λw hw=>⟨λu a=>a,λu j a=>⟨Int.le_trans a.1 (Int.le_of_lt (Int.lt_succ _)),λx hx=>by
  rcases List.mem_append.mp hx with hx | hx
  ·exact a.2 x hx
  ·rw[List.mem_singleton.mp hx];exact .inr ⟨a.1,hw⟩⟩⟩) ⟨Int.le_refl _,λx hx=>.inl hx⟩
theorem Tn.Ok.mono{c:Nat}(h:t.Ok b)(k:b <= c):t.Ok c:=⟨h.lk.mono k,h.c1,h.c2,h.on,λs q=>⟨(h.hc s q).1,Nat.le_trans (h.hc s q).2 k⟩,h.as⟩
theorem Tn.Ok.turn(O:t.Ok b)(hs:t.hs[i]?=some s){x:Hs×List Wo}(ho:x.1.own=s.own)(hc:x.1.cnt=s.cnt)(hz:x.1.sz <= s.sz+5)(hl:x.2.length <= 16):(t.turn i x).Ok (b+300):=by
 have hsm:=List.mem_of_getElem? hs;have sc:=O.hc s hsm;have O1:Tn.Lk { t with hs:=t.hs.set i x.1 } b:=⟨O.lk.lt,O.lk.ll,O.lk.sl⟩
 have cn:(t.turn i x).cnt=t.cnt:=(bM _ _ _).1;have eh:(t.turn i x).hs=t.hs.set i x.1:=(bM _ _ _).2.1;refine⟨(Tn.Lk.tell x.1.own x.2 O1 O.c2).mono (Nat.add_le_add_left (Nat.le_trans (Nat.mul_le_mul_left 13 hl) (by decide)) b),by rw[cn];exact O.c1,by rw[cn];exact O.c2,?_,λy hy=>?_,(Tn.As.tell (t:={ t with hs:=t.hs.set i x.1 }) ⟨O.as,O.lk.lt⟩).1⟩
 ·rw[eh,List.map_set,ho,aC2 (by rw[List.getElem?_map,hs];rfl)];exact O.on
 ·rw[cn]
  rw[eh]at hy;rcases List.mem_or_eq_of_mem_set hy with hy | rfl
  ·exact⟨(O.hc y hy).1,Nat.le_trans (O.hc y hy).2 (Nat.le_add_right _ _)⟩
  ·exact⟨hc.trans sc.1,Nat.le_trans hz (Nat.add_le_add sc.2 (by decide))⟩
theorem cE8(hs:t.hs[i]?=some s){x:Hs×List Wo}(ho:x.1.own=s.own):(t.turn i x).hs.map (·.own)=t.hs.map (·.own):=by
 rw[show(t.turn i x).hs=t.hs.set i x.1 from(bM _ _ _).2.1,List.map_set,ho,aC2 (by rw[List.getElem?_map,hs];rfl)]
theorem Tn.Ok.hear(O:t.Ok b)(hs:t.hs[i]?=some s)(w:Wo):(t.turn i (s.hear w)).Ok (b+300):=by
 have hc:=cI s w;have sc:=O.hc s (List.mem_of_getElem? hs);exact O.turn hs hc.2.1 hc.1 hc.2.2.2.1 (Nat.le_trans hc.2.2.2.2 (Nat.le_trans (Nat.add_le_add_right (dB (show s.cnt <= 12 by rw[sc.1];exact O.c2)) 3) (by decide)))
theorem Tn.Ok.call(O:t.Ok b)(hs:t.hs[i]?=some s)(r:Str):(t.turn i (s.call r)).Ok (b+300):=by
 have hc:=cI { s with onw:=s.onw+s.cnt } ⟨aC4,s.onw,r,s.own⟩;have sc:=O.hc s (List.mem_of_getElem? hs);refine O.turn hs hc.2.1 hc.1 hc.2.2.2.1 ?_;rw[List.length_cons];exact Nat.succ_le_succ (Nat.le_trans hc.2.2.2.2 (Nat.add_le_add_right (dB (show s.cnt <= 12 by rw[sc.1];exact O.c2)) 3))
theorem Tn.Ok.take(O:t.Ok b)(k:Int):(t.take k).Ok b:=⟨⟨λx hx=>O.lk.lt x (List.mem_filter.mp hx).1,Nat.le_trans (List.length_filter_le _ _) O.lk.ll,O.lk.sl⟩,O.c1,O.c2,O.on,O.hc,List.Pairwise.sublist (List.Sublist.map _ List.filter_sublist) O.as⟩
theorem Tn.Ok.lie(O:t.Ok b)(w:Wo)(l:Lr):((t.say w).send l).Ok (b+2):=⟨(O.lk.say w).send _,O.c1,O.c2,O.on,λs q=>⟨(O.hc s q).1,Nat.le_trans (O.hc s q).2 (Nat.le_add_right _ _)⟩,(Tn.As.send (t:=t.say w) ⟨O.as,O.lk.lt⟩ _).1⟩
theorem aT7:(L.any λy=>y == x)=decide (x∈L):=by
 rw[Bool.eq_iff_iff,decide_eq_true_iff,List.any_eq_true];exact⟨λ⟨y,h,e⟩=>eq_of_beq e▸h,λh=>⟨x,h,beq_self_eq_true x⟩⟩
theorem hon_iff:x∈cG c L↔0 <= x /\ x < c /\ x∉L:=by
 unfold cG aL6;rw[List.mem_filter,List.mem_map,aT7,Bool.not_eq_true',decide_eq_false_iff_not]
 constructor
 ·rintro⟨⟨j,hj,rfl⟩,h⟩
  have:=List.mem_range.mp hj;exact⟨Int.natCast_nonneg _,Int.lt_toNat.mp this,h⟩
 ·rintro⟨h0,h1,h2⟩
  exact⟨⟨x.toNat,List.mem_range.mpr ((Int.toNat_lt_toNat (Int.lt_of_le_of_lt h0 h1)).mpr h1),Int.toNat_of_nonneg h0⟩,h2⟩
theorem cP1(c:Int)(L:List Int):(cG c L).Nodup:=by
 refine List.Pairwise.filter _ ?_;refine List.pairwise_map.mpr ?_;refine List.Pairwise.imp (R:=λa b=>a≠b) ?_ List.nodup_range;intro a b q e;exact q (Int.ofNat_inj.mp e)
theorem bV2(c:Int)(L:List Int):(Tn.new c L).hs.map (·.own)=cG c L:=by
 rw[List.map_map];exact List.map_id _
theorem dI2(c1:1 <= c)(c2:c <= 12):(Tn.new c L).Ok 0:=by
 refine⟨⟨λx q=>absurd q List.not_mem_nil,Nat.le_refl _,Nat.le_refl _⟩,c1,c2,by rw[bV2];exact cP1 c L,λs hs=>?_,List.Pairwise.nil⟩;refine e1a2 (List.mem_map.mp hs) λo ho zz1=>?_;subst zz1;exact⟨rfl,Nat.le_refl _⟩
theorem mem_addW{x:Wo}{l:List Wo}:x∈aB4 w l↔x=w \/ x∈l:=by
 unfold aB4
 split
 ·exact⟨.inr,λh=>h.elim (λe=>e▸‹_›) id⟩
 ·rw[List.mem_append,List.mem_singleton,Or.comm]
theorem mem_adds{x:Wo}:∀{ws l:List Wo},x∈ws.foldl (λl w=>aB4 w l) l↔x∈l \/ x∈ws
 |[],l=>⟨.inl,λh=>h.elim id λh=>absurd h List.not_mem_nil⟩
 |w::ws,l=>by
  rw[List.foldl_cons,mem_adds (ws:=ws),mem_addW,List.mem_cons,Or.comm (a:=x=w),or_assoc]
theorem bQ5{x:Hs×List Wo}:w∈(t.turn i x).said↔w∈t.said \/ w∈x.2:=by
 rw[show(t.turn i x).said=x.2.foldl (λl w=>aB4 w l) t.said from(bM _ _ _).2.2];exact mem_adds
end Mini.Internal
variable{w:Nat}
namespace Mini.Internal
open PySem
section
variable{N:HN}
end
theorem cC6{c:Lo->Mn Bool}{body:Lo->Mn (Fl×Lo)}{Q:Fl×Lo->MH->Prop}(I:Nat->Lo->MH->Prop)(h:∀k r m,I k r m->Wp (c r) m (λb m'=>bif b then(∃k',k=k'+1 /\ Wp (body r) m' (aZ5 Q I k') nox)else Q (.next,r) m') nox):
  ∀(k n:Nat) (r:Lo) (m:MH),k < n->I k r m->Wp (aH5 c body n r) m Q E:=by
 intro k
 induction k with
 |zero=>
  intro n r m hn hi
  cases n with
  |zero=>exact absurd hn (Nat.not_lt_zero _)
  |succ n=>
   refine e2a2 (fU (h 0 r m hi)) λb m1 e q=>?_;have e1:(λm=>(c r m).nox) m=.ok b m1:=by show(c r m).nox=_;rw[e];rfl
   refine aJ (aG e1 ?_)
   cases b with
   |true=>refine e1a2 q λk' e y_=>?_;injection e
   |false=>exact q
 |succ k ih=>
  intro n r m hn hi
  cases n with
  |zero=>exact absurd hn (Nat.not_lt_zero _)
  |succ n=>
   refine e2a2 (fU (h (k+1) r m hi)) λb m1 e q=>?_;have e1:(λm=>(c r m).nox) m=.ok b m1:=by show(c r m).nox=_;rw[e];rfl
   refine aJ (aG e1 ?_)
   cases b with
   |false=>exact q
   |true=>
    refine e1a2 q λk' ek q=>?_
    cases (ek)
    refine e2a2 (fU q) λp m2 e2 q2=>?_;have e3:(λm=>(body r m).nox) m1=.ok p m2:=by show(body r m1).nox=_;rw[e2];rfl
    refine aJ (aG e3 ?_);obtain⟨f,r1⟩:=p
    cases f with
    |ret v=>exact q2
    |next=>exact ih n r1 m2 (Nat.lt_of_succ_lt_succ hn) q2
    |cont=>exact ih n r1 m2 (Nat.lt_of_succ_lt_succ hn) q2
theorem s_wh{c:CB}{Q:Fl×Lo->MH->Prop}(I:Nat->Lo->MH->Prop)(k:Nat)(hk:k < 1000000)(h0:I k r m)(h:∀k r m,I k r m->Wp (evT S F c r) m (λb m'=>bif b then(∃k',k=k'+1 /\ Wp (exs S F body r) m' (aZ5 Q I k') nox)else Wp (exs S F ss r) m' Q E) nox):Wp (exs S F (.wh c body::ss) r) m Q E:=by
 refine eS ?_;have key:=cC6 (E:=E) (c:=λr'=>evT S F c r') (body:=λr'=>exs S F body r') (Q:=λp m'=>match p.1 with | .next=>Wp (exs S F ss p.2) m' Q E | f=>Q (f,p.2) m') I (λk r m hi=>wp_mono (h k r m hi) (λb m' q=>?_) λy_ y_ q=>q) k cZ3 r m hk h0
 ·exact key
 ·cases b with
  |false=>exact q
  |true=>
   refine e1a2 q λk' ek q=>?_;refine⟨k',ek,wp_mono q (λp m'' q=>?_) λy_ y_ q=>q⟩;obtain⟨f,r1⟩:=p
   cases (f) <;> exact q
theorem bZ2(hx:∀x∈xs,∃d,rd 11 m x=some d)(hp:m[p]?=some (.list xs))(hq:m[q]?=some (.list [])):eqV (.ref p) (.ref q) m=.ok xs.isEmpty m:=by
 have key:∀{xs:List V},(∀x∈xs,∃d,rd 11 m x=some d)->∃ds,d7 (rd 11 m) xs=some ds /\ ds.isEmpty=xs.isEmpty:=by
  intro xs
  induction xs with
  |nil=>intro _;exact⟨[],rfl,rfl⟩
  |cons x xs ih=>
   intro h;refine e1a1 (h x (.head _)) λd h1=>?_;refine e1a2 (ih λy hy=>h y (.tail _ hy)) λds h2 y_=>?_;exact⟨d::ds,aZ2 h1 h2,rfl⟩
 refine e1a2 (key hx) λds h1 h2=>?_;unfold eqV;rw[aI6 hp,aI6 hq,h1];show Res.ok (PyData.eqv (.list ds) (.list [])) m=_;rw[dA3,h2]
theorem dI5(hx:∀x∈xs,∃d,rd 11 m x=some d)(hp:m[p]?=some (.list xs))(hq:m[q]?=some (.list [])):aF0 .NotEq (.ref p) (.ref q) m=.ok (!xs.isEmpty) m:=by
 show(eqV (.ref p) (.ref q) m).bind _=_;rw[bZ2 hx hp hq];rfl
theorem cV1{a:CE}{Q:Bool->MH->Prop}(ha:ev S F a r m=.ok (.ref p) m)(hp:m[p]?=some (.list xs))(hx:∀x∈xs,∀m,∃d,rd 11 m x=some d)(q:∀m',Le m m'->Q (!xs.isEmpty) m'):Wp (evT S F (.val (.cmp a [.NotEq] [.list []])) r) m Q E:=by
 refine eF (eU (aG ha (aY (aH (aK λq' m' l k g=>?_)))));exact aG (dI5 (λx hx'=>hx x hx' m') (l.has hp) k) (aC rfl (q m' l))
theorem rdI(x:V){is:List Int}(h:x∈is.map V.int)(m:MH):∃d,rd 11 m x=some d:=by
 refine e1a2 (List.mem_map.mp h) λi y_ zz1=>?_;subst zz1;exact⟨_,rfl⟩
theorem rdW(x:V){ws:List Wo}(h:x∈ws.map Wo.v)(m:MH):∃d,rd 11 m x=some d:=by
 refine e1a2 (List.mem_map.mp h) λw y_ zz1=>?_;subst zz1;exact⟨w.d,rfl⟩
theorem cB7(h:0 < is.length):∃y,at_ (is.map V.int) (x % (is.length:Int))=some (.int y) /\ y∈is:=by
 have h':(0:Int) < (is.length:Int):=Int.natCast_pos.mpr h;refine e1a2 (cB6 (xs:=is.map V.int) (x:=x) h' (by rw[List.length_map])) λv h1 h2=>?_;refine e1a2 (List.mem_map.mp h2) λy hy zz1=>?_;subst zz1;exact⟨y,h1,hy⟩
theorem bN2{v:V}(h:m[p]?=some (.list xs))(hv:at_ xs k=some v)(hk:k.natAbs < 2 ^ 60):aO6 (.ref p) (.int k) m=.ok v m:=by
 unfold aO6;dsimp only;rw[h];dsimp only;rw[if_pos hk,hv];rfl
theorem aI9{a:CE}(ha:ev S F a r m=.ok (.ref p) m)(h:m[p]?=some (.list xs)):ev S F (.bi .len [a]) r m=.ok (.int xs.length) m:=by
 show Res.bind (Res.bind (ev S F a r m) _) _=_;rw[ha];show biV .len [.ref p] m=_;unfold biV;dsimp only;rw[h]
theorem bU2{a e:CE}(ha:ev S F a r m=.ok (.ref p) m)(hp:m[p]?=some (.list (is.map V.int)))(he:ev S F e r m=.ok (.int x) m)(h:0 < is.length)(hl:is.length <= 1000000):∃y,ev S F (.idx a (.bin .Mod e (.bi .len [a]))) r m=.ok (.int y) m /\ y∈is:=by
 refine e1a2 (cB7 (x:=x) h) λy h1 h2=>?_;have h':(0:Int) < (is.length:Int):=Int.natCast_pos.mpr h;refine⟨y,dW ha (bU he ((aI9 ha hp).trans (by rw[List.length_map])) (aD0 h')) (bN2 hp h1 (md60 h' (Int.ofNat_le.mpr hl))),h2⟩
noncomputable def aT4:List CS:=[
 (.asg (.one (.one 3)) (.listrange [(.var 1)])),
 (.asg (.one (.one 4)) (.list [])),
 (.wh (.val (.cmp (.bi .len [(.var 4)]) [.Lt] [(.bi .min2 [(.var 2),(.var 1)])])) [
  (.exp (.smeth (.var 4) .append [(.smeth (.var 3) .pop [(.bin .Mod (.var 0) (.bi .len [(.var 3)]))])])),
  (.asg (.one (.one 0)) (.bin .Add (.bin .FloorDiv (.var 0) (.cnst (Lt.int 3))) (.cnst (Lt.int 1))))]),
 (.ret (.var 4))]
theorem dE3{v:V}(h:m[p]?=some (.list xs))(h0:0 <= k)(hv:xs[k.toNat]?=some v)(hk:k.natAbs < 2 ^ 60)(q:Q v (m.set p (.list (xs.eraseIdx k.toNat)))):Wp (cU 0 (.ref p) .pop [.int k]) m Q E:=by
 refine aG (m':=m.set p (.list (xs.eraseIdx k.toNat))) ?_ q;show(match m[p]? with | some (.list xs)=>bK9 p xs .pop [.int k] m | _=>.bad)=_;rw[h];show(if 0 <= k then(match xs[k.toNat]? with | some v=>if k.natAbs < 2 ^ 60 then Res.ok v (m.set p (.list (xs.eraseIdx k.toNat)))else .bad | Option.none=>.bad)else .bad)=_;rw[if_pos h0,hv];show(if k.natAbs < 2 ^ 60 then _ else _)=_;rw[if_pos hk]
theorem lm_lt:g < (if c < mn then c else mn)↔g < min mn c:=by
 by_cases h:c < mn
 ·rw[if_pos h,Int.min_eq_right (Int.le_of_lt h)]
 ·rw[if_neg h,Int.min_eq_left (Int.not_lt.mp h)]
theorem lm_z(h:g+(0:Nat)=x):g=x:=(Int.add_zero g).symm.trans h
theorem lm_k{k:Nat}(h:g+k=max 0 x)(g0:0 <= g):(g < x↔k≠0):=by
 refine⟨λa b=>Int.not_lt.mpr ?_ a,λb=>?_⟩
 ·rw[lm_z (g:=g) (x:=max 0 x) (by rw[<- h,b])];exact Int.le_max_right 0 x
 ·have q:g < max 0 x:=h▸Int.lt_add_of_pos_right g (Int.ofNat_lt.mpr (Nat.pos_of_ne_zero b))
  by_cases z:x <= 0
  ·rw[Int.max_eq_left z]at q;exact absurd q (Int.not_lt.mpr g0)
  ·rw[Int.max_eq_right (Int.le_of_lt (Int.not_le.mp z))]at q;exact q
theorem lm_a{a:Int}(h:a+g=c)(z:g < min mn c):0 < a:=by
 have q:0+g < a+g:=by rw[h,Int.zero_add];exact Int.lt_of_lt_of_le z (Int.min_le_right mn c)
 exact Int.lt_of_add_lt_add_right q
theorem lm_n(h:g+(0:Nat)=max 0 (min mn c)):g=max 0 (min mn c):=lm_z h
theorem lm_s{k:Nat}(h:g+((k+1:Nat):Int)=x):(g+1)+(k:Int)=x:=by rw[Int.add_assoc,Int.add_comm 1];exact h
theorem lm_l{a:Int}(h:a+g=c)(g0:0 <= g)(h2:c <= 12):a <= 1000000:=Int.le_trans (Int.le_add_of_nonneg_right g0) (Int.le_trans (h▸h2) (by decide))
theorem lm_g{a:Int}(h:a+g=c)(g0:0 <= a)(h2:c <= 12):g <= 12:=Int.le_trans (Int.le_add_of_nonneg_left g0) (h▸h2)
theorem lm_e{g:Nat}(h:0 < a):((a - 1:Nat):Int)+((g+1:Nat):Int)=(a:Int)+g:=by
 cases a with
 |zero=>exact absurd h (Nat.lt_irrefl _)
 |succ a=>
  show(a:Int)+((g:Int)+1)=((a:Int)+1)+g;rw[Int.add_assoc,Int.add_comm 1]
inductive LL(c:Int)(mn:Int)(p q:Nat)(m:MH)(k:Nat)(r:Lo)(m':MH):Prop
 |mk (cell:Int) (A G:List Int) (er:r=[some (.int cell),some (.int c),some (.int mn),some (.ref p),some (.ref q)]) (ka:m'[p]?=some (.list (A.map V.int))) (kg:m'[q]?=some (.list (G.map V.int))) (l:Le m m') (nd:(A++G).Nodup) (rg:∀x∈A++G,0 <= x /\ x < c) (le:(A.length:Int)+G.length=c) (hk:(G.length:Int)+k=max 0 (min mn c))
theorem aX8:∀{is:List Int} {k:Nat},(is.map V.int).eraseIdx k=(is.eraseIdx k).map V.int
 |[],_=>rfl
 |_::_,0=>rfl
 |i::is,k+1=>congrArg (V.int i::·) (aX8 (is:=is) (k:=k))
theorem aO9:∀{l:List Int} {k:Nat} (h:k < l.length),(l[k]::l.eraseIdx k).Perm l
 |_::_,0,_=>List.Perm.refl _
 |a::l,k+1,h=>(List.Perm.swap a _ _).trans ((aO9 (l:=l) (k:=k) (Nat.lt_of_succ_lt_succ h)).cons a)
theorem c_13(c1:1 <= c)(c2:c <= 12):c.natAbs < 13:=aF2 (Int.le_trans (by decide) c1) (Int.lt_of_le_of_lt c2 (by decide:(12:Int) < 13)) (by decide)
theorem c_mx(c2:c <= 12):(max 0 (min mn c)).toNat <= 12:=dB (Int.max_le.mpr ⟨by decide,Int.le_trans (Int.min_le_right _ _) c2⟩)
theorem bW3{kf:Nat}(h:cJ S kf 3 5 aT4)(n:Nat)(cell c mn:Int)(c1:1 <= c)(c2:c <= 12):Wp (run S (n+1) kf [.int cell,.int c,.int mn]) m (λu m'=>∃(q:Nat) (L:List Int),u=.ref q /\ m'[q]?=some (.list (L.map V.int)) /\ Le m m' /\ m.length <= q /\ L.Nodup /\ (∀x∈L,0 <= x /\ x < c) /\ (L.length:Int)=max 0 (min mn c)) nox:=by
 refine bL h rfl (bC (aV3 (aE (aC rfl (aH ⟨_,dH1 (n:=c) (Nat.lt_of_lt_of_le (c_13 c1 c2) (by decide)),by rw[List.length_map,bF0,Int.sub_zero];exact dG (k:=12) (dB c2) (by decide),λp m1 l1 k1 g1=>?_⟩)))));refine bC (aY (aH (aK λq m2 l2 k2 g2=>?_)));have pq:p≠q:=λe=>Nat.not_lt.mpr g2 (e▸aS k1);refine s_wh (LL c mn p q m) (max 0 (min mn c)).toNat (Nat.lt_of_le_of_lt (c_mx c2) (by decide)) ⟨cell,cU2 0 c,[],rfl,l2.has k1,k2,l1.trans l2,?_,?_,?_,?_⟩ ?_
 ·rw[List.append_nil]
  refine List.pairwise_map.mpr (List.Pairwise.imp (R:=λa b=>a≠b) ?_ List.nodup_range);intro a b z e;exact z (Int.ofNat_inj.mp (Int.add_left_cancel e))
 ·rw[List.append_nil]
  intro x hx;refine e1a2 (List.mem_map.mp hx) λj hj zz1=>?_;subst zz1;have:=List.mem_range.mp hj;rw[Int.sub_zero]at this;rw[Int.zero_add];exact⟨Int.natCast_nonneg j,Int.lt_toNat.mp this⟩
 ·rw[bF0,List.length_nil,Int.sub_zero,Int.toNat_of_nonneg (Int.le_trans (by decide) c1)];exact Int.add_zero c
 ·exact(Int.zero_add _).trans (Int.toNat_of_nonneg (Int.le_max_left _ _))
 ·rintro k r m' ⟨cell,A,G,er,ka,kg,l,nd,rg,le,hk⟩
  rw[er];have e1:evT S (run S n) (.val (.cmp (.bi .len [(.var 4)]) [.Lt] [(.bi .min2 [(.var 2),(.var 1)])])) [some (.int cell),some (.int c),some (.int mn),some (.ref p),some (.ref q)] m'=.ok (decide ((G.length:Int) < (if c < mn then c else mn))) m':=by
   refine aT (aR ((aI9 (xs:=G.map V.int) rfl kg).trans (by rw[List.length_map])) (y:=.int (if c < mn then c else mn)) rfl rfl)
  refine aG e1 ?_;have gl0:(0:Int) <= (G.length:Int):=Int.natCast_nonneg _;have al0:(0:Int) <= (A.length:Int):=Int.natCast_nonneg _;by_cases z:(G.length:Int) < (if c < mn then c else mn)
  ·rw[decide_eq_true z]
   have z:=lm_lt.mp z
   cases k with
   |zero=>exact absurd rfl ((lm_k hk gl0).mp z)
   |succ k=>
    refine dQ ⟨k,rfl,?_⟩;have al:(0:Int) < (A.length:Int):=lm_a le z;have al':(cell % (A.length:Int)).toNat < A.length:=mdN al (Int.le_refl _);have em:ev S (run S n) (.bin .Mod (.var 0) (.bi .len [(.var 3)])) [some (.int cell),some (.int c),some (.int mn),some (.ref p),some (.ref q)] m'=.ok (.int (cell % (A.length:Int))) m':=
     bU rfl ((aI9 (xs:=A.map V.int) rfl ka).trans (by rw[List.length_map])) (aD0 al)
    have ae:(A.map V.int)[(cell % (A.length:Int)).toNat]?=some (.int A[(cell % (A.length:Int)).toNat]):=by rw[List.getElem?_map,List.getElem?_eq_getElem al'];rfl
    refine eC (bV (aC rfl ⟨0,aL9 kg,rfl,aE (bV (aC rfl ⟨0,aL9 ka,rfl,aE (aG em (aH (dE3 ka (md0 al) ae (md60 al (lm_l le gl0 c2)) ?_)))⟩))⟩));refine aH (eJ (aQ pq kg) (by rw[List.length_map];exact Nat.lt_of_le_of_lt (Int.ofNat_le.mp (lm_g le al0 c2)) (by decide)) ?_);rw[aX8];refine bC (aC rfl (cS ?_));refine⟨cell / 3+1,A.eraseIdx (cell % (A.length:Int)).toNat,G++[A[(cell % (A.length:Int)).toNat]],rfl,aQ (λe=>pq e.symm) (aZ ka),?_,?_,?_,?_,?_,?_⟩
    ·rw[List.map_append];exact aZ (aQ pq kg)
    ·exact(l.set (Nat.le_trans (Nat.le_refl _) g1) _).set (Nat.le_trans l1.1 g2) _
    ·have pm:(A.eraseIdx (cell % (A.length:Int)).toNat++(G++[A[(cell % (A.length:Int)).toNat]])).Perm (A++G):=by
      refine List.Perm.trans ?_ ((aO9 al').append_right G);rw[<- List.append_assoc];exact List.perm_append_comm
     exact pm.nodup_iff.mpr nd
    ·intro x hx
     rcases List.mem_append.mp hx with hx | hx
     ·exact rg x (List.mem_append_left _ (List.mem_of_mem_eraseIdx hx))
     ·rcases List.mem_append.mp hx with hx | hx
      ·exact rg x (List.mem_append_right _ hx)
      ·rw[List.mem_singleton.mp hx];exact rg _ (List.mem_append_left _ (List.getElem_mem al'))
    ·rw[List.length_eraseIdx_of_lt al',List.length_append,List.length_singleton,<- le];exact lm_e (Nat.pos_of_ne_zero λq=>by rw[q]at al';exact Nat.not_lt_zero _ al')
    ·rw[List.length_append];exact lm_s hk
  ·rw[decide_eq_false z]
   refine fM (a9 (aC rfl ⟨q,G,rfl,kg,l,Nat.le_trans l1.1 g2,(List.nodup_append.mp nd).2.1,λx hx=>rg x (List.mem_append_right _ hx),?_⟩));have z:=λq=>z (lm_lt.mpr q);have k0:k=0:=Classical.byContradiction λq=>z ((lm_k hk gl0).mpr q);rw[k0]at hk;exact lm_n hk
theorem bT0{k:IK}{t:CT}{Q:Fl×Lo->MH->Prop}(zs:List α)(vv:α->V)(h:Wp (evs S F src r) m (λvs m'=>Wp (aD4 k vs) m' (λp m'=>∃I:List α->Lo->MH->Prop,p.1=zs.map vv /\ I zs r m' /\ (∀zs r m,I zs r m->p.2.stays m=true) /\
      (∀z zs r m,I (z::zs) r m->Wp (aI4 t (vv z) r) m (λr' m'=>Wp (exs S F body r') m' (aZ5 Q I zs) E) E) /\ (∀r m,I [] r m->Wp (exs S F ss r) m Q E)) E) E):Wp (exs S F (.for_ k t src body::ss) r) m Q E:=by
  refine dG8 (wp_mono h (λvs m' h=>wp_mono h (λp m' h=>?_) λy_ y_ q=>q) λy_ y_ q=>q);refine e1a5 h λI e0 h0 hg hs hn=>?_;refine⟨λxs r m=>∃z,xs=z.map vv /\ I z r m,⟨zs,e0,h0⟩,λy_ y_ y_ ⟨_,_,q⟩=>hg _ _ _ q,?_,?_⟩
  · rintro x xs r m ⟨z,e,q⟩
    cases z with
    |nil=>injection e
    |cons c z=>
      cases (e)
      refine wp_mono (hs c z r m q) (λr' m' q=>wp_mono q (λp m' q=>?_) λy_ y_ q=>q) λy_ y_ q=>q;obtain⟨f,r1⟩:=p
      cases f with
      |ret v=>exact q
      |next=>exact⟨z,rfl,q⟩
      |cont=>exact⟨z,rfl,q⟩
  · rintro r m ⟨z,e,q⟩
    cases z with
    |nil=>exact hn r m q
    |cons c z=>injection e
noncomputable def aT5:List CS:=[
 (.ret (.idx (.list [(.cnst (Lt.int 4)),(.cnst (Lt.int 4)),(.cnst (Lt.int 5)),(.cnst (Lt.int 7)),(.bin .Add (.cnst (Lt.int 1)) (.bin .Mod (.bin .FloorDiv (.var 0) (.cnst (Lt.int 5))) (.cnst (Lt.int 7))))]) (.bin .Mod (.var 0) (.cnst (Lt.int 5)))))]
theorem mdl(h:0 < n)(h2:n <= (lid:Int)):(x % n).natAbs < 2 ^ 60:=Nat.lt_of_lt_of_le (aF2 (c:=lid) (md0 h) (md1 h) h2) (by decide)
theorem bW8{kf:Nat}(h:cJ S kf 1 1 aT5)(n:Nat)(x:Int):Wp (run S (n+1) kf [.int x]) m (λu m'=>∃c:Int,u=.int c /\ 1 <= c /\ c <= 7 /\ Le m m') nox:=by
 refine bL h rfl (a9 (aV4 (aY (aC (a:=[.int 4,.int 4,.int 5,.int 7,.int (1+x / 5 % 7)]) rfl (aK λq m1 l k g=>?_)))));refine aC (a:=.int (x % 5)) rfl ?_;refine e1a2 (cB7 (is:=[4,4,5,7,1+x / 5 % 7]) (x:=x) (Nat.succ_pos _)) λv h1 h2=>?_;refine aG (bN2 k h1 (md60 (n:=5) (by decide) (by decide))) ⟨v,rfl,?_⟩;have a:0 <= x / 5 % 7:=md0 (by decide);have b:x / 5 % 7 < 7:=md1 (by decide);have q:∀v∈[4,4,5,7,1+x / 5 % 7],(1:Int) <= v /\ v <= 7:=List.forall_mem_cons.mpr ⟨by decide,List.forall_mem_cons.mpr ⟨by decide,List.forall_mem_cons.mpr ⟨by decide,List.forall_mem_cons.mpr ⟨by decide,List.forall_mem_cons.mpr ⟨⟨Int.le_add_of_nonneg_right a,Int.add_le_add_left (Int.le_of_lt_add_one b:x / 5 % 7 <= 6) 1⟩,λy_ h=>nomatch h⟩⟩⟩⟩⟩;exact⟨(q v h2).1,(q v h2).2,l⟩
theorem cX3{r:Str}(n0:0 <= n)(n1:n <= 9999)(hr:bN1 (.str r)=true)(h0:0 <= h)(h1:h < c):(⟨aF6,n,r,h⟩:Wo).Ok c:=⟨.inr rfl,n0,n1,hr,h0,h1,λe=>absurd e.symm (by decide:aC4≠aF6)⟩
theorem dG7{r:Str}(k0:0 <= k)(k1:k < 2)(hr:bN1 (.str r)=true)(h0:0 <= h)(h1:h < c)(c2:c <= 12):(⟨aC4,h+c * k,r,h⟩:Wo).Ok c:=by
 refine⟨.inl rfl,?_,?_,hr,h0,h1,λy_=>?_⟩
 ·exact Int.add_nonneg h0 (Int.mul_nonneg (Int.le_of_lt (Int.lt_of_le_of_lt h0 h1)) k0)
 ·exact Int.le_trans (Int.add_le_add (Int.le_trans (Int.le_of_lt h1) c2) (Int.mul_le_mul c2 (Int.le_of_lt_add_one k1:k <= 1) k0 (by decide))) (by decide:(12+12 * 1:Int) <= 9999)
 ·show(h+c * k - h) % c=0
  rw[Int.add_comm h,Int.add_sub_cancel,Int.mul_emod_right]
theorem bH4(h:m[p]?=some (.list (ws.map Wo.v)))(w:Wo):inV w.v (.ref p) m=.ok (decide (w∈ws)) m:=by
 unfold inV;dsimp only;rw[h];dsimp only;rw[show d7 (rd cT m) (ws.map Wo.v)=some (ws.map Wo.d)from aG5 m 10 ws];show Res.ok ((ws.map Wo.d).any λe=>PyData.eqv e w.d) m=_;rw[List.any_map]
 congr 1
 rw[Bool.eq_iff_iff,decide_eq_true_iff,List.any_eq_true];exact⟨λz_=>by
  refine e1a2 z_ λx hx e=>?_;have e:PyData.eqv x.d w.d=true:=e;rw[bD2,decide_eq_true_iff]at e;exact e▸hx,λhx=>⟨w,hx,by show PyData.eqv w.d w.d=true;rw[bD2];exact decide_eq_true rfl⟩⟩
theorem bK4(h:m[p]?=some (.list (is.map V.int)))(x:Int):aF0 .NotIn (.int x) (.ref p) m=.ok (!decide (x∈is)) m:=by
 show Res.bind (inV (.int x) (.ref p) m) _=_;rw[cY8 h,aT7];rfl
end Mini.Internal
variable{c k:Nat}{x:Nat×MObj}
namespace C09
open PySem Mini.Internal
noncomputable def bL9:List CS:=fN
noncomputable def aX1:List CS:=bI7 0 0 2
noncomputable def aX2:List CS:=cQ1 1
noncomputable def cK6:List CS:=bJ1 1 2
noncomputable def cK5:List CS:=aH1 1 2
noncomputable def cK7:List CS:=aH2
noncomputable def bY6:List CS:=aL1 1 0 4 5 3
noncomputable def aX7:List CS:=bI3
noncomputable def aX4:List CS:=cB5 1 0 3
noncomputable def aX6:List CS:=cQ3 4 4
noncomputable def aX5:List CS:=cQ2 7
noncomputable def aK4:List CS:=aZ1
noncomputable def aK3:List CS:=aY8 3
noncomputable def aM7:List CS:=bI8
noncomputable def aM8:List CS:=bI9
noncomputable def aK5:List CS:=fO 0 8
noncomputable def aM9:List CS:=bJ2
noncomputable def bC5:List CS:=cB4
noncomputable def bC4:List CS:=cQ0
noncomputable def aX0:List CS:=bI6 0 7
noncomputable def aM6:List CS:=cB3
noncomputable def bC2:List CS:=cB1 1 0 3 9
noncomputable def aS9:List CS:=bJ0 0 3
noncomputable def bC1:List CS:=cP9
noncomputable def bC3:List CS:=cB2
noncomputable def aW9:List CS:=bI4
noncomputable def bL6:List CS:=dM9 0 6 3 5 6
noncomputable def aM4:List CS:=cB0
noncomputable def aS7:List CS:=bI5
noncomputable def aS8:List CS:=aY9
noncomputable def aM5:List CS:=aP6
noncomputable def aT0:List CS:=aZ0
noncomputable def cK4:List CS:=b_at
noncomputable def bC7:List CS:=fN
noncomputable def bY5:List CS:=b_row
noncomputable def bC8:List CS:=aT4
noncomputable def bC6:List CS:=[
 (.ite (.not (.val (.isi (.var 0) .list))) [
  (.ret (.cnst (Lt.bool false)))] []),
 (.for_ .expr (.one 1) [(.var 0)] [
  (.ite (.all false [(.not (.val (.isi (.var 1) .tuple))),(.val (.cmp (.bi .len [(.var 1)]) [.NotEq] [(.cnst (Lt.int 4))])),(.not (.val (.call 33 [(.idx (.var 1) (.cnst (Lt.int 1)))]))),(.not (.val (.call 33 [(.idx (.var 1) (.cnst (Lt.int 3)))])))]) [
   (.ret (.cnst (Lt.bool false)))] [])]),
 (.ret (.cnst (Lt.bool true)))]
noncomputable def bC9:List CS:=aT5
noncomputable def bL7:List CS:=[
 (.for_ .expr (.one 3) [(.var 2)] [
  (.ite (.all true [(.val (.cmp (.idx (.var 3) (.cnst (Lt.int 3))) [.Eq] [(.var 1)])),(.val (.cmp (.var 3) [.NotIn] [(.idx (.var 0) (.cnst (Lt.str (Str.ofString "said"))))]))]) [
   (.exp (.smeth (.idx (.var 0) (.cnst (Lt.str (Str.ofString "said")))) .append [(.var 3)]))] []),
  (.for_ .range (.one 4) [(.idx (.var 0) (.cnst (Lt.str (Str.ofString "count"))))] [
   (.ite (.val (.cmp (.var 4) [.NotEq] [(.var 1)])) [
    (.exp (.smeth (.idx (.var 0) (.cnst (Lt.str (Str.ofString "letters")))) .append [(.tup [(.var 1),(.var 4),(.var 3)])]))] [])])])]
noncomputable def aT1:List CS:=[
 (.asg (.one (.one 3)) (.comp (.var 9) (.one 9) 1 .range [(.bi .len [(.idx (.var 1) (.cnst (Lt.str (Str.ofString "letters"))))])] [(.val (.cmp (.idx (.idx (.var 1) (.cnst (Lt.str (Str.ofString "letters")))) (.var 9)) [.IsNot] [(.cnst Lt.none)]))])),
 (.ite (.val (.cmp (.var 3) [.Eq] [(.list [])])) [
  (.ret (.tup [(.list []),(.list [])]))] []),
 (.asg (.one (.one 4)) (.idx (.var 3) (.bin .Mod (.var 2) (.bi .len [(.var 3)])))),
 (.asg (.one (.many [5,6,7])) (.idx (.idx (.var 1) (.cnst (Lt.str (Str.ofString "letters")))) (.var 4))),
 (.asg (.idx (.idx (.var 1) (.cnst (Lt.str (Str.ofString "letters")))) (.var 4)) (.cnst Lt.none)),
 (.asg (.one (.one 8)) (.list [])),
 (.ite (.val (.cmp (.var 6) [.In] [(.idx (.var 1) (.cnst (Lt.str (Str.ofString "houses"))))])) [
  (.asg (.one (.one 8)) (.meth (.idx (.idx (.var 1) (.cnst (Lt.str (Str.ofString "houses")))) (.var 6)) 1 [(.var 7)]))] []),
 (.exp (.call 38 [(.var 1),(.var 6),(.var 8)])),
 (.ret (.tup [(.meth (.var 0) 18 [(.var 4)]),(.var 8)]))]
noncomputable def f_law_lied:List CS:=[
 (.asg (.one (.one 4)) (.idx (.idx (.var 1) (.cnst (Lt.str (Str.ofString "liars")))) (.bin .Mod (.var 2) (.bi .len [(.idx (.var 1) (.cnst (Lt.str (Str.ofString "liars"))))])))),
 (.asg (.one (.one 5)) (.bin .Mod (.bin .Add (.bin .Add (.var 4) (.cnst (Lt.int 1))) (.bin .Mod (.bin .FloorDiv (.var 2) (.cnst (Lt.int 12))) (.bin .Sub (.idx (.var 1) (.cnst (Lt.str (Str.ofString "count")))) (.cnst (Lt.int 1))))) (.idx (.var 1) (.cnst (Lt.str (Str.ofString "count")))))),
 (.asg (.one (.one 6)) (.bin .Add (.var 4) (.bin .Mult (.idx (.var 1) (.cnst (Lt.str (Str.ofString "count")))) (.bin .Mod (.bin .FloorDiv (.var 2) (.cnst (Lt.int 84))) (.cnst (Lt.int 2)))))),
 (.asg (.one (.one 7)) (.tup [(.idx (.list [(.cnst (Lt.str (Str.ofString "say"))),(.cnst (Lt.str (Str.ofString "mark")))]) (.bin .Mod (.bin .FloorDiv (.var 2) (.cnst (Lt.int 168))) (.cnst (Lt.int 2)))),(.var 6),(.idx (.var 3) (.bin .Mod (.bin .FloorDiv (.var 2) (.cnst (Lt.int 336))) (.cnst (Lt.int 3)))),(.var 4)])),
 (.ite (.all true [(.val (.cmp (.bin .Mod (.bin .FloorDiv (.var 2) (.cnst (Lt.int 1008))) (.cnst (Lt.int 3))) [.Eq] [(.cnst (Lt.int 1))])),(.val (.cmp (.idx (.var 1) (.cnst (Lt.str (Str.ofString "said")))) [.NotEq] [(.list [])]))]) [
  (.asg (.one (.one 7)) (.idx (.idx (.var 1) (.cnst (Lt.str (Str.ofString "said")))) (.bin .Mod (.bin .FloorDiv (.var 2) (.cnst (Lt.int 3024))) (.bi .len [(.idx (.var 1) (.cnst (Lt.str (Str.ofString "said"))))]))))] []),
 (.ite (.val (.cmp (.var 7) [.NotIn] [(.idx (.var 1) (.cnst (Lt.str (Str.ofString "said"))))])) [
  (.exp (.smeth (.idx (.var 1) (.cnst (Lt.str (Str.ofString "said")))) .append [(.var 7)]))] []),
 (.asg (.one (.one 8)) (.meth (.var 0) 24 [(.var 4),(.var 5),(.var 7)])),
 (.exp (.smeth (.idx (.var 1) (.cnst (Lt.str (Str.ofString "letters")))) .append [(.tup [(.var 4),(.var 5),(.var 7)])])),
 (.ret (.boolop true [(.call 33 [(.var 8)]),(.cmp (.var 8) [.Eq] [(.bin .Sub (.bi .len [(.idx (.var 1) (.cnst (Lt.str (Str.ofString "letters"))))]) (.cnst (Lt.int 1)))])]))]
noncomputable def f_law_deed:List CS:=[
 (.asg (.one (.one 4)) (.bi .sorted [(.idx (.var 1) (.cnst (Lt.str (Str.ofString "houses"))))])),
 (.ite (.all true [(.val (.cmp (.bin .Mod (.var 2) (.cnst (Lt.int 4))) [.Eq] [(.cnst (Lt.int 0))])),(.val (.cmp (.var 4) [.NotEq] [(.list [])]))]) [
  (.asg (.one (.one 5)) (.idx (.var 4) (.bin .Mod (.bin .FloorDiv (.var 2) (.cnst (Lt.int 4))) (.bi .len [(.var 4)])))),
  (.asg (.one (.one 6)) (.idx (.var 3) (.bin .Mod (.bin .FloorDiv (.var 2) (.cnst (Lt.int 48))) (.cnst (Lt.int 3))))),
  (.asg (.one (.one 7)) (.meth (.idx (.idx (.var 1) (.cnst (Lt.str (Str.ofString "houses")))) (.var 5)) 0 [(.var 6)])),
  (.exp (.call 38 [(.var 1),(.var 5),(.var 7)])),
  (.ret (.tup [(.meth (.var 0) 0 [(.var 5),(.var 6)]),(.var 7)]))] []),
 (.ite (.all true [(.val (.cmp (.bin .Mod (.var 2) (.cnst (Lt.int 4))) [.Eq] [(.cnst (Lt.int 1))])),(.val (.cmp (.idx (.var 1) (.cnst (Lt.str (Str.ofString "liars")))) [.NotEq] [(.list [])])),(.val (.cmp (.idx (.var 1) (.cnst (Lt.str (Str.ofString "count")))) [.Gt] [(.cnst (Lt.int 1))]))]) [
  (.ret (.ite (.val (.call 40 [(.var 0),(.var 1),(.bin .FloorDiv (.var 2) (.cnst (Lt.int 4))),(.var 3)])) (.tup [(.cnst Lt.none),(.cnst Lt.none)]) (.tup [(.list []),(.cnst Lt.none)])))] []),
 (.ret (.call 39 [(.var 0),(.var 1),(.bin .FloorDiv (.var 2) (.cnst (Lt.int 4)))]))]
noncomputable def aK2:List CS:=[
 (.try_ [
  (.exp (.meth (.var 0) 6 [(.var 1),(.var 2)]))] 8 Option.none (.cnst (Lt.bool true))),
 (.ret (.cnst (Lt.bool false)))]
noncomputable def aX3:List CS:=[
 (.for_ .expr (.one 2) [(.bi .sorted [(.idx (.var 1) (.cnst (Lt.str (Str.ofString "houses"))))])] [
  (.asg (.one (.one 3)) (.idx (.idx (.var 1) (.cnst (Lt.str (Str.ofString "houses")))) (.var 2))),
  (.for_ .expr (.one 4) [(.bi .sorted [(.meth (.var 3) 5 [])])] [
   (.ite (.val (.cmp (.meth (.var 0) 6 [(.var 2),(.var 4)]) [.NotEq] [(.meth (.var 3) 6 [(.var 4)])])) [
    (.ret (.cnst (Lt.bool false)))] [])]),
  (.ite (.all false [(.val (.cmp (.meth (.var 0) 7 [(.var 2)]) [.NotEq] [(.meth (.var 3) 7 [])])),(.val (.cmp (.meth (.var 0) 5 [(.var 2)]) [.NotEq] [(.meth (.var 3) 5 [])]))]) [
   (.ret (.cnst (Lt.bool false)))] [])]),
 (.ret (.cmp (.meth (.var 0) 25 []) [.Eq] [(.idx (.var 1) (.cnst (Lt.str (Str.ofString "said"))))]))]
noncomputable def bL8:List CS:=[
 (.asg (.one (.one 3)) (.meth (.var 0) 19 [])),
 (.asg (.one (.one 4)) (.idx (.var 1) (.cnst (Lt.str (Str.ofString "letters"))))),
 (.ite (.val (.cmp (.var 3) [.NotEq] [(.comp (.tup [(.var 10),(.idx (.var 4) (.var 10))]) (.one 10) 1 .range [(.bi .len [(.var 4)])] [(.val (.cmp (.idx (.var 4) (.var 10)) [.IsNot] [(.cnst Lt.none)]))])])) [
  (.ret (.cnst (Lt.bool false)))] []),
 (.asg (.one (.one 5)) (.meth (.var 0) 25 [])),
 (.ite (.all false [(.not (.val (.isi (.var 3) .list))),(.not (.val (.call 36 [(.var 5)]))),(.val (.cmp (.var 5) [.NotEq] [(.idx (.var 1) (.cnst (Lt.str (Str.ofString "said"))))]))]) [
  (.ret (.cnst (Lt.bool false)))] []),
 (.exp (.smeth (.meth (.var 0) 19 []) .clear [])),
 (.exp (.smeth (.meth (.var 0) 25 []) .clear [])),
 (.exp (.smeth (.var 2) .append [(.tup [(.var 3),(.bi .list [(.var 3)])])])),
 (.exp (.smeth (.var 2) .append [(.tup [(.var 5),(.bi .list [(.var 5)])])])),
 (.for_ .expr (.one 6) [(.idx (.var 1) (.cnst (Lt.str (Str.ofString "houses"))))] [
  (.asg (.one (.one 7)) (.meth (.var 0) 5 [(.var 6)])),
  (.asg (.one (.one 8)) (.meth (.var 0) 7 [(.var 6)])),
  (.ite (.all false [(.val (.cmp (.var 7) [.NotEq] [(.meth (.idx (.idx (.var 1) (.cnst (Lt.str (Str.ofString "houses")))) (.var 6)) 5 [])])),(.val (.cmp (.var 8) [.NotEq] [(.meth (.idx (.idx (.var 1) (.cnst (Lt.str (Str.ofString "houses")))) (.var 6)) 7 [])]))]) [
   (.ret (.cnst (Lt.bool false)))] []),
  (.exp (.smeth (.var 2) .append [(.tup [(.var 8),(.bi .list [(.var 8)])])])),
  (.for_ .range (.one 9) [(.cnst (Lt.int 3))] [
   (.ite (.all true [(.val (.cmp (.var 9) [.NotIn] [(.var 7)])),(.not (.val (.call 42 [(.var 0),(.var 6),(.var 9)])))]) [
    (.ret (.cnst (Lt.bool false)))] [])]),
  (.for_ .expr (.one 9) [(.var 7)] [
   (.ite (.val (.cmp (.meth (.var 0) 6 [(.var 6),(.var 9)]) [.NotEq] [(.meth (.idx (.idx (.var 1) (.cnst (Lt.str (Str.ofString "houses")))) (.var 6)) 6 [(.var 9)])])) [
    (.ret (.cnst (Lt.bool false)))] []),
   (.exp (.smeth (.meth (.var 0) 6 [(.var 6),(.var 9)]) .clear []))]),
  (.exp (.smeth (.var 7) .clear [])),
  (.exp (.smeth (.meth (.var 0) 7 [(.var 6)]) .clear []))]),
 (.ret (.cnst (Lt.bool true)))]
noncomputable def f_law:List CS:=[
 (.asg (.one (.one 1)) (.call 32 [(.var 0),(.cnst (Lt.int 0))])),
 (.asg (.one (.one 2)) (.call 37 [(.var 1)])),
 (.asg (.one (.one 3)) (.call 35 [(.call 32 [(.var 0),(.cnst (Lt.int 1))]),(.var 2),(.idx (.list [(.cnst (Lt.int 0)),(.cnst (Lt.int 1)),(.cnst (Lt.int 1)),(.cnst (Lt.int 2)),(.bin .Mod (.bin .FloorDiv (.var 1) (.cnst (Lt.int 70))) (.cnst (Lt.int 8)))]) (.bin .Mod (.bin .FloorDiv (.var 1) (.cnst (Lt.int 35))) (.cnst (Lt.int 5))))])),
 (.asg (.one (.one 4)) (.comp (.call 34 [(.bin .Mod (.call 32 [(.var 0),(.cnst (Lt.int 2))]) (.cnst (Lt.int 100003))),(.var 14)]) (.one 14) 1 .range [(.cnst (Lt.int 3))] [])),
 (.asg (.one (.one 5)) (.bi .list [(.var 3)])),
 (.asg (.one (.one 6)) (.new 11 [(.var 2),(.var 5)])),
 (.exp (.smeth (.var 5) .clear [])),
 (.asg (.one (.one 7)) (.dict [(Str.ofString "count"),(Str.ofString "liars"),(Str.ofString "letters"),(Str.ofString "said")] [(.var 2),(.var 3),(.list []),(.list [])])),
 (.asg (.idx (.var 7) (.cnst (Lt.str (Str.ofString "houses")))) (.bi .dict [(.comp (.tup [(.var 14),(.new 9 [(.var 2),(.var 14)])]) (.one 14) 1 .range [(.var 2)] [(.val (.cmp (.var 14) [.NotIn] [(.var 3)]))])])),
 (.asg (.one (.one 8)) (.list [])),
 (.asg (.one (.one 9)) (.new 11 [(.var 2),(.list [])])),
 (.exp (.meth (.var 9) 0 [(.cnst (Lt.int 0)),(.idx (.var 4) (.cnst (Lt.int 1)))])),
 (.asg (.one (.one 10)) (.list [(.meth (.var 9) 19 []),(.meth (.var 9) 25 []),(.meth (.var 9) 5 [(.cnst (Lt.int 0))])])),
 (.for_ .expr (.one 11) [(.slice (.var 0) (.cnst (Lt.int 3)) (.cnst (Lt.int 33)) (.cnst Lt.none))] [
  (.asg (.one (.many [12,13])) (.call 41 [(.var 6),(.var 7),(.bi .abs [(.var 11)]),(.var 4)])),
  (.ite (.all false [(.val (.cmp (.var 12) [.NotEq] [(.var 13)])),(.all true [(.val (.cmp (.var 13) [.IsNot] [(.cnst Lt.none)])),(.not (.val (.call 36 [(.var 12)])))])]) [
   (.ret (.cnst (Lt.bool false)))] []),
  (.ite (.val (.cmp (.var 13) [.IsNot] [(.cnst Lt.none)])) [
   (.exp (.smeth (.var 8) .append [(.tup [(.var 12),(.bi .list [(.var 12)])])]))] []),
  (.ite (.all true [(.val (.cmp (.bin .Mod (.bin .FloorDiv (.var 11) (.cnst (Lt.int 5))) (.cnst (Lt.int 2))) [.Eq] [(.cnst (Lt.int 1))])),(.not (.val (.call 43 [(.var 6),(.var 7)])))]) [
   (.ret (.cnst (Lt.bool false)))] []),
  (.ite (.not (.val (.call 44 [(.var 6),(.var 7),(.var 8)]))) [
   (.ret (.cnst (Lt.bool false)))] [])]),
 (.ite (.val (.cmp (.list [(.meth (.var 9) 19 []),(.meth (.var 9) 25 []),(.meth (.var 9) 5 [(.cnst (Lt.int 0))])]) [.NotEq] [(.var 10)])) [
  (.ret (.cnst (Lt.bool false)))] []),
 (.ret (.cmp (.comp (.var 14) (.one 14) 1 .expr [(.var 8)] [(.val (.cmp (.idx (.var 14) (.cnst (Lt.int 0))) [.NotEq] [(.idx (.var 14) (.cnst (Lt.int 1)))]))]) [.Eq] [(.list [])]))]
noncomputable def sig:Sig:={
 fns:=[
  { name:=(Str.ofString "is_whole"),np:=1,names:=[(Str.ofString "thing")],body:=bL9 },
  { name:=(Str.ofString "need_count"),np:=1,names:=[(Str.ofString "count")],body:=aX1 },
  { name:=(Str.ofString "most_liars"),np:=1,names:=[(Str.ofString "count")],body:=aX2 },
  { name:=(Str.ofString "enough"),np:=1,names:=[(Str.ofString "count")],body:=cK6 },
  { name:=(Str.ofString "is_row"),np:=1,names:=[(Str.ofString "thing"),(Str.ofString "sign")],body:=cK5 },
  { name:=(Str.ofString "caller"),np:=2,names:=[(Str.ofString "count"),(Str.ofString "number")],body:=cK7 },
  { name:=(Str.ofString "is_word"),np:=2,names:=[(Str.ofString "count"),(Str.ofString "thing")],body:=bY6 },
  { name:=(Str.ofString "are_unlike"),np:=2,names:=[(Str.ofString "one"),(Str.ofString "other")],body:=aX7 },
  { name:=(Str.ofString "__init__"),np:=3,names:=[(Str.ofString "self"),(Str.ofString "count"),(Str.ofString "own")],body:=aX4 },
  { name:=(Str.ofString "call"),np:=2,names:=[(Str.ofString "self"),(Str.ofString "row"),(Str.ofString "word")],body:=aX6 },
  { name:=(Str.ofString "hear"),np:=2,names:=[(Str.ofString "self"),(Str.ofString "word"),(Str.ofString "ahead")],body:=aX5 },
  { name:=(Str.ofString "marking"),np:=2,names:=[(Str.ofString "self"),(Str.ofString "word"),(Str.ofString "mark")],body:=aK4 },
  { name:=(Str.ofString "writing"),np:=3,names:=[(Str.ofString "self"),(Str.ofString "number"),(Str.ofString "row"),(Str.ofString "marks")],body:=aK3 },
  { name:=(Str.ofString "naming"),np:=3,names:=[(Str.ofString "self"),(Str.ofString "word"),(Str.ofString "ahead")],body:=aM7 },
  { name:=(Str.ofString "ledger"),np:=1,names:=[(Str.ofString "self"),(Str.ofString "found"),(Str.ofString "number")],body:=aM8 },
  { name:=(Str.ofString "backing"),np:=2,names:=[(Str.ofString "self"),(Str.ofString "number")],body:=aK5 },
  { name:=(Str.ofString "caught"),np:=1,names:=[(Str.ofString "self")],body:=aM9 },
  { name:=(Str.ofString "__init__"),np:=1,names:=[(Str.ofString "self")],body:=bC5 },
  { name:=(Str.ofString "send"),np:=2,names:=[(Str.ofString "self"),(Str.ofString "letter"),(Str.ofString "number")],body:=bC4 },
  { name:=(Str.ofString "bring"),np:=2,names:=[(Str.ofString "self"),(Str.ofString "number")],body:=aX0 },
  { name:=(Str.ofString "waiting"),np:=1,names:=[(Str.ofString "self")],body:=aM6 },
  { name:=(Str.ofString "__init__"),np:=3,names:=[(Str.ofString "self"),(Str.ofString "count"),(Str.ofString "liars"),(Str.ofString "told"),(Str.ofString "house")],body:=bC2 },
  { name:=(Str.ofString "honest"),np:=2,names:=[(Str.ofString "self"),(Str.ofString "house")],body:=aS9 },
  { name:=(Str.ofString "tell"),np:=3,names:=[(Str.ofString "self"),(Str.ofString "house"),(Str.ofString "words"),(Str.ofString "word"),(Str.ofString "other")],body:=bC1 },
  { name:=(Str.ofString "call"),np:=3,names:=[(Str.ofString "self"),(Str.ofString "house"),(Str.ofString "row"),(Str.ofString "words")],body:=bC3 },
  { name:=(Str.ofString "bring"),np:=2,names:=[(Str.ofString "self"),(Str.ofString "number"),(Str.ofString "letter")],body:=aW9 },
  { name:=(Str.ofString "lie"),np:=4,names:=[(Str.ofString "self"),(Str.ofString "house"),(Str.ofString "receiver"),(Str.ofString "word")],body:=bL6 },
  { name:=(Str.ofString "waiting"),np:=1,names:=[(Str.ofString "self")],body:=aM4 },
  { name:=(Str.ofString "spoken"),np:=1,names:=[(Str.ofString "self")],body:=aS7 },
  { name:=(Str.ofString "ledger"),np:=2,names:=[(Str.ofString "self"),(Str.ofString "house")],body:=aS8 },
  { name:=(Str.ofString "backing"),np:=3,names:=[(Str.ofString "self"),(Str.ofString "house"),(Str.ofString "number")],body:=aM5 },
  { name:=(Str.ofString "caught"),np:=2,names:=[(Str.ofString "self"),(Str.ofString "house")],body:=aT0 },
  { name:=(Str.ofString "_law_at"),np:=2,names:=[(Str.ofString "_law_script"),(Str.ofString "_law_k")],body:=cK4 },
  { name:=(Str.ofString "_law_whole"),np:=1,names:=[(Str.ofString "_law_thing")],body:=bC7 },
  { name:=(Str.ofString "_law_row"),np:=2,names:=[(Str.ofString "_law_base"),(Str.ofString "_law_k"),(Str.ofString "_law_letters"),(Str.ofString "_law_turned_here"),(Str.ofString "_law_size"),(Str.ofString "_law_tail"),(Str.ofString "_law_at_here")],body:=bY5 },
  { name:=(Str.ofString "_law_liars"),np:=3,names:=[(Str.ofString "_law_cell"),(Str.ofString "_law_count_here"),(Str.ofString "_law_many"),(Str.ofString "_law_left"),(Str.ofString "_law_found")],body:=bC8 },
  { name:=(Str.ofString "_law_words"),np:=1,names:=[(Str.ofString "_law_found"),(Str.ofString "_law_word")],body:=bC6 },
  { name:=(Str.ofString "_law_count"),np:=1,names:=[(Str.ofString "_law_cell")],body:=bC9 },
  { name:=(Str.ofString "_law_sent"),np:=3,names:=[(Str.ofString "_law_world"),(Str.ofString "_law_house"),(Str.ofString "_law_words_here"),(Str.ofString "_law_word"),(Str.ofString "_law_receiver")],body:=bL7 },
  { name:=(Str.ofString "_law_brought"),np:=3,names:=[(Str.ofString "_law_town"),(Str.ofString "_law_world"),(Str.ofString "_law_cell"),(Str.ofString "_law_there"),(Str.ofString "_law_number"),(Str.ofString "_law_sender"),(Str.ofString "_law_receiver"),(Str.ofString "_law_word"),(Str.ofString "_law_due")],body:=aT1 },
  { name:=(Str.ofString "_law_lied"),np:=4,names:=[(Str.ofString "_law_town"),(Str.ofString "_law_world"),(Str.ofString "_law_cell"),(Str.ofString "_law_rows"),(Str.ofString "_law_liar"),(Str.ofString "_law_receiver"),(Str.ofString "_law_number"),(Str.ofString "_law_word"),(Str.ofString "_law_found")],body:=f_law_lied },
  { name:=(Str.ofString "_law_deed"),np:=4,names:=[(Str.ofString "_law_town"),(Str.ofString "_law_world"),(Str.ofString "_law_cell"),(Str.ofString "_law_rows"),(Str.ofString "_law_honest"),(Str.ofString "_law_house"),(Str.ofString "_law_row_here"),(Str.ofString "_law_due")],body:=f_law_deed },
  { name:=(Str.ofString "_law_unwritten"),np:=3,names:=[(Str.ofString "_law_town"),(Str.ofString "_law_house"),(Str.ofString "_law_number")],body:=aK2 },
  { name:=(Str.ofString "_law_turned"),np:=2,names:=[(Str.ofString "_law_town"),(Str.ofString "_law_world"),(Str.ofString "_law_house"),(Str.ofString "_law_own"),(Str.ofString "_law_number")],body:=aX3 },
  { name:=(Str.ofString "_law_good"),np:=3,names:=[(Str.ofString "_law_town"),(Str.ofString "_law_world"),(Str.ofString "_law_held"),(Str.ofString "_law_waiting"),(Str.ofString "_law_letters"),(Str.ofString "_law_spoken"),(Str.ofString "_law_house"),(Str.ofString "_law_rows"),(Str.ofString "_law_names"),(Str.ofString "_law_number")],body:=bL8 },
  { name:=(Str.ofString "law"),np:=1,names:=[(Str.ofString "_law_script"),(Str.ofString "_law_first"),(Str.ofString "_law_count_here"),(Str.ofString "_law_liars_here"),(Str.ofString "_law_rows"),(Str.ofString "_law_handed"),(Str.ofString "_law_town"),(Str.ofString "_law_world"),(Str.ofString "_law_held"),(Str.ofString "_law_beside"),(Str.ofString "_law_left"),(Str.ofString "_law_cell"),(Str.ofString "_law_found"),(Str.ofString "_law_due")],body:=f_law }],
 cls:=[
  { name:=(Str.ofString "ValueError"),init:=none,meths:=[],exc:=false,supers:=[0] },
  { name:=(Str.ofString "HouseError"),init:=none,meths:=[],exc:=true,supers:=[1,0] },
  { name:=(Str.ofString "BadCount"),init:=none,meths:=[],exc:=true,supers:=[2,1,0] },
  { name:=(Str.ofString "BadHouse"),init:=none,meths:=[],exc:=true,supers:=[3,1,0] },
  { name:=(Str.ofString "BadRow"),init:=none,meths:=[],exc:=true,supers:=[4,1,0] },
  { name:=(Str.ofString "BadWord"),init:=none,meths:=[],exc:=true,supers:=[5,1,0] },
  { name:=(Str.ofString "Forged"),init:=none,meths:=[],exc:=true,supers:=[6,1,0] },
  { name:=(Str.ofString "NoLetter"),init:=none,meths:=[],exc:=true,supers:=[7,1,0] },
  { name:=(Str.ofString "NotWritten"),init:=none,meths:=[],exc:=true,supers:=[8,1,0] },
  { name:=(Str.ofString "House"),init:=some 8,meths:=[(0,9),(1,10),(2,11),(3,12),(4,13),(5,14),(6,15),(7,16)],exc:=false,supers:=[9] },
  { name:=(Str.ofString "Post"),init:=some 17,meths:=[(17,18),(18,19),(19,20)],exc:=false,supers:=[10] },
  { name:=(Str.ofString "Town"),init:=some 21,meths:=[(22,22),(23,23),(0,24),(18,25),(24,26),(19,27),(25,28),(5,29),(6,30),(7,31)],exc:=false,supers:=[11] }],
 attrs:=[(Str.ofString "call"),(Str.ofString "hear"),(Str.ofString "marking"),(Str.ofString "writing"),(Str.ofString "naming"),(Str.ofString "ledger"),(Str.ofString "backing"),(Str.ofString "caught"),(Str.ofString "count"),(Str.ofString "own"),(Str.ofString "onward"),(Str.ofString "known"),(Str.ofString "marked"),(Str.ofString "rows"),(Str.ofString "backings"),(Str.ofString "named"),(Str.ofString "blames"),(Str.ofString "send"),(Str.ofString "bring"),(Str.ofString "waiting"),(Str.ofString "given"),(Str.ofString "letters"),(Str.ofString "honest"),(Str.ofString "tell"),(Str.ofString "lie"),(Str.ofString "spoken"),(Str.ofString "houses"),(Str.ofString "post"),(Str.ofString "said")],
 globs:=[((Str.ofString "MOST_HOUSES"),(Lt.int 12)),((Str.ofString "LETTERS"),(Lt.str (Str.ofString "abcdefghijklmnopqrstuvwxyz"))),((Str.ofString "MOST_SIGNS"),(Lt.int 8)),((Str.ofString "MOST_NUMBER"),(Lt.int 9999))] }
end C09
namespace Mini.Internal
open PySem
noncomputable def Bo(m:MH)(T:Td):List (Nat×MObj):=(List.range m.length).filterMap λa=>if a∈T.all then none else m[a]?.map λo=>(a,o)
theorem dM5(h:a∉T.all)(k:m[a]?=some o):(a,o)∈Bo m T:=
 List.mem_filterMap.mpr ⟨a,List.mem_range.mpr (aS k),by rw[if_neg h,k];rfl⟩
theorem dM6(h:x∈Bo m T):x.1∉T.all /\ m[x.1]?=some x.2:=by
 refine e1a2 (List.mem_filterMap.mp h) λa y_ e=>?_;by_cases z:a∈T.all
 ·rw[if_pos z]at e;injection e
 ·rw[if_neg z]at e
  refine e1a2 (Option.map_eq_some_iff.mp e) λo e1 e2=>?_;rw[<- e2];exact⟨z,e1⟩
theorem To.full{N:HN}(h:To m N T t):Tw m N T.p t (Bo m T):=⟨T,rfl,h,λy_ hx=>dM6 hx⟩
structure Sp where
 T:Td
 U:Td
 ds:List Hd
 col:Nat->Nat
structure S9(m:MH)(N:HN)(P:Sp)(t:Tn)(u:Option Tn)(hs:List Hs)(B:List (Nat×MObj)):Prop where
 to:To m N P.T t
 tu:∀x,u=some x->To m N P.U x
 ho:∀(i:Nat) (D:Hd),P.ds[i]?=some D->∃s,hs[i]?=some s /\ Ho m N.C D s
 len:P.ds.length=hs.length
 c0:∀x∈P.T.all,P.col x=0
 c1:∀y,u=some y->∀x∈P.U.all,P.col x=1
 c3:∀(i:Nat) (D:Hd),P.ds[i]?=some D->∀x∈D.all,P.col x=i+3
 cB:∀x∈B,P.col x.1=2 /\ m[x.1]?=some x.2
 nd:(B.map (·.1)).Nodup
noncomputable def colL(m:MH)(col:Nat->Nat)(c:Nat):List Nat:=(List.range m.length).filter λx=>col x == c
theorem aR4{x:Nat}(h:col x≠c):x∉colL m col c:=λq=>h (eq_of_beq (List.mem_filter.mp q).2)
noncomputable def cN8(m:MH)(col:Nat->Nat)(q c:Nat):Nat->Nat:=λx=>if x < m.length then col x else if x=q then 2 else c
theorem bA{x:Nat}(h:x < m.length):cN8 m col q c x=col x:=if_pos h
theorem bV4(h:m.length <= q):cN8 m col q c q=2:=(if_neg (Nat.not_lt.mpr h)).trans (if_pos rfl)
theorem aG7{x:Nat}(h:m.length <= x)(hq:x≠q):cN8 m col q c x=c:=(if_neg (Nat.not_lt.mpr h)).trans (if_neg hq)
section
variable{N:HN}{P:Sp}
theorem S9.frame(h:S9 m N P t u hs B)(M:Mod (colL m P.col c) m m'):(c≠0->To m' N P.T t) /\ (c≠1->∀x,u=some x->To m' N P.U x) /\ (∀(i:Nat) (D:Hd),P.ds[i]?=some D->i+3≠c->∃s,hs[i]?=some s /\ Ho m' N.C D s) /\ (c≠2->∀x∈B,m'[x.1]?=some x.2):=by
 refine⟨λn=>h.to.mod M λx hx=>aR4 λe=>n (e.symm.trans (h.c0 x hx)),λn y hy=>(h.tu y hy).mod M λx hx=>aR4 λe=>n (e.symm.trans (h.c1 y hy x hx)),λi D hi n=>?_,λn x hx=>M.has (h.cB x hx).2 (aR4 λe=>n (e.symm.trans (h.cB x hx).1))⟩;refine e1a2 (h.ho i D hi) λs e k=>?_;exact⟨s,e,k.mod M λx hx=>aR4 λe=>n ((h.c3 i D hi x hx).symm.trans e)⟩
theorem S9.ltH(h:S9 m N P t u hs B){i:Nat}{D:Hd}(hi:P.ds[i]?=some D):∀x∈D.all,x < m.length:=by
 refine e1a2 (h.ho i D hi) λs y_ k=>?_;exact k.lt
theorem S9.ndq(h:S9 m N P t u hs B)(g:m.length <= q)(o:MObj):(((q,o)::B).map (·.1)).Nodup:=
 List.nodup_cons.mpr ⟨λc=>by
  refine e1a2 (List.mem_map.mp c) λx hx e=>?_;have e:x.1=q:=e;exact Nat.not_lt.mpr g (e▸aS (h.cB x hx).2),h.nd⟩
theorem S9.up(h:S9 m N P t u hs B)(l:Le m m'):S9 m' N P t u hs B:=
 ⟨h.to.up l,λy hy=>(h.tu y hy).up l,λi D e=>(h.ho i D e).imp λy_ k=>⟨k.1,k.2.le l⟩,h.len,h.c0,h.c1,h.c3,λx hx=>⟨(h.cB x hx).1,l.has (h.cB x hx).2⟩,h.nd⟩
theorem S9.new(h:S9 m N P t u hs B)(l:Le m m')(k:m'[q]?=some o)(g:m.length <= q):S9 m' N { P with col:=cN8 m P.col q 2 } t u hs ((q,o)::B):=
 ⟨h.to.up l,λy hy=>(h.tu y hy).up l,λi D e=>(h.ho i D e).imp λy_ k=>⟨k.1,k.2.le l⟩,h.len,λx hx=>(bA (h.to.lt x hx)).trans (h.c0 x hx),λy hy x hx=>(bA ((h.tu y hy).lt x hx)).trans (h.c1 y hy x hx),λi D e x hx=>(bA (h.ltH e x hx)).trans (h.c3 i D e x hx),
  b9 ⟨bV4 g,k⟩ λx hx=>⟨(bA (aS (h.cB x hx).2)).trans (h.cB x hx).1,l.has (h.cB x hx).2⟩,h.ndq g o⟩
theorem S9.set(h:S9 m N P t u hs ((q,o)::B))(o':MObj):S9 (m.set q o') N P t u hs ((q,o')::B):=by
 have cq:=h.cB _ (.head _);have nd:=List.nodup_cons.mp h.nd;have M:Mod (colL m P.col 2) m (m.set q o'):=Mod.set (List.mem_filter.mpr ⟨List.mem_range.mpr (aS cq.2),beq_iff_eq.mpr cq.1⟩);have F:=h.frame M;exact⟨F.1 (by decide),F.2.1 (by decide),λi D e=>F.2.2.1 i D e (λz=>by lia),h.len,h.c0,h.c1,h.c3,b9 ⟨cq.1,aZ cq.2⟩ λx hx=>⟨(h.cB x (.tail _ hx)).1,aQ (λz=>nd.1 (List.mem_map.mpr ⟨x,hx,z.symm⟩)) (h.cB x (.tail _ hx)).2⟩,h.nd⟩
theorem S9.add(h:S9 m N P t u hs B)(k:m[q]?=some o)(e:P.col q=2)(n:∀x∈B,x.1≠q):S9 m N P t u hs ((q,o)::B):=
 ⟨h.to,h.tu,h.ho,h.len,h.c0,h.c1,h.c3,b9 ⟨e,k⟩ h.cB,List.nodup_cons.mpr ⟨λc=>by
  refine e1a2 (List.mem_map.mp c) λx hx e=>?_;exact n x hx e,h.nd⟩⟩
theorem S9.town{T':Td}{t':Tn}(h:S9 m N P t u hs B)(k:To m' N T' t')(hB:∀x∈Bo m P.T,x.1∉T'.all /\ m'[x.1]?=some x.2)(le:m.length <= m'.length)(hq:q∉T'.all):S9 m' N { P with T:=T',col:=cN8 m P.col q 0 } t' u hs B:=by
 have out:∀a,a < m.length->P.col a≠0->a∉T'.all /\ m'[a]?=m[a]?:=λa ha hc=>by
  obtain⟨o,e⟩:∃o,m[a]?=some o:=⟨_,List.getElem?_eq_getElem ha⟩
  have:=hB _ (dM5 (λz=>hc (h.c0 a z)) e);exact⟨this.1,this.2.trans e.symm⟩
 have M:Mod (colL m P.col 0) m m':=⟨le,λp hp hn=>(out p hp λz=>hn (List.mem_filter.mpr ⟨List.mem_range.mpr hp,beq_iff_eq.mpr z⟩)).2⟩
 have F:=h.frame M;refine⟨k,F.2.1 (by decide),λi D e=>F.2.2.1 i D e (Nat.succ_ne_zero _),h.len,λx hx=>?_,λy hy x hx=>(bA ((h.tu y hy).lt x hx)).trans (h.c1 y hy x hx),λi D e x hx=>(bA (h.ltH e x hx)).trans (h.c3 i D e x hx),
  λx hx=>⟨(bA (aS (h.cB x hx).2)).trans (h.cB x hx).1,F.2.2.2 (by decide) x hx⟩,h.nd⟩
 rcases Nat.lt_or_ge x m.length with z | z
 ·refine(bA z).trans ?_
  by_cases y:P.col x=0
  ·exact y
  ·exact absurd hx (out x z y).1
 ·exact aG7 z λe=>hq (e▸hx)
theorem S9.house{s':Hs}{l:List Nat}(h:S9 m N P t u hs B)(hi:P.ds[i]?=some D)(H:Ho m' N.C (D.ext l) s')(M:Mod D.foot m m')(hl:∀y∈l,m.length <= y)(hq:q∉(D.ext l).all):S9 m' N { P with ds:=P.ds.set i (D.ext l),col:=cN8 m P.col q (i+3) } t u (hs.set i s') B:=by
 have hD:=h.ltH hi;have cD:=h.c3 i D hi;have lt:=(List.getElem?_eq_some_iff.mp hi).1;have F:=h.frame (c:=i+3) (M.mono λx hx=>List.mem_filter.mpr ⟨List.mem_range.mpr (hD x (List.mem_append_left _ hx)),beq_iff_eq.mpr (cD x (List.mem_append_left _ hx))⟩);have get:∀(j:Nat) (D':Hd),(P.ds.set i (D.ext l))[j]?=some D'->(j=i /\ D'=D.ext l) \/ (j≠i /\ P.ds[j]?=some D'):=λj D' e=>by
  by_cases q:i=j
  ·subst q
   rw[List.getElem?_set_self lt]at e;exact .inl ⟨rfl,(Option.some.inj e).symm⟩
  ·rw[List.getElem?_set_ne q]at e
   exact .inr ⟨λc=>q c.symm,e⟩
 refine⟨F.1 (Nat.succ_ne_zero _),F.2.1 (λz=>by lia),λj D' e=>?_,?_,λx hx=>(bA (h.to.lt x hx)).trans (h.c0 x hx),λy hy x hx=>(bA ((h.tu y hy).lt x hx)).trans (h.c1 y hy x hx),λj D' e x hx=>?_,
  λx hx=>⟨(bA (aS (h.cB x hx).2)).trans (h.cB x hx).1,F.2.2.2 (λz=>by lia) x hx⟩,h.nd⟩
 ·rcases get j D' e with⟨rfl,rfl⟩ | ⟨hj,e⟩
  ·exact⟨s',List.getElem?_set_self (by rw[<- h.len];exact lt),H⟩
  ·refine e1a2 (F.2.2.1 j D' e (λz=>hj (Nat.add_right_cancel z))) λs1 k1 k2=>?_
   exact⟨s1,by rw[List.getElem?_set_ne λc=>hj c.symm];exact k1,k2⟩
 ·rw[List.length_set,List.length_set];exact h.len
 ·rcases get j D' e with⟨rfl,rfl⟩ | ⟨hj,e⟩
  ·rcases Nat.lt_or_ge x m.length with z | z
   ·refine(bA z).trans ?_
    rcases List.mem_append.mp hx with hx | hx
    ·exact cD x (List.mem_append_left _ hx)
    ·rcases List.mem_append.mp hx with hx | hx
     ·exact cD x (List.mem_append_right _ hx)
     ·exact absurd z (Nat.not_lt.mpr (hl x hx))
   ·exact aG7 z λe=>hq (e▸hx)
  ·exact(bA (h.ltH e x hx)).trans (h.c3 j D' e x hx)
theorem S9.swap{u:Tn}(h:S9 m N P t (some u) hs B):S9 m N { P with T:=P.U,U:=P.T,col:=λx=>if P.col x=0 then 1 else if P.col x=1 then 0 else P.col x } u (some t) hs B:=
 ⟨h.tu u rfl,λy hy=>Option.some.inj hy▸h.to,h.ho,h.len,λx hx=>by show(if _ then _ else _)=0;rw[h.c1 u rfl x hx];rfl,λy_ y_ x hx=>by show(if _ then _ else _)=1;rw[h.c0 x hx];rfl,
  λi D e x hx=>by show(if _ then _ else _)=_;rw[h.c3 i D e x hx];rw[if_neg (Nat.succ_ne_zero _),if_neg (λz=>by lia)],λx hx=>⟨by show(if _ then _ else _)=_;rw[(h.cB x hx).1];rfl,(h.cB x hx).2⟩,h.nd⟩
theorem S9.addH(h:S9 m N P t u hs B)(l:Le m m')(H:Ho m' N.C D s)(hD:∀y∈D.all,m.length <= y):S9 m' N { P with ds:=P.ds++[D],col:=cN8 m P.col m'.length (P.ds.length+3) } t u (hs++[s]) B:=by
 have get:∀(j:Nat) (D':Hd),(P.ds++[D])[j]?=some D'->(j < P.ds.length /\ P.ds[j]?=some D') \/ (j=P.ds.length /\ D'=D):=λj D' e=>by
  rcases Nat.lt_or_ge j P.ds.length with z | z
  ·exact .inl ⟨z,by rw[List.getElem?_append_left z]at e;exact e⟩
  ·rw[List.getElem?_append_right z]at e
   cases q:j - P.ds.length with
   |zero=>rw[q]at e;exact .inr ⟨by lia,(Option.some.inj e).symm⟩
   |succ n=>rw[q]at e;injection e
 refine⟨h.to.up l,λy hy=>(h.tu y hy).up l,λj D' e=>?_,by rw[List.length_append,List.length_append,h.len];rfl,λx hx=>(bA (h.to.lt x hx)).trans (h.c0 x hx),λy hy x hx=>(bA ((h.tu y hy).lt x hx)).trans (h.c1 y hy x hx),λj D' e x hx=>?_,λx hx=>⟨(bA (aS (h.cB x hx).2)).trans (h.cB x hx).1,l.has (h.cB x hx).2⟩,h.nd⟩
 ·rcases get j D' e with⟨z,e⟩ | ⟨z,e⟩
  ·refine e1a2 (h.ho j D' e) λs1 k1 k2=>?_
   exact⟨s1,by rw[List.getElem?_append_left (by rw[<- h.len];exact z)];exact k1,k2.le l⟩
  ·subst e z
   exact⟨s,by rw[h.len,List.getElem?_append_right (Nat.le_refl _),Nat.sub_self];rfl,H⟩
 ·rcases get j D' e with⟨z,e⟩ | ⟨z,e⟩
  ·exact(bA (h.ltH e x hx)).trans (h.c3 j D' e x hx)
  ·subst e z
   exact aG7 (hD x hx) (Nat.ne_of_lt (H.lt x hx))
theorem S9.addT{U:Td}(h:S9 m N P t none hs B)(l:Le m m')(H:To m' N U y)(hU:∀x∈U.all,m.length <= x):S9 m' N { P with U:=U,col:=cN8 m P.col m'.length 1 } t (some y) hs B:=
 ⟨h.to.up l,λz hz=>Option.some.inj hz▸H,λi D e=>(h.ho i D e).imp λy_ k=>⟨k.1,k.2.le l⟩,h.len,λx hx=>(bA (h.to.lt x hx)).trans (h.c0 x hx),λy_ y_ x hx=>aG7 (hU x hx) (Nat.ne_of_lt (H.lt x hx)),λi D e x hx=>(bA (h.ltH e x hx)).trans (h.c3 i D e x hx),
  λx hx=>⟨(bA (aS (h.cB x hx).2)).trans (h.cB x hx).1,l.has (h.cB x hx).2⟩,h.nd⟩
end
noncomputable def Sx(m:MH)(N:HN)(p v:Nat)(ps:List Nat)(t:Tn)(u:Option Tn)(hs:List Hs)(B:List (Nat×MObj)):Prop:=∃P:Sp,P.T.p=p /\ P.U.p=v /\ P.ds.map (·.p)=ps /\ S9 m N P t u hs B
section
variable{N:HN}{v:Nat}
theorem Sx.of{P:Sp}(h:S9 m N P t u hs B)(h1:P.T.p=p)(h2:P.U.p=v)(h3:P.ds.map (·.p)=ps):Sx m N p v ps t u hs B:=⟨P,h1,h2,h3,h⟩
theorem Sx.up(h:Sx m N p v ps t u hs B)(l:Le m m'):Sx m' N p v ps t u hs B:=h.imp λy_ k=>⟨k.1,k.2.1,k.2.2.1,k.2.2.2.up l⟩
theorem Sx.new(h:Sx m N p v ps t u hs B)(l:Le m m')(k:m'[q]?=some o)(g:m.length <= q):Sx m' N p v ps t u hs ((q,o)::B):=by
 refine e1a4 h λP h1 h2 h3 h4=>?_;exact .of (h4.new l k g) h1 h2 h3
theorem Sx.set(h:Sx m N p v ps t u hs ((q,o)::B))(o':MObj):Sx (m.set q o') N p v ps t u hs ((q,o')::B):=h.imp λy_ k=>⟨k.1,k.2.1,k.2.2.1,k.2.2.2.set o'⟩
theorem Sx.has(h:Sx m N p v ps t u hs B)(k:(q,o)∈B):m[q]?=some o:=by
 refine e1a4 h λP h1 h2 h3 h4=>?_;exact(h4.cB _ k).2
theorem Sx.swap{u:Tn}(h:Sx m N p v ps t (some u) hs B):Sx m N v p ps u (some t) hs B:=by
 refine e1a4 h λP h1 h2 h3 h4=>?_;exact .of h4.swap h2 h1 h3
theorem Sx.tail(h:Sx m N p v ps t u hs (x::B)):Sx m N p v ps t u hs B:=h.imp λy_ k=>⟨k.1,k.2.1,k.2.2.1,k.2.2.2.to,k.2.2.2.tu,k.2.2.2.ho,k.2.2.2.len,k.2.2.2.c0,k.2.2.2.c1,k.2.2.2.c3,λy hy=>k.2.2.2.cB y (.tail _ hy),(List.nodup_cons.mp k.2.2.2.nd).2⟩
theorem Sx.sub(h:Sx m N p v ps t u hs B)(e:B'.Sublist B):Sx m N p v ps t u hs B':=h.imp λy_ k=>⟨k.1,k.2.1,k.2.2.1,k.2.2.2.to,k.2.2.2.tu,k.2.2.2.ho,k.2.2.2.len,k.2.2.2.c0,k.2.2.2.c1,k.2.2.2.c3,λy hy=>k.2.2.2.cB y (e.subset hy),k.2.2.2.nd.sublist (e.map _)⟩
theorem Sx.perm(h:Sx m N p v ps t u hs B)(e:B'.Perm B):Sx m N p v ps t u hs B':=h.imp λy_ k=>⟨k.1,k.2.1,k.2.2.1,k.2.2.2.to,k.2.2.2.tu,k.2.2.2.ho,k.2.2.2.len,k.2.2.2.c0,k.2.2.2.c1,k.2.2.2.c3,λy hy=>k.2.2.2.cB y (e.mem_iff.mp hy),(e.map _).nodup_iff.mpr k.2.2.2.nd⟩
theorem Sx.town{x:Mn V}{t':Tn}(h:Sx m N p v ps t u hs B)(w:∀B,Tw m N p t B->Wp x m (λu m'=>∃q,u=.ref q /\ Tw m' N p t' ((q,o)::B) /\ m.length <= q) nox)(k:∀q m',Sx m' N p v ps t' u hs ((q,o)::B)->m.length <= q->Q (.ref q) m'):Wp x m Q E:=by
 refine e1a4 h λP h1 h2 h3 h4=>?_;subst h1;refine bF (w _ h4.to.full) λa m' z=>?_;obtain⟨q,e,⟨T',h5,h6,h7⟩,g⟩:=z;subst e;have kq:=h7 _ (.head _);exact k q m' (.of ((h4.town h6 (λx hx=>h7 x (.tail _ hx)) (Nat.le_trans g (Nat.le_of_lt (aS kq.2))) kq.1).add kq.2 (bV4 g) λy hy (e:y.1=q)=>Nat.not_lt.mpr g (e▸aS (h4.cB y hy).2)) h5 h2 h3) g
theorem Sx.town0{x:Mn V}{t':Tn}{a:V}(h:Sx m N p v ps t u hs B)(w:∀B,Tw m N p t B->Wp x m (λu m'=>u=a /\ Tw m' N p t' B /\ m.length <= m'.length) nox)(k:∀m',Sx m' N p v ps t' u hs B->Q a m'):Wp x m Q E:=by
 refine e1a4 h λP h1 h2 h3 h4=>?_;subst h1;refine bF (w _ h4.to.full) λb m' z=>?_;obtain⟨e,⟨T',h5,h6,h7⟩,g⟩:=z;rw[e];exact k m' (.of (h4.town h6 h7 g (h6.out (Nat.le_refl _))) h5 h2 h3)
theorem Sx.ask{x:Mn V}(h:Sx m N p v ps t u hs B)(w:∀B,Tw m N p t B->Wp x m (λu m'=>∃q,u=.ref q /\ Tw m' N p t ((q,o)::B) /\ Le m m' /\ m.length <= q) nox)(k:∀q m',Sx m' N p v ps t u hs ((q,o)::B)->Le m m'->m.length <= q->Q (.ref q) m'):Wp x m Q E:=by
 refine e1a4 (id h) λP h1 h2 h3 h4=>?_;subst h1;refine bF (w _ h4.to.full) λa m' z=>?_;refine e1a4 z λq e H l g=>?_;subst e;exact k q m' (h.new l (H.has (.head _)) g) l g
theorem Sx.at(h:Sx m N p v ps t u hs B){i:Nat}{s:Hs}(hi:hs[i]?=some s):∃D,ps[i]?=some D.p /\ Ho m N.C D s:=by
 refine e1a4 h λP h1 h2 h3 h4=>?_;have lt:i < P.ds.length:=by rw[h4.len];exact(List.getElem?_eq_some_iff.mp hi).1
 refine e1a2 (h4.ho i _ (List.getElem?_eq_getElem lt)) λs' e1 e2=>?_;rw[hi]at e1
 (refine aF e1 λz1=>?_;clear e1;rw[z1])
 exact⟨_,by rw[<- h3,List.getElem?_map,List.getElem?_eq_getElem lt];rfl,e2⟩
theorem Sx.tells{x:Hs×List Wo}{f:Mn V}(h:Sx m N p v ps t u hs B)(hi:hs[i]?=some s)(w:∀D,ps[i]?=some D.p->Ho m N.C D s->Wp f m (Tells m N.C D x) nox)(k:∀q m',Sx m' N p v ps t u (hs.set i x.1) ((q,.list (x.2.map Wo.v))::B)->m.length <= q->Q (.ref q) m'):Wp f m Q E:=by
 refine e1a4 h λP h1 h2 h3 h4=>?_;have lt:i < P.ds.length:=by rw[h4.len];exact(List.getElem?_eq_some_iff.mp hi).1
 have hD:=List.getElem?_eq_getElem lt;refine e1a2 (h4.ho i _ hD) λs' e1 e2=>?_;rw[hi]at e1
 (refine aF e1 λz1=>?_;clear e1;subst z1)
 refine dC (w _ (by rw[<- h3,List.getElem?_map,hD];rfl) e2) λm' q l kq g o H M hl=>?_;refine k q m' (.of ((h4.house hD H M hl o).add kq (bV4 g) λy hy (e:y.1=q)=>Nat.not_lt.mpr g (e▸aS (h4.cB y hy).2)) h1 h2 ?_) g;rw[List.map_set,<- h3];exact aC2 (by rw[List.getElem?_map,hD];rfl)
theorem Sx.addH(h:Sx m N p v ps t u hs B)(l:Le m m')(H:Ho m' N.C D s)(hD:∀y∈D.all,m.length <= y):Sx m' N p v (ps++[D.p]) t u (hs++[s]) B:=by
 refine e1a4 h λP h1 h2 h3 h4=>?_;exact .of (h4.addH l H hD) h1 h2 (by show(P.ds++[D]).map (·.p)=_;rw[List.map_append,h3];rfl)
noncomputable def allB(m:MH):List (Nat×MObj):=(List.range m.length).map λa=>(a,m[a]?.getD (.list []))
theorem bJ3:∀x∈allB m,m[x.1]?=some x.2:=λx hx=>by
 refine e1a2 (List.mem_map.mp hx) λa ha z71=>?_;rw[<- z71];rw[List.getElem?_eq_getElem (List.mem_range.mp ha)];rfl
theorem Sx.addT(h:Sx m N p v ps t none hs B)(H:Tw m' N w y (allB m)):Sx m' N p w ps t (some y) hs B /\ Le m m':=by
 refine e1a4 h λP h1 h2 h3 h4=>?_;refine e1a3 H λU e k hB=>?_;have get:∀a,a < m.length->a∉U.all /\ m'[a]?=m[a]?:=λa ha=>by
  have hx:(a,m[a]?.getD (.list []))∈allB m:=List.mem_map.mpr ⟨a,List.mem_range.mpr ha,rfl⟩;exact⟨(hB _ hx).1,(hB _ hx).2.trans (bJ3 _ hx).symm⟩
 have le:m.length <= m'.length:=Nat.not_lt.mp λc=>by
  have:=(get m'.length c).2;rw[List.getElem?_eq_none (Nat.le_refl _),List.getElem?_eq_getElem c]at this;exact absurd this (by simp)
 have l:Le m m':=⟨le,λa ha=>(get a ha).2⟩
 exact⟨.of (h4.addT l k λx hx=>Nat.not_lt.mp λc=>(get x c).1 hx) h1 e h3,l⟩
theorem Sx.first(h:Tw m N p t B)(nd:(B.map (·.1)).Nodup):Sx m N p p [] t none [] B:=by
 refine e1a3 h λT e k hB=>?_;refine .of (P:=⟨T,T,[],λx=>if x∈T.all then 0 else 2⟩) ⟨k,(λy_ q=>nomatch q),(λi D q=>nomatch q),rfl,λx hx=>if_pos hx,(λy_ q=>nomatch q),(λi D q=>nomatch q),λx hx=>⟨if_neg (hB x hx).1,(hB x hx).2⟩,nd⟩ e e rfl
end
end Mini.Internal
variable{c:Int}
namespace Mini.Internal
open PySem
noncomputable def isL(ls:List (Option Lr))(k:Nat):Bool:=match ls[k]? with
 |some (some _)=>true
 |_=>false
noncomputable def gL(ls:List (Option Lr))(k:Nat):Lr:=match ls[k]? with
 |some (some l)=>l
 |_=>⟨0,0,⟨aC4,0,aC4,0⟩⟩
noncomputable def cC2(ls:List (Option Lr)):List (Int×Lr):=((List.range ls.length).filter (isL ls)).map λ(k:Nat)=>((k:Int),gL ls k)
theorem cO6{a b:List (Option Lr)}(h:a[k]?=b[k]?):isL a k=isL b k:=by unfold isL;rw[h]
theorem dK4{a b:List (Option Lr)}(h:a[k]?=b[k]?):gL a k=gL b k:=by unfold gL;rw[h]
theorem cL6(ls:List (Option Lr))(l:Lr):cC2 (ls++[some l])=cC2 ls++[((ls.length:Int),l)]:=by
 unfold cC2;have e:∀k∈List.range ls.length,(ls++[some l])[k]?=ls[k]?:=λk hk=>List.getElem?_append_left (List.mem_range.mp hk);have z:(ls++[some l])[ls.length]?=some (some l):=by simp
 rw[List.length_append,show ls.length+[some l].length=ls.length+1 from rfl,List.range_succ,List.filter_append,List.map_append]
 congr 1
 ·rw[List.filter_congr λk hk=>cO6 (e k hk)]
  exact List.map_congr_left λk hk=>by rw[dK4 (e k (List.mem_filter.mp hk).1)]
 ·have z1:isL (ls++[some l]) ls.length=true:=by unfold isL;rw[z]
  rw[List.filter_cons_of_pos z1];show[((ls.length:Int),gL (ls++[some l]) ls.length)]=_;unfold gL;rw[z]
theorem cL5:cC2 (ls.set i none)=(cC2 ls).filter λx=>!(x.1 == (i:Int)):=by
 unfold cC2;rw[List.length_set,List.filter_map,List.filter_filter];have e:∀k,k≠i->(ls.set i none)[k]?=ls[k]?:=λk hk=>List.getElem?_set_ne (λc=>hk c.symm);have d:∀k∈List.range ls.length,isL (ls.set i none) k=(((λx:Int×Lr=>!(x.1 == (i:Int))) ∘ λ(k:Nat)=>((k:Int),gL ls k)) k&&isL ls k):=λk hk=>by
  show _=(!((k:Int) == (i:Int))&&isL ls k);by_cases q:k=i
  ·rw[<- q]
   rw[beq_self_eq_true];unfold isL;rw[List.getElem?_set_self (List.mem_range.mp hk)];rfl
  ·rw[cO6 (e k q),beq_eq_false_iff_ne.mpr λc=>q (Int.ofNat_inj.mp c)];rfl
 rw[List.filter_congr d];refine List.map_congr_left λk hk=>?_;have:=(List.mem_filter.mp hk).2;rw[dK4 (e k λc=>?_)]at ⊢;rw[c]at this;rw[show((λx:Int×Lr=>!(x.1 == (i:Int))) ∘ λ(k:Nat)=>((k:Int),gL ls k)) i=!((i:Int) == (i:Int))from rfl,beq_self_eq_true]at this;injection this
structure Tie(t:Tn)(ls:List (Option Lr)):Prop where
 gi:t.given=ls.length
 le:t.lets=cC2 ls
theorem Tie.send(h:Tie t ls)(l:Lr):Tie (t.send l) (ls++[some l]):=⟨by show t.given+1=_;rw[h.gi,List.length_append];rfl,by
 show t.lets++[(t.given,l)]=_;rw[cL6,h.le,h.gi]⟩
theorem Tie.take(h:Tie t ls)(i:Nat):Tie (t.take i) (ls.set i none):=⟨by rw[List.length_set];exact h.gi,by rw[cL5,<- h.le];rfl⟩
theorem Tie.mem(h:Tie t ls){k:Nat}(hk:k < ls.length)(hl:isL ls k=true):((k:Int),gL ls k)∈t.lets:=by
 rw[h.le];exact List.mem_map.mpr ⟨k,List.mem_filter.mpr ⟨List.mem_range.mpr hk,hl⟩,rfl⟩
theorem bH2(h:isL ls k=true):ls[k]?=some (some (gL ls k)):=by
 unfold isL at h;unfold gL
 cases e:ls[k]? with
 |none=>rw[e]at h;injection h
 |some o=>
  cases o with
  |none=>rw[e]at h;injection h
  |some l=>rfl
section
variable(s:Hs)(w:Wo)
theorem bV8:(∀x∈(s.marking w).1.known,x∈s.known \/ x∈(s.marking w).2) /\ (∀x∈(s.marking w).2,x=mrk w.n w.r s.own /\ x∈(s.marking w).1.known) /\ (∀x∈s.known,x∈(s.marking w).1.known):=by
 unfold Hs.marking
 split
 ·exact⟨λx q=>.inl q,λx q=>absurd q List.not_mem_nil,λx q=>q⟩
 ·exact⟨λx q=>(mem_addW.mp q).elim (λe=>.inr (e▸.head _)) .inl,λx q=>by rw[List.mem_singleton.mp q];exact⟨rfl,mem_addW.mpr (.inl rfl)⟩,λx q=>mem_addW.mpr (.inr q)⟩
set_option tactic.hygienic true in
theorem bN6(n:Int)(r:Str):(s.writing n r).1.known=s.known /\ (∀x∈(s.writing n r).2,x∈s.known) /\ ((s.writing n r).1.rows=s.rows \/ ∃y,(s.writing n r).1.rows=s.rows++[y] /\ s.wrote y.1=false):=by
 unfold Hs.writing
 split
 ·exact⟨rfl,λx q=>absurd q List.not_mem_nil,.inl rfl⟩
 ·rename_i z
  exact⟨rfl,λx q=>of_decide_eq_true (List.mem_filter.mp q).2,.inr ⟨_,rfl,Bool.eq_false_iff.mpr λc=>z (.inr c)⟩⟩
theorem cH5(l:List Wo):(s.naming w l).1.known=s.known /\ (s.naming w l).1.rows=s.rows /\ ∀x∈(s.naming w l).2,x∈l \/ x=w:=by
 cases l with
 |nil=>exact⟨rfl,rfl,λx q=>absurd q List.not_mem_nil⟩
 |cons a l=>
  unfold Hs.naming;dsimp only
  split
  ·exact⟨rfl,rfl,λx q=>absurd q List.not_mem_nil⟩
  ·exact⟨rfl,rfl,λx q=>(List.mem_cons.mp q).elim (λe=>.inl (e▸.head _)) λq=>.inr (List.mem_singleton.mp q)⟩
structure Heard(s:Hs)(w:Wo)(x:Hs×List Wo):Prop where
 kn:∀y∈x.1.known,y∈s.known \/ y=w \/ y∈x.2
 to:∀y∈x.2,y∈s.known \/ y=w \/ y=mrk w.n w.r s.own
 ro:x.1.rows=s.rows \/ ∃y,x.1.rows=s.rows++[y] /\ s.wrote y.1=false
theorem dK3:Heard s w (s.hear w):=by
 unfold Hs.hear
 split
 ·exact⟨λy q=>.inl q,λy q=>absurd q List.not_mem_nil,.inl rfl⟩
 ·dsimp only
  have a:=bV8 { s with known:=s.known++[w] } w;have ar:=(dM { s with known:=s.known++[w] } w).2.1;have b:=bN6 (({ s with known:=s.known++[w] }:Hs).marking w).1 w.n w.r;have c:=cH5 ((({ s with known:=s.known++[w] }:Hs).marking w).1.writing w.n w.r).1 w (s.known.filter λa=>aB6 a w);have old:∀y,y∈s.known++[w]->y∈s.known \/ y=w:=λy q=>(List.mem_append.mp q).imp id List.mem_singleton.mp;refine⟨λy q=>?_,λy q=>?_,?_⟩
  ·rw[c.1,b.1]at q
   rcases a.1 y q with q | q
   ·exact(old y q).imp id .inl
   ·exact .inr (.inr (List.mem_append_left _ (List.mem_append_left _ q)))
  ·rcases List.mem_append.mp q with q | q
   ·rcases List.mem_append.mp q with q | q
    ·exact .inr (.inr (a.2.1 y q).1)
    ·rcases a.1 y (b.2.1 y q)with q | q
     ·exact(old y q).imp id .inl
     ·exact .inr (.inr (a.2.1 y q).1)
   ·rcases c.2.2 y q with q | q
    ·exact .inl (List.mem_filter.mp q).1
    ·exact .inr (.inl q)
  ·rw[c.2.1]
   have b:=b.2.2;unfold Hs.wrote at b ⊢;rw[ar]at b;exact b
end
structure In9(t:Tn)(L:List Int)(k:Nat):Prop where
 ok:t.Ok (k * 400)
 hon:t.hs.map (·.own)=cG t.cnt L
 kn:∀s∈t.hs,∀w∈s.known,w∈t.said
 ro:∀s∈t.hs,(s.rows.map (·.1)).Nodup /\ s.rows.length <= k
 nw:∀s∈t.hs,(s.onw - s.own) % t.cnt=0 /\ 0 <= s.onw /\ s.onw <= 12 * ((k:Int)+1)
 le:∀x∈t.lets,x.2.w∈t.said
 wo:∀w∈t.said,w.Ok t.cnt
theorem In9.rg(I:In9 t L k)(hs:s∈t.hs):0 <= s.own /\ s.own < t.cnt:=by
 have:s.own∈t.hs.map (·.own):=List.mem_map.mpr ⟨s,hs,rfl⟩;rw[I.hon]at this;have:=hon_iff.mp this;exact⟨this.1,this.2.1⟩
theorem In9.liar(I:In9 t L k){h:Int}(hl:h∈L):∀s∈t.hs,s.own≠h:=λs q e=>by
 have:s.own∈t.hs.map (·.own):=List.mem_map.mpr ⟨s,q,rfl⟩;rw[I.hon,e]at this;exact(hon_iff.mp this).2.2 hl
theorem In9.mono(I:In9 t L k)(h:k <= j):In9 t L j:=⟨I.ok.mono (Nat.mul_le_mul_right _ h),I.hon,I.kn,λs q=>⟨(I.ro s q).1,Nat.le_trans (I.ro s q).2 h⟩,λs q=>⟨(I.nw s q).1,(I.nw s q).2.1,Int.le_trans (I.nw s q).2.2 (Int.mul_le_mul_of_nonneg_left (Int.add_le_add_right (Int.ofNat_le.mpr h) 1) (by decide))⟩,I.le,I.wo⟩
theorem n400(h:j <= 400):k * 400+j <= (k+1) * 400:=Nat.le_trans (Nat.add_le_add_left h (k * 400)) (Nat.le_of_eq (Nat.succ_mul k 400).symm)
theorem In9.turn(I:In9 t L k)(hs:t.hs[i]?=some s){x:Hs×List Wo}(O:(t.turn i x).Ok (k * 400+300))(ho:x.1.own=s.own)(kn:∀w∈x.1.known,w∈t.said \/ w∈x.2)(to:∀w∈x.2,w∈t.said \/ w.Ok t.cnt)(ro:x.1.rows=s.rows \/ ∃y,x.1.rows=s.rows++[y] /\ s.wrote y.1=false)(nw:(x.1.onw - x.1.own) % t.cnt=0 /\ 0 <= x.1.onw /\ x.1.onw <= 12 * (((k+1:Nat):Int)+1)):In9 (t.turn i x) L (k+1):=by
 have cn:(t.turn i x).cnt=t.cnt:=(bM _ _ _).1;have eh:(t.turn i x).hs=t.hs.set i x.1:=(bM _ _ _).2.1;have sd:∀w,w∈(t.turn i x).said↔w∈t.said \/ w∈x.2:=λw=>bQ5;have I1:=I.mono (Nat.le_succ k);refine⟨O.mono (n400 (by decide)),?_,λy hy w hw=>?_,λy hy=>?_,λy hy=>?_,λz hz=>?_,λw hw=>?_⟩
 ·rw[cE8 hs ho,cn];exact I.hon
 ·rw[sd]
  rw[eh]at hy;rcases List.mem_or_eq_of_mem_set hy with hy | rfl
  ·exact .inl (I.kn y hy w hw)
  ·exact kn w hw
 ·rw[eh]at hy
  rcases List.mem_or_eq_of_mem_set hy with hy | rfl
  ·exact I1.ro y hy
  ·have r:=I.ro s (List.mem_of_getElem? hs)
   rcases ro with e | ⟨y,e,n⟩
   ·rw[e];exact I1.ro s (List.mem_of_getElem? hs)
   ·rw[e,List.map_append,List.length_append]
    refine⟨List.nodup_append.mpr ⟨r.1,List.pairwise_singleton _ _,λa qa b qb eab=>?_⟩,Nat.succ_le_succ r.2⟩;rw[List.mem_singleton.mp qb]at eab;refine e1a2 (List.mem_map.mp qa) λz hz e2=>?_;exact Bool.eq_false_iff.mp n (List.any_eq_true.mpr ⟨z,hz,beq_iff_eq.mpr (e2.trans eab)⟩)
 ·rw[cn]
  rw[eh]at hy;rcases List.mem_or_eq_of_mem_set hy with hy | rfl
  ·exact I1.nw y hy
  ·exact nw
 ·rw[sd]
  rcases tell_lets.2 z hz with q | q
  ·exact .inl (I.le z q)
  ·exact .inr q.2
 ·rw[cn]
  rcases(sd w).mp hw with q | q
  ·exact I.wo w q
  ·exact(to w q).elim (I.wo w) id
theorem cN9{w:Wo}{o:Int}(h:w.Ok c)(o0:0 <= o)(o1:o < c):(mrk w.n w.r o).Ok c:=⟨.inr rfl,h.n0,h.n1,h.r,o0,o1,λe=>absurd e.symm (by decide:aC4≠aF6)⟩
theorem In9.hear(I:In9 t L k)(hs:t.hs[i]?=some s){w:Wo}(hw:w∈t.said):In9 (t.turn i (s.hear w)) L (k+1) /\ ∀x∈(s.hear w).2,x.h=s.own \/ x∈t.said:=by
 have hsm:=List.mem_of_getElem? hs;have H:=dK3 s w;have rg:=I.rg hsm;have hc:=cI s w;refine⟨I.turn hs (I.ok.hear hs w) hc.2.1 (λx q=>?_) (λx q=>?_) H.ro ?_,λx q=>?_⟩
 ·rcases H.kn x q with q | q | q
  ·exact .inl (I.kn s hsm x q)
  ·exact .inl (q▸hw)
  ·exact .inr q
 ·rcases H.to x q with q | q | q
  ·exact .inl (I.kn s hsm x q)
  ·exact .inl (q▸hw)
  ·rw[q];exact .inr (cN9 (I.wo w hw) rg.1 rg.2)
 ·rw[hc.2.1,hc.2.2.1];exact(I.mono (Nat.le_succ k)).nw s hsm
 ·rcases H.to x q with q | q | q
  ·exact .inr (I.kn s hsm x q)
  ·exact .inr (q▸hw)
  ·rw[q];exact .inl rfl
theorem In9.call(I:In9 t L k)(hs:t.hs[i]?=some s){r:Str}(hr:bN1 (.str r)=true)(hk:k <= 100):In9 (t.turn i (s.call r)) L (k+1) /\ ∀x∈(s.call r).2,x.h=s.own \/ x∈t.said:=by
 have hsm:=List.mem_of_getElem? hs;have H:=dK3 { s with onw:=s.onw+s.cnt } ⟨aC4,s.onw,r,s.own⟩;have rg:=I.rg hsm;have nw:=I.nw s hsm;have c12:=I.ok.c2;have hc:=cI { s with onw:=s.onw+s.cnt } ⟨aC4,s.onw,r,s.own⟩;have c1:(s.call r).1.own=s.own:=hc.2.1;have c2:(s.call r).1.onw=s.onw+s.cnt:=hc.2.2.1;have sk:(⟨aC4,s.onw,r,s.own⟩:Wo).Ok t.cnt:=⟨.inl rfl,nw.2.1,Int.le_trans nw.2.2 (Int.le_trans (Int.mul_le_mul_of_nonneg_left (Int.add_le_add_right (Int.ofNat_le.mpr hk) 1) (by decide)) (by decide)),hr,rg.1,rg.2,λy_=>nw.1⟩
 have told:∀x∈(s.call r).2,x∈s.known \/ (x.h=s.own /\ x.Ok t.cnt):=λx q=>by
  rcases List.mem_cons.mp q with q | q
  ·rw[q];exact .inr ⟨rfl,sk⟩
  ·rcases H.to x q with q | q | q
   ·exact .inl q
   ·rw[q];exact .inr ⟨rfl,sk⟩
   ·rw[q];exact .inr ⟨rfl,cN9 sk rg.1 rg.2⟩
 refine⟨I.turn hs (I.ok.call hs r) c1 (λx q=>?_) (λx q=>?_) H.ro ?_,λx q=>?_⟩
 ·rcases H.kn x q with q | q | q
  ·exact .inl (I.kn s hsm x q)
  ·rw[q];exact .inr (.head _)
  ·exact .inr (.tail _ q)
 ·exact(told x q).imp (I.kn s hsm x) (·.2)
 ·rw[c1,c2,(I.ok.hc s hsm).1]
  refine⟨?_,?_,?_⟩
  ·rw[Int.add_comm,Int.add_sub_assoc,Int.add_comm,Int.add_emod_right];exact nw.1
  ·exact Int.add_nonneg nw.2.1 (Int.le_of_lt (Int.lt_of_le_of_lt rg.1 rg.2))
  ·exact Int.le_trans (Int.add_le_add nw.2.2 c12) (Int.le_of_eq (Int.mul_add 12 _ 1).symm)
 ·exact(told x q).symm.imp (·.1) (I.kn s hsm x)
theorem In9.take(I:In9 t L k)(j:Int):In9 (t.take j) L k:=⟨I.ok.take j,I.hon,I.kn,I.ro,I.nw,λx q=>I.le x (List.mem_filter.mp q).1,I.wo⟩
theorem In9.lie(I:In9 t L k){h r:Int}{w:Wo}(hw:w.Ok t.cnt):In9 ((t.say w).send ⟨h,r,w⟩) L (k+1):=by
 have I1:=I.mono (Nat.le_succ k);have O:((t.say w).send ⟨h,r,w⟩).Ok ((k+1) * 400):=(I.ok.lie w ⟨h,r,w⟩).mono (n400 (by decide));refine⟨O,I.hon,λs q x qx=>mem_addW.mpr (.inr (I.kn s q x qx)),I1.ro,I1.nw,λx q=>?_,λx q=>?_⟩
 ·rcases List.mem_append.mp q with q | q
  ·exact mem_addW.mpr (.inr (I.le x q))
  ·rw[List.mem_singleton.mp q];exact mem_addW.mpr (.inl rfl)
 ·rcases mem_addW.mp q with rfl | q
  ·exact hw
  ·exact I.wo x q
theorem bV3(c1:1 <= c)(c2:c <= 12):In9 (Tn.new c L) L 0:=by
 have hh:∀s∈(Tn.new c L).hs,∃o,0 <= o /\ o < c /\ s=Hs.new c o:=λs q=>by
  refine e1a2 (List.mem_map.mp q) λo ho e=>?_;have:=hon_iff.mp ho;exact⟨o,this.1,this.2.1,e.symm⟩
 refine⟨dI2 c1 c2,bV2 c L,λs q w qw=>?_,λs q=>?_,λs q=>?_,λx q=>absurd q List.not_mem_nil,λw q=>absurd q List.not_mem_nil⟩
 all_goals refine e1a3 (hh s q) λo o0 o1 zz1=>?_;subst zz1
 ·exact absurd qw List.not_mem_nil
 ·exact⟨List.nodup_nil,Nat.le_refl _⟩
 ·show(o - o) % c=0 /\ 0 <= o /\ o <= 12 * (((0:Nat):Int)+1)
  rw[Int.sub_self];exact⟨Int.zero_emod _,o0,Int.le_trans (Int.le_of_lt o1) c2⟩
namespace P09
open C09
noncomputable abbrev N:HN:={ C:=9,kW:=0,kN:=1,kM:=2,kE:=3,kR:=4,kU:=7,ki:=8,cC:=2,cH:=3,cR:=4,cN:=8,gM:=0,gL:=1,gS:=2 }
theorem hf:HF sig N:=⟨⟨_,rfl,rfl,rfl,rfl⟩,⟨_,rfl,rfl,rfl,rfl⟩,⟨_,rfl,rfl,rfl,rfl⟩,⟨_,rfl,rfl,rfl,rfl⟩,⟨_,rfl,rfl,rfl,rfl⟩,⟨_,rfl,rfl,rfl,rfl⟩,⟨_,rfl,rfl,rfl,rfl⟩,⟨_,rfl,rfl,rfl,rfl⟩,⟨_,rfl,rfl,rfl,rfl⟩,⟨_,rfl,rfl,rfl,rfl⟩,⟨_,rfl,rfl,rfl,rfl⟩,⟨_,rfl,rfl,rfl,rfl⟩,⟨_,rfl,rfl,rfl,rfl⟩,⟨_,rfl,rfl,rfl,rfl⟩,⟨_,rfl,rfl,rfl,rfl⟩,⟨_,rfl⟩,⟨_,rfl⟩,⟨_,rfl⟩,
 ⟨_,rfl,rfl,rfl,by decide⟩⟩
theorem tf:TF sig N:=⟨hf,⟨_,rfl,rfl,rfl,rfl⟩,⟨_,rfl,rfl,rfl,rfl⟩,⟨_,rfl⟩,⟨_,rfl,rfl,rfl,rfl⟩,⟨_,rfl,rfl,rfl,rfl⟩,⟨_,rfl,rfl,rfl,rfl⟩,⟨_,rfl,rfl,rfl,rfl⟩,⟨_,rfl,rfl,rfl,rfl⟩,⟨_,rfl,rfl,rfl,rfl⟩,⟨_,rfl,rfl,rfl,rfl⟩,⟨_,rfl,rfl,rfl,rfl⟩,⟨_,rfl,rfl,rfl,rfl⟩,⟨_,rfl,rfl,rfl,rfl⟩,⟨_,rfl,rfl,rfl,rfl⟩,⟨_,rfl,rfl,rfl,rfl⟩,⟨_,rfl,rfl,rfl,rfl⟩,⟨_,rfl,rfl,rfl,rfl⟩,⟨_,rfl,rfl,rfl,rfl⟩,
 ⟨_,rfl,rfl,rfl,rfl,rfl,rfl⟩,⟨_,rfl,rfl,rfl,rfl⟩⟩
theorem f_at:cJ sig 32 2 2 b_at:=⟨_,rfl,rfl,rfl,rfl⟩
theorem bC0:cJ sig 33 1 1 fN:=⟨_,rfl,rfl,rfl,rfl⟩
theorem f_row:cJ sig 34 2 7 b_row:=⟨_,rfl,rfl,rfl,rfl⟩
theorem cZ7:cJ sig 35 3 5 aT4:=⟨_,rfl,rfl,rfl,rfl⟩
theorem cZ8:cJ sig 37 1 1 aT5:=⟨_,rfl,rfl,rfl,rfl⟩
noncomputable def lv:Option Lr->V
 |none=>.none
 |some l=>l.v
structure Wa where
 c:Int
 pw:Nat
 ql:Nat
 qe:Nat
 qs:Nat
 qh:Nat
 p:Nat
 v:Nat
 ps:List Nat
 u:Option Tn
 L:List Int
 R:List Str
 qr:Nat
 qd:Nat
noncomputable def Wa.d(A:Wa):List (Ky×V):=[(.str (Str.ofString "count"),.int A.c),(.str (Str.ofString "liars"),.ref A.ql),(.str (Str.ofString "letters"),.ref A.qe),(.str (Str.ofString "said"),.ref A.qs),(.str (Str.ofString "houses"),.ref A.qh)]
theorem k_c(A:Wa):look (.str (Str.ofString "count")) A.d=some (.int A.c):=rfl
theorem k_l(A:Wa):look (.str (Str.ofString "liars")) A.d=some (.ref A.ql):=rfl
theorem k_e(A:Wa):look (.str (Str.ofString "letters")) A.d=some (.ref A.qe):=rfl
theorem k_s(A:Wa):look (.str (Str.ofString "said")) A.d=some (.ref A.qs):=rfl
theorem k_h(A:Wa):look (.str (Str.ofString "houses")) A.d=some (.ref A.qh):=rfl
theorem Sx.set2{v:Nat}(h:Sx m N p v ps t u hs (x::(q,o)::B))(o':MObj):Sx (m.set q o') N p v ps t u hs (x::(q,o')::B):=
 ((h.perm (.swap ..)).set o').perm (.swap ..)
section
variable{v:Nat}{t0:Tn}{A:Wa}
theorem fX{a:CE}{k:Str}{x:V}(ha:ev sig F a r m=.ok (.ref A.pw) m)(kw:m[A.pw]?=some (.dict A.d e))(hl:look (.str k) A.d=some x):ev sig F (.idx a (.cnst (Lt.str k))) r m=.ok x m:=dW ha rfl (bP kw rfl rfl hl)
noncomputable abbrev Wq(m:MH)(A:Wa)(t:Tn)(hs:List Hs)(ls:List (Option Lr))(said:List Wo)(C:List (Nat×MObj)):Prop:=Sx m N A.p A.v A.ps t A.u hs ((A.qe,.list (ls.map lv))::(A.qs,.list (said.map Wo.v))::C)
inductive SI(A:Wa)(t:Tn)(hs:List Hs)(C:List (Nat×MObj))(h:Int)(qw:Nat)(t1:Tn)(w:Wo)(l0:Nat)(zs:List Nat)(r:Lo)(m':MH):Prop
 |mk (a:List Nat) (ls:List (Option Lr)) (y:Option V) (e:List.range t1.cnt.toNat=a++zs) (er:r=[some (.ref A.pw),some (.int h),some (.ref qw),some w.v,y])
   (H:Wq m' A t hs ls (t1.say w).said C) (ti:Tie (a.foldl (Tn.to h w) (t1.say w)) ls) (l:ls.length <= l0+a.length)
inductive SO(A:Wa)(t:Tn)(hs:List Hs)(C:List (Nat×MObj))(h:Int)(qw:Nat)(ws:List Wo)(t0:Tn)(l0:Nat)(zs:List Wo)(r:Lo)(m':MH):Prop
 |mk (a:List Wo) (ls:List (Option Lr)) (x y:Option V) (e:ws=a++zs) (er:r=[some (.ref A.pw),some (.int h),some (.ref qw),x,y])
   (H:Wq m' A t hs ls (t0.tell h a).said C) (ti:Tie (t0.tell h a) ls) (l:ls.length <= l0+12 * a.length) (l2:(t0.tell h a).said.length <= t0.said.length+a.length)
theorem dO9{x l' l:Nat}(h:x <= l'+b)(hl:l' <= l+12 * a)(hb:b <= 12):x <= l+12 * (a+1):=Nat.le_trans h (Nat.le_trans (Nat.add_le_add hl hb) (Nat.le_of_eq (Nat.add_assoc l (12 * a) 12)))
theorem room2{s l:Nat}(al:a+1 <= w)(hb:s+l+13 * w < k):l+12 * (a+1) < k:=Nat.lt_of_le_of_lt (Nat.add_le_add (Nat.le_add_left l s) (Nat.mul_le_mul (by decide) al)) hb
theorem room3{s l:Nat}(al:a+1 <= w)(hb:s+l+13 * w < k):s+a < k:=Nat.lt_of_le_of_lt (Nat.add_le_add (Nat.le_add_right s l) (Nat.le_trans (Nat.le_of_succ_le al) (Nat.le_mul_of_pos_left w (by decide)))) hb
theorem bS6(n:Nat){h:Int}{ws:List Wo}{qw e:Nat}(H:Wq m A t hs ls t0.said C)(kw:(A.pw,.dict A.d e)∈C)(kq:(qw,.list (ws.map Wo.v))∈C)(ti:Tie t0 ls)(ec:t0.cnt=A.c)(c1:1 <= A.c)(c2:A.c <= 12)(hw:∀w∈ws,w.h=h \/ w∈t0.said)(hb:t0.said.length+ls.length+13 * ws.length < lid):
  Wp (run sig (n+1) 38 [.ref A.pw,.int h,.ref qw]) m (λy_ m'=>∃ls',Wq m' A t hs ls' (t0.tell h ws).said C /\ Tie (t0.tell h ws) ls' /\ ls'.length <= ls.length+12 * ws.length) nox:=by
 refine aB5 rfl rfl (eR ws Wo.v (SO A t hs C h qw ws t0 ls.length) (aE (aC rfl (aH (fA (H.has (.tail _ (.tail _ kq))) ⟨rfl,⟨[],ls,none,none,rfl,rfl,H,ti,Nat.le_refl _,Nat.le_refl _⟩,?_,?_,?_⟩)))))
 ·rintro zs r m' ⟨a,ls',x,y,e,er,H',ti',l,l2⟩
  exact dE (H'.has (.tail _ (.tail _ kq)))
 ·rintro w zs r m' ⟨a,ls',x,y,ew,er,H',ti',l,l2⟩
  subst er;have kd:=H'.has (.tail _ (.tail _ kw));have ks:=H'.has (.tail _ (.head _));have al:a.length+1 <= ws.length:=by rw[ew,List.length_append,List.length_cons,<- Nat.add_assoc];exact Nat.succ_le_succ (Nat.le_add_right _ _)
  have cn:(t0.tell h a).cnt=A.c:=(bM h a t0).1.trans ec;have sub:w∈t0.said->w∈(t0.tell h a).said:=λq=>by rw[(bM h a t0).2.2];exact mem_adds.mpr (.inl q)
  have e1:evT sig (run sig n) (.all true [(.val (.cmp (.idx (.var 3) (.cnst (Lt.int 3))) [.Eq] [(.var 1)])),(.val (.cmp (.var 3) [.NotIn] [(.idx (.var 0) (.cnst (Lt.str (Str.ofString "said"))))]))]) [some (.ref A.pw),some (.int h),some (.ref qw),some w.v,y] m'=.ok ((w.h == h)&&(!decide (w∈(t0.tell h a).said)&&true)) m':=by
   refine cX (aN7 (aT (aR rfl rfl rfl)) (aN7 (aT (aR rfl (fX rfl kd (k_s A)) ?_)) dJ));show Res.bind (inV w.v (.ref A.qs) m') _=_;rw[bH4 ks];rfl
  refine aC rfl (bJ e1 ?_);have key:∀m2,Wq m2 A t hs ls' ((t0.tell h a).say w).said C->Wp (exs sig (run sig n) [(.for_ .range (.one 4) [(.idx (.var 0) (.cnst (Lt.str (Str.ofString "count"))))] [
   (.ite (.val (.cmp (.var 4) [.NotEq] [(.var 1)])) [
    (.exp (.smeth (.idx (.var 0) (.cnst (Lt.str (Str.ofString "letters")))) .append [(.tup [(.var 1),(.var 4),(.var 3)])]))] [])])] [some (.ref A.pw),some (.int h),some (.ref qw),some w.v,y]) m2 (aZ5 (bJ4 λy_ m'=>∃ls',Wq m' A t hs ls' (t0.tell h ws).said C /\ Tie (t0.tell h ws) ls' /\ ls'.length <= ls.length+12 * ws.length) (SO A t hs C h qw ws t0 ls.length) zs) nox:=by
   intro m2 H2;have kd2:=H2.has (.tail _ (.tail _ kw));refine eR (List.range (t0.tell h a).cnt.toNat) (λ(j:Nat)=>V.int (0+(j:Int))) (SI A t hs C h qw (t0.tell h a) w ls'.length) (aE (aG (fX rfl kd2 (k_c A)) (aH (aG (aL8 (Nat.lt_of_lt_of_le (aF2 (c:=13) (Int.le_trans (by decide) c1) (Int.lt_of_le_of_lt c2 (by decide:(12:Int) < 13)) (by decide)) (by decide))) ⟨by rw[cn],⟨[],ls',y,rfl,rfl,H2,⟨ti'.gi,ti'.le⟩,Nat.le_refl _⟩,λy_ y_ y_ y_=>rfl,?_,?_⟩))))
   ·rintro j js r m3 ⟨b,l3,z,e2,er,H3,ti3,ll3⟩
    subst er;have kd3:=H3.has (.tail _ (.tail _ kw));have ej:(b++[j]).foldl (Tn.to h w) ((t0.tell h a).say w)=Tn.to h w (b.foldl (Tn.to h w) ((t0.tell h a).say w)) j:=by rw[List.foldl_append];rfl
    have ec:List.range (t0.tell h a).cnt.toNat=(b++[j])++js:=by rw[e2,List.append_assoc];rfl
    have bl:b.length < 12:=by
     have:=congrArg List.length e2;rw[List.length_range,List.length_append,List.length_cons,cn]at this;exact Nat.lt_of_lt_of_le (Nat.lt_of_lt_of_eq (Nat.lt_add_of_pos_right (Nat.succ_pos _)) this.symm) (dB c2)
    refine aC rfl (bJ (t:=!((0+(j:Int)) == h)) (aT (aR rfl rfl rfl)) ?_)
    cases hz:(0+(j:Int)) == h with
    |true=>
     have hz:=eq_of_beq hz;rw[Int.zero_add]at hz;exact cS ⟨b++[j],l3,some (.int (0+(j:Int))),ec,rfl,H3,by rw[ej];unfold Tn.to;rw[if_pos hz];exact ti3,by rw[List.length_append];exact Nat.le_succ_of_le ll3⟩
    |false=>
     have hz:¬((j:Int)=h):=λq=>by rw[q,Int.zero_add,beq_self_eq_true]at hz;injection hz
     have k3:=H3.has (.head _);refine eC (bV (aG (fX rfl kd3 (k_e A)) ⟨0,aL9 k3,rfl,aC (a:=[.tup [.int h,.int (0+(j:Int)),w.v]]) rfl (eJ k3 ?_ (cS ?_))⟩))
     ·rw[List.length_map];exact Nat.lt_of_le_of_lt (dO9 ll3 l (Nat.le_of_lt bl)) (room2 al hb)
     ·have H4:=H3.set (.list (l3.map lv++[V.tup [.int h,.int (0+(j:Int)),w.v]]))
      refine⟨b++[j],l3++[some ⟨h,0+(j:Int),w⟩],_,ec,rfl,?_,?_,?_⟩
      ·show Sx _ N A.p A.v A.ps t A.u hs ((A.qe,.list ((l3++[some _]).map lv))::_)
       rw[List.map_append];exact H4
      ·rw[ej];unfold Tn.to;rw[if_neg hz,Int.zero_add];exact ti3.send _
      ·rw[List.length_append,List.length_append];exact Nat.succ_le_succ ll3
   ·rintro r m3 ⟨b,l3,z,e2,er,H3,ti3,ll3⟩
    subst er;rw[List.append_nil]at e2;have bl:b.length <= 12:=by rw[<- e2,List.length_range,cn];exact dB c2
    have es:t0.tell h (a++[w])=Tn.tell1 h (t0.tell h a) w:=by unfold Tn.tell;rw[List.foldl_append];rfl
    have ed:(t0.tell h (a++[w])).said=((t0.tell h a).say w).said:=by rw[es];exact(aI1 h w _).2.2
    refine cS ⟨a++[w],l3,some w.v,z,by rw[ew,List.append_assoc];rfl,rfl,by rw[ed];exact H3,?_,?_,?_⟩
    ·rw[es];unfold Tn.tell1;rw[e2];exact ti3
    ·rw[List.length_append];exact dO9 ll3 l bl
    ·rw[ed,List.length_append]
     exact Nat.le_trans (aT8 w _) (Nat.succ_le_succ l2)
  by_cases z:w∈(t0.tell h a).said
  ·rw[decide_eq_true z,Bool.not_true,Bool.false_and,Bool.and_false]
   refine key m' ?_;show Sx m' N A.p A.v A.ps t A.u hs (_::(A.qs,.list ((aB4 w (t0.tell h a).said).map Wo.v))::C);unfold aB4;rw[if_pos z];exact H'
  ·have hh:w.h=h:=(hw w (by rw[ew];exact List.mem_append_right _ (.head _))).elim id λq=>absurd (sub q) z
   rw[decide_eq_false z,hh,beq_self_eq_true];refine eC (bV (aG (fX rfl kd (k_s A)) ⟨0,aL9 ks,rfl,aC (a:=[w.v]) rfl (eJ ks ?_ (key _ ?_))⟩))
   ·rw[List.length_map];exact Nat.lt_of_le_of_lt l2 (room3 al hb)
   ·have H4:=Sx.set2 H' (.list ((t0.tell h a).said.map Wo.v++[w.v]))
    show Sx _ N A.p A.v A.ps t A.u hs (_::(A.qs,.list ((aB4 w (t0.tell h a).said).map Wo.v))::C);unfold aB4;rw[if_neg z,List.map_append];exact H4
 ·rintro r m' ⟨a,ls',x,y,e,er,H',ti',l,l2⟩
  rw[List.append_nil]at e;rw[e];exact cS ⟨ls',H',ti',l⟩
end
end P09
end Mini.Internal
variable{a:CE}
namespace Mini.Internal
open PySem
namespace P09
open C09
theorem cN3{Q:Fl×Lo->MH->Prop}{is:List Nat}{e:CE}(h:Wp (ev S F e r) m (λv m'=>Wp (aI4 (.many is) v r) m' (λr' m'=>Wp (exs S F ss r') m' Q E) E) E):Wp (exs S F (.asg (.one (.many is)) e::ss) r) m Q E:=
 eS (aJ (x:=ev S F e r) (wp_mono h (λv m' q=>aJ (x:=aI4 (.many is) v r) q) λy_ y_ q=>q))
noncomputable def bN3(os:List Int)(ps:List Nat):List (Ky×V):=tD (·.1) (λx:Int×Nat=>V.ref x.2) (os.zip ps)
structure Cs(A:Wa)(C:List (Nat×MObj)):Prop where
 kw:∃e,(A.pw,.dict A.d e)∈C
 kh:∃e,(A.qh,.dict (bN3 (cG A.c A.L) A.ps) e)∈C
 kl:(A.ql,.list (A.L.map V.int))∈C
 kr:(A.qr,.list (A.R.map V.str))∈C
 rl:A.R.length=3
 ro:∀r∈A.R,bN1 (.str r)=true
 c1:1 <= A.c
 c7:A.c <= 7
 hL:∀x∈A.L,0 <= x /\ x < A.c
 ll:A.L.length <= 12
theorem Cs.sub{A:Wa}{C':List (Nat×MObj)}(h:Cs A C)(s:∀x∈C,x∈C'):Cs A C':=⟨h.kw.imp λy_ k=>s _ k,h.kh.imp λy_ k=>s _ k,s _ h.kl,s _ h.kr,h.rl,h.ro,h.c1,h.c7,h.hL,h.ll⟩
structure W9(m:MH)(A:Wa)(k:Nat)(C:List (Nat×MObj))(t:Tn)(ls:List (Option Lr)):Prop where
 H:Wq m A t t.hs ls t.said C
 I:In9 t A.L k
 ti:Tie t ls
 ec:t.cnt=A.c
 lb:ls.length <= k * 400
section
variable{v:Nat}{A:Wa}{sd:List Wo}
theorem Wq.new(h:Wq m A t hs ls sd C)(l:Le m m')(kq:m'[q]?=some o)(g:m.length <= q):Wq m' A t hs ls sd ((q,o)::C):=
 (Sx.new h l kq g).perm (((List.Perm.swap _ _ _).cons _).trans (.swap _ _ _))
theorem Wq.in3(h:Sx m N A.p A.v A.ps t A.u hs (x::(A.qe,.list (ls.map lv))::(A.qs,.list (sd.map Wo.v))::C)):Wq m A t hs ls sd (x::C):=
 h.perm (((List.Perm.swap _ _ _).cons _).trans (.swap _ _ _))
theorem Sx.tw(h:Sx m N p v ps t u hs B):∃B',Tw m N p t B':=by
 refine e1a4 h λP h1 y_ y_ h4=>?_;exact⟨_,h1▸h4.to.full⟩
theorem Sx.look(h:Sx m N p v ps t u hs B)(nd:(hs.map (·.own)).Nodup)(hi:hs[i]?=some s):∃pi,ps[i]?=some pi /\ Mini.Internal.look (.int s.own) (bN3 (hs.map (·.own)) ps)=some (.ref pi):=by
 refine e1a4 h λP h1 h2 h3 h4=>?_;refine e1a2 (aS2 (t:={ t with hs:=hs }) (T:={ P.T with ds:=P.ds }) h4.len nd hi) λD e1 e2=>?_;have e1:P.ds[i]?=some D:=e1;refine⟨D.p,by rw[<- h3,List.getElem?_map,e1];rfl,?_⟩;rw[<- h3];exact e2
theorem cO5(x:Option Lr)(m:MH):aF0 .IsNot (lv x) .none m=.ok x.isSome m:=by cases (x) <;> rfl
theorem cI2{x:Option Lr}(h:ls[j]?=some x):at_ (ls.map lv) (0+(j:Int))=some (lv x):=by
 unfold at_;rw[Int.zero_add,if_pos (Int.natCast_nonneg j),Int.toNat_natCast,List.getElem?_map,h];rfl
theorem bX5{x:Option Lr}(h:ls[j]?=some x):isL ls j=x.isSome:=by
 unfold isL;rw[h];cases (x) <;> rfl
theorem small(hl:ls.length <= k * 400)(hk:k <= 100):ls.length <= 40000:=Nat.le_trans hl (Nat.mul_le_mul_right 400 hk)
theorem w60(h:j < 40000):(0+(j:Int)).natAbs < 2 ^ 60:=by
 rw[Int.zero_add,Int.natAbs_natCast];exact Nat.lt_of_lt_of_le h (by decide)
noncomputable abbrev aE4(ls:List (Option Lr)):List Int:=((List.range ls.length).filter (isL ls)).map λ(j:Nat)=>0+(j:Int)
noncomputable def Out(m':MH)(A:Wa)(k:Nat)(C:List (Nat×MObj))(x:V):Prop:=∃(q1 q2:Nat) (t':Tn) (ls':List (Option Lr)) (ws:List Wo),x=.tup [.ref q1,.ref q2] /\ W9 m' A k ((q1,.list (ws.map Wo.v))::(q2,.list (ws.map Wo.v))::C) t' ls'
theorem aF1(n:Nat){j:Nat}{l:Lr}{hs':List Hs}{ws:List Wo}{qd:Nat}{x2 x3 x5 x7:Option V}{Q:V->MH->Prop}(H:Wq m A t hs' (ls.set j none) t.said C)(K:Cs A C)(kq:(qd,.list (ws.map Wo.v))∈C)(ti:Tie t ls)(ec:t.cnt=A.c)(hw:∀w∈ws,w.h=l.r \/ w∈t.said)(lb:ls.length <= k * 400)(sb:t.said.length <= k * 400)(hk:k <= 100)(wl:ws.length <= 16)(w:∀m B,Tw m N A.p t B->Wp (run sig (n+7) 25 [.ref A.p,.int (0+(j:Int))]) m (λu m'=>∃q,u=.ref q /\ Tw m' N A.p (({ t.take j with hs:=hs' }:Tn).tell l.r ws) ((q,.list (ws.map Wo.v))::B) /\ m.length <= q) nox)(I:In9 (({ t.take j with hs:=hs' }:Tn).tell l.r ws) A.L (k+1))(z:∀q m' ls',W9 m' A (k+1) ((q,.list (ws.map Wo.v))::C) (({ t.take j with hs:=hs' }:Tn).tell l.r ws) ls'->Q (.tup [.ref q,.ref qd]) m'):
  Wp (exs sig (run sig (n+7)) [(.exp (.call 38 [(.var 1),(.var 6),(.var 8)])),(.ret (.tup [(.meth (.var 0) 18 [(.var 4)]),(.var 8)]))] [some (.ref A.p),some (.ref A.pw),x2,x3,some (.int (0+(j:Int))),x5,some (.int l.r),x7,some (.ref qd)]) m (bJ4 Q) nox:=by
 refine e1a1 K.kw λe kw=>?_;have t1:Tie ({ t.take j with hs:=hs' }:Tn) (ls.set j none):=⟨(ti.take j).gi,(ti.take j).le⟩
 refine eC (dY (aC rfl (bF (bS6 (n+6) (t0:={ t.take j with hs:=hs' }) H kw kq t1 ec K.c1 (Int.le_trans K.c7 (by decide)) hw ?_) λa m1 z1=>?_)))
 ·have:t.said.length <= 40000:=Nat.le_trans sb (Nat.mul_le_mul_right 400 hk)
  show t.said.length+(ls.set j none).length+13 * ws.length < lid;rw[List.length_set];exact Nat.lt_of_le_of_lt (Nat.add_le_add (Nat.add_le_add this (small lb hk)) (Nat.mul_le_mul_left 13 wl)) (by decide)
 refine e1a3 z1 λls' H1 ti1 ll1=>?_;rw[List.length_set]at ll1;refine e1a1 (Sx.tw H1) λB' hT=>?_;refine a9 (aN9 (aE (aX tf hT rfl rfl rfl (aC rfl (H1.town (w m1) λq m2 H2 g=>aE (aC rfl (aH ?_)))))));refine z q m2 ls' ⟨?_,I,ti1,(bM _ _ _).1.trans ec,Nat.le_trans ll1 (Nat.le_trans (Nat.add_le_add lb (Nat.mul_le_mul_left 12 wl)) (n400 (by decide)))⟩;rw[(bM _ _ _).2.1];exact Wq.in3 H2
theorem bM5(n:Nat){cell:Int}(W:W9 m A k C t ls)(K:Cs A C)(hk:k <= 99):Wp (run sig (n+8) 39 [.ref A.p,.ref A.pw,.int cell]) m (λx m'=>Out m' A (k+1) C x) nox:=by
 refine e1a1 K.kw λe kw=>?_;refine e1a1 K.kh λeh kh=>?_;have H:=W.H;have kd:=H.has (.tail _ (.tail _ kw));have ke:=H.has (.head _);have hk':k <= 100:=Nat.le_succ_of_le hk;have sm:=small W.lb hk';have oe:t.hs.map (·.own)=cG A.c A.L:=W.ec▸W.I.hon;have eL:∀(x1:Option V) (x2:Lo),ev sig (run sig (n+7)) (.bi .len [(.idx (.var 1) (.cnst (Lt.str (Str.ofString "letters"))))]) (x1::some (.ref A.pw)::x2) m=.ok (.int (ls.length:Int)) m:=λx1 x2=>(aI9 (fX rfl kd (k_e A)) ke).trans (by rw[List.length_map]);refine aB5 rfl rfl (bC (aD7 (List.range ls.length) (λ(j:Nat)=>V.int (0+(j:Int))) (λ(j:Nat)=>V.int (0+(j:Int))) (isL ls) (λm'=>m'=m) (aE (aG (eL _ _) (aH (aG (aL8 (by lia)) ⟨by rw[Int.toNat_natCast],rfl,λy_ y_=>rfl,?_,?_,?_⟩))))))
 ·intro j hj m1 em
  rw[em];have jl:=List.mem_range.mp hj;have ej:=List.getElem?_eq_getElem jl;refine aC rfl (aE2 (aG (aT (aR (dW (fX rfl kd (k_e A)) rfl (bN2 ke (cI2 ej) (w60 (Nat.lt_of_lt_of_le jl sm)))) rfl (cO5 _ _))) ⟨(bX5 ej).symm,?_⟩))
  cases (ls[j]).isSome
  ·exact fM rfl
  ·exact dQ (aC rfl ⟨rfl,rfl⟩)
 ·rw[List.length_range];exact Nat.le_trans sm (by decide)
 intro qt m1' m1 em l1 k1 g1;rw[em]at l1 g1;have k1:m1[qt]?=some (.list ((aE4 ls).map V.int)):=by rw[k1,List.map_map];rfl
 have H1:=Wq.new H l1 k1 g1;refine aA9 (eF (eU (aC rfl (aY (aH (aK λq2 m2 l2 k2 g2=>?_))))));have H2:=Wq.new H1 l2 k2 g2;have kt:=l2.has k1;refine aG (bZ2 (λx hx=>rdI x hx m2) kt k2) (aC rfl ?_);by_cases em:(aE4 ls).length=0
 ·have:((aE4 ls).map V.int).isEmpty=true:=by rw[List.isEmpty_iff,List.map_eq_nil_iff];exact List.eq_nil_of_length_eq_zero em
  rw[this];refine a9 (aN9 (aE (aY (aH (aK λq3 m3 l3 k3 g3=>aE (aY (aH (aK λq4 m4 l4 k4 g4=>aH ⟨q3,q4,t,ls,[],rfl,?_,W.I.mono (Nat.le_succ k),W.ti,W.ec,Nat.le_trans W.lb (Nat.mul_le_mul_right _ (Nat.le_succ k))⟩))))))));have H4:=Wq.new (Wq.new (H.up (l1.trans l2)) l3 k3 g3) l4 k4 g4;exact H4.perm ((List.Perm.swap _ _ _).cons _ |>.cons _)
 have:((aE4 ls).map V.int).isEmpty=false:=by
  cases q:aE4 ls with
  |nil=>rw[q]at em;exact absurd rfl em
  |cons=>rfl
 rw[this];have tl:(aE4 ls).length <= 1000000:=by
  show(List.map _ _).length <= _;rw[List.length_map];refine Nat.le_trans (List.length_filter_le _ _) ?_;rw[List.length_range];exact Nat.le_trans sm (by decide)
 refine e1a2 (bU2 (S:=sig) (F:=run sig (n+7)) (a:=.var 3) (e:=.var 2) (r:=[some (.ref A.p),some (.ref A.pw),some (.int cell),some (.ref qt),none,none,none,none,none]) (x:=cell) rfl kt rfl (Nat.pos_of_ne_zero em) tl) λy ey hy=>?_;refine e1a2 (List.mem_map.mp hy) λj hj ej=>?_;have hj:=List.mem_filter.mp hj;have jl:=List.mem_range.mp hj.1;have jn:(0+(j:Int)).natAbs < 2 ^ 60:=w60 (Nat.lt_of_lt_of_le jl sm);subst ej;have gj:=bH2 hj.2;have jm:=W.ti.mem jl hj.2;have hsd:(gL ls j).w∈t.said:=W.I.le _ jm
 generalize gL ls j=l at gj jm hsd
 have ke2:=H2.has (.head _);have kd2:=H2.has (.tail _ (.tail _ (.tail _ (.tail _ kw))));refine bC (aG ey ?_);refine cN3 (aG (dW (fX rfl kd2 (k_e A)) rfl (bN2 ke2 (cI2 gj) jn)) (aC rfl ?_));refine dR (aC rfl (aG (fX rfl kd2 (k_e A)) (aC rfl (dE2 ke2 (by rw[Int.zero_add];exact Int.natCast_nonneg _) (by rw[List.length_map,Int.zero_add];exact Int.ofNat_lt.mpr jl) ?_))));have H3:=H2.set (.list ((ls.set j none).map lv));have es:(ls.map lv).set (0+(j:Int)).toNat ((Lt.none).val)=(ls.set j none).map lv:=by rw[Int.zero_add,Int.toNat_natCast,List.map_set];rfl
 rw[es];have H3:Wq _ A t t.hs (ls.set j none) t.said ((q2,.list [])::(qt,.list ((aE4 ls).map V.int))::C):=H3
 generalize m2.set A.qe (.list ((ls.set j none).map lv))=m3 at H3 ⊢
 have K3:=K.sub λx hx=>List.mem_cons_of_mem (q2,MObj.list []) (List.mem_cons_of_mem (qt,MObj.list ((aE4 ls).map V.int)) hx);refine bC (aY (aH (aK λq4 m4 l4 k4 g4=>?_)));have H4:=Wq.new H3 l4 k4 g4;have K4:=K3.sub λx hx=>List.mem_cons_of_mem (q4,MObj.list []) hx;have kd4:=H4.has (.tail _ (.tail _ (.tail _ (.tail _ (.tail _ kw)))));have kh4:=H4.has (.tail _ (.tail _ (.tail _ (.tail _ (.tail _ kh)))));have so:aN (.int l.r) (bN3 (cG A.c A.L) A.ps)=true:=aV _ _ _ _;have b1:k * 400+300 < lid:=Nat.lt_of_le_of_lt (Nat.add_le_add_right (Nat.mul_le_mul_right 400 hk) 300) (by decide);by_cases z:∃s∈t.hs,s.own=l.r
 ·refine e1a2 z λs hs es=>?_
  refine e1a1 (List.getElem?_of_mem hs) λi hi=>?_;refine e1a2 (Sx.look H4 W.I.ok.on hi) λpi hp el=>?_;rw[oe,es]at el;have sc:=W.I.ok.hc s hs;refine e1a4 hf.cls λdh hd hx hin hm=>?_;refine bJ (t:=true) (aT (aR rfl (fX rfl kd4 (k_h A)) ?_)) ?_
  ·show inV (.int l.r) (.ref A.qh) m4=_
   rw[aU kh4 rfl so,el];rfl
  refine bC (bN (aG (dW (fX rfl kd4 (k_h A)) rfl (bP kh4 rfl so el)) ?_));refine e1a2 (H4.at hi) λD hD hH=>?_;have eD:pi=D.p:=Option.some.inj (hp.symm.trans hD);refine⟨pi,N.C,_,dh,N.ki+2,rfl,eD▸hH.inst,hd,rfl,hm 1 (by decide),aC rfl ?_⟩;refine Sx.tells (i:=i) (x:=s.hear l.w) H4 hi (λD' h1 h2=>?_) λq5 m5 H5 g5=>?_
  ·have:pi=D'.p:=Option.some.inj (hp.symm.trans h1)
   rw[this];exact bB9 hf (n+1) l.w h2 (by rw[sc.1];exact W.I.ok.c1) (by rw[sc.1];exact W.I.ok.c2) (Nat.lt_of_le_of_lt (Nat.add_le_add sc.2 (by decide:8 <= 300)) b1)
  ·have H5:=Wq.in3 H5
   have K5:=K4.sub λx hx=>List.mem_cons_of_mem (q5,MObj.list ((s.hear l.w).2.map Wo.v)) hx;have I5:=(W.I.take j).hear (s:=s) hi (w:=l.w) hsd;have e5:({ t.take j with hs:=t.hs.set i (s.hear l.w).1 }:Tn).tell l.r (s.hear l.w).2=(t.take j).turn i (s.hear l.w):=by unfold Tn.turn;rw[aG8,es];rfl
   have wl:(s.hear l.w).2.length <= 16:=Nat.le_trans (cI s l.w).2.2.2.2 (Nat.le_trans (Nat.add_le_add_right (dB (show s.cnt <= 12 by rw[sc.1];exact W.I.ok.c2)) 3) (by decide));refine aF1 n (ws:=(s.hear l.w).2) (l:=l) H5 K5 (.head _) W.ti W.ec (by rw[<- es];exact I5.2) W.lb W.I.ok.lk.sl hk' wl (λm B hB=>?_) (by rw[e5];exact I5.1) λq6 m6 ls6 W6=>⟨q6,q5,_,ls6,(s.hear l.w).2,rfl,⟨?_,W6.I,W6.ti,W6.ec,W6.lb⟩⟩
   ·rw[e5,Int.zero_add]
    exact cF3 tf n hB W.I.ok jm hi es b1
   ·exact W6.H.sub (.cons₂ _ (.cons₂ _ (.cons₂ _ (.cons₂ _ (.cons _ (.cons _ (.cons _ (.refl _))))))))
 ·have hl:∀s∈t.hs,s.own≠l.r:=λs hs e=>z ⟨s,hs,e⟩
  refine e1a4 (id H4) λP y_ y_ h3 h4=>?_;have el:(Mini.Internal.look (.int l.r) (bN3 (cG A.c A.L) A.ps)).isSome=false:=by
   rw[<- oe,<- h3];exact aS1 (t:=t) (T:={ P.T with ds:=P.ds }) hl
  refine bJ (t:=false) (aT (aR rfl (fX rfl kd4 (k_h A)) ?_)) ?_
  ·show inV (.int l.r) (.ref A.qh) m4=_
   rw[aU kh4 rfl so,el]
  refine aF1 n (ws:=[]) (l:=l) H4 K4 (.head _) W.ti W.ec (λw q=>absurd q List.not_mem_nil) W.lb W.I.ok.lk.sl hk' (Nat.zero_le _) (λm B hB=>?_) ((W.I.take j).mono (Nat.le_succ k)) λq6 m6 ls6 W6=>⟨q6,q4,_,ls6,[],rfl,⟨?_,W6.I,W6.ti,W6.ec,W6.lb⟩⟩
  ·rw[Int.zero_add]
   exact cF2 tf (n+4) hB W.I.ok jm hl
  ·exact W6.H.sub (.cons₂ _ (.cons₂ _ (.cons₂ _ (.cons₂ _ (.cons _ (.cons _ (.refl _)))))))
end
end P09
end Mini.Internal
variable{j:Int}
namespace Mini.Internal
open PySem
namespace P09
open C09
theorem cH0{l d:Int}(l0:0 <= l)(l1:l < c)(d0:0 <= d)(d1:d < c - 1):(l+1+d) % c≠l:=by
 intro e;have hm:=Int.emod_add_mul_ediv (l+1+d) c;rw[e]at hm;have q0:(l+1+d) / c=0 \/ (l+1+d) / c=1:=by
  have h0:0 <= (l+1+d) / c:=Int.ediv_nonneg (by lia) (by lia);have h1:(l+1+d) / c < 2:=Int.ediv_lt_of_lt_mul (by lia) (by lia);lia
 rcases q0 with q | q
 ·rw[q]at hm;lia
 ·rw[q]at hm;lia
section
variable{v:Nat}{A:Wa}
theorem bT3{e:CE}{x:Int}(hp:m[q]?=some (.list (R.map V.str)))(hl:R.length=3)(ha:ev sig F a r m=.ok (.ref q) m)(he:ev sig F e r m=.ok (.int x) m):∃s∈R,ev sig F (.idx a (.bin .Mod e (.cnst (Lt.int 3)))) r m=.ok (.str s) m:=by
 refine e1a2 (cB6 (xs:=R.map V.str) (x:=x) (n:=3) (by decide) (by rw[List.length_map,hl];rfl)) λv h1 h2=>?_;refine e1a2 (List.mem_map.mp h2) λs hs zz1=>?_;subst zz1;exact⟨s,hs,dW ha (bU he rfl (aD0 (by decide))) (bN2 hp h1 (md60 (by decide) (by decide)))⟩
theorem aJ4(n:Nat){y rc cell:Int}{w:Wo}{x6:Option V}(W:W9 m A k C t ls)(K:Cs A C)(hk:k <= 99)(hy:y∈A.L)(r0:0 <= rc)(r1:rc < t.cnt)(hr:rc≠y)(hw:w.Ok t.cnt)(hf:w.h=y \/ w∈t.said):
  Wp (exs sig (run sig (n+4)) (f_law_lied.drop 5) [some (.ref A.p),some (.ref A.pw),some (.int cell),some (.ref A.qr),some (.int y),some (.int rc),x6,some w.v,none]) m (bJ4 λx m'=>x=.bool true /\ ∃t' ls',W9 m' A (k+1) C t' ls') nox:=by
 refine e1a1 K.kw λe kw=>?_;have H:=W.H;have kd:=H.has (.tail _ (.tail _ kw));have ks:=H.has (.tail _ (.head _));have sb:t.said.length <= k * 400:=W.I.ok.lk.sl;have hy':=K.hL y hy;rw[<- W.ec]at hy';have fin:∀m2,Wq m2 A t t.hs ls (t.say w).said C->Wp (exs sig (run sig (n+4)) (f_law_lied.drop 6) [some (.ref A.p),some (.ref A.pw),some (.int cell),some (.ref A.qr),some (.int y),some (.int rc),x6,some w.v,none]) m2 (bJ4 λx m'=>x=.bool true /\ ∃t' ls',W9 m' A (k+1) C t' ls') nox:=by
  intro m2 H2;refine e1a1 (Sx.tw H2) λB' hT=>?_;refine bC (aX tf hT rfl rfl rfl (aC rfl (H2.town0 (λB hB=>dI8 tf n hB W.I.ok hy'.1 hy'.2 (W.I.liar hy) r0 r1 hr hw hf (by unfold lid;lia)) λm3 H3=>?_)));have kd3:=H3.has (.tail _ (.tail _ kw));have k3:=H3.has (.head _);refine eC (bV (aG (fX rfl kd3 (k_e A)) ⟨0,aL9 k3,rfl,aC (a:=[.tup [.int y,.int rc,w.v]]) rfl (eJ k3 ?_ ?_)⟩))
  ·rw[List.length_map];exact Nat.lt_of_le_of_lt (small W.lb (Nat.le_succ_of_le hk)) (by decide)
  have H4:=H3.set (.list (ls.map lv++[V.tup [.int y,.int rc,w.v]]));have k4:=H4.has (.head _);have kd4:=H4.has (.tail _ (.tail _ kw))
  generalize m3.set A.qe (.list (ls.map lv++[V.tup [.int y,.int rc,w.v]]))=m4 at H4 k4 kd4 ⊢
  refine a9 (dN1 (aG (bB rfl (bI bC0 (n+3) t.given)) (aC rfl (dQ (dC5 (aG (aR rfl (bU (aI9 (fX rfl kd4 (k_e A)) k4) rfl rfl) (t:=true) ?_) ⟨rfl,_,ls++[some ⟨y,rc,w⟩],?_,W.I.lie hw,Tie.send (t:=t.say w) ⟨W.ti.gi,W.ti.le⟩ _,W.ec,?_⟩))))))
  ·show Res.ok (t.given == (((ls.map lv++[V.tup [.int y,.int rc,w.v]]).length:Int) - 1)) m4=_
   rw[List.length_append,List.length_map,W.ti.gi];show Res.ok ((ls.length:Int) == (((ls.length+1:Nat):Int) - 1)) m4=_;rw[beq_iff_eq.mpr (show(ls.length:Int)=(((ls.length+1:Nat):Int) - 1)from(Int.add_sub_cancel _ 1).symm)]
  ·show Sx m4 N A.p A.v A.ps _ A.u _ ((A.qe,.list ((ls++[some _]).map lv))::_)
   rw[List.map_append];exact H4
  ·rw[List.length_append];exact Nat.le_trans (Nat.add_le_add_right W.lb 1) (n400 (by decide))
 refine bJ (t:=!decide (w∈t.said)) (aT (aR rfl (fX rfl kd (k_s A)) ?_)) ?_
 ·show Res.bind (inV w.v (.ref A.qs) m) _=_
  rw[bH4 ks];rfl
 by_cases z:w∈t.said
 ·rw[decide_eq_true z]
  refine fin m ?_;show Sx m N A.p A.v A.ps t A.u t.hs (_::(A.qs,.list ((aB4 w t.said).map Wo.v))::C);unfold aB4;rw[if_pos z];exact H
 ·rw[decide_eq_false z]
  refine eC (bV (aG (fX rfl kd (k_s A)) ⟨0,aL9 ks,rfl,aC (a:=[w.v]) rfl (eJ ks ?_ (fin _ ?_))⟩))
  ·rw[List.length_map];unfold lid;lia
  ·have H4:=Sx.set2 H (.list (t.said.map Wo.v++[w.v]))
   show Sx _ N A.p A.v A.ps t A.u t.hs (_::(A.qs,.list ((aB4 w t.said).map Wo.v))::C);unfold aB4;rw[if_neg z,List.map_append];exact H4
theorem W9.up(W:W9 m A k C t ls)(l:Le m m'):W9 m' A k C t ls:=⟨W.H.up l,W.I,W.ti,W.ec,W.lb⟩
theorem cX4(n:Nat){cell:Int}(W:W9 m A k C t ls)(K:Cs A C)(hk:k <= 99)(ne:0 < A.L.length)(c2:1 < A.c):
  Wp (run sig (n+5) 40 [.ref A.p,.ref A.pw,.int cell,.ref A.qr]) m (λx m'=>x=.bool true /\ ∃t' ls',W9 m' A (k+1) C t' ls') nox:=by
 refine e1a1 K.kw λe kw=>?_;have kd:=W.H.has (.tail _ (.tail _ kw));have kl:=W.H.has (.tail _ (.tail _ K.kl));have kr:=W.H.has (.tail _ (.tail _ K.kr));refine e1a2 (bU2 (S:=sig) (F:=run sig (n+4)) (r:=[some (.ref A.p),some (.ref A.pw),some (.int cell),some (.ref A.qr),none,none,none,none,none]) (a:=.idx (.var 1) (.cnst (Lt.str (Str.ofString "liars")))) (e:=.var 2) (x:=cell) (fX rfl kd (k_l A)) kl rfl ne (Nat.le_trans K.ll (by decide))) λy e5 hy=>?_;have hy':=K.hL y hy;refine aB5 rfl rfl (bC (aG e5 ?_));have c0:(0:Int) < A.c:=Int.lt_trans (by decide) c2;have d0:(0:Int) < A.c - 1:=Int.sub_pos_of_lt c2;refine bC (aG (a:=.int ((y+1+cell / 12 % (A.c - 1)) % A.c)) (m':=m) (bU (bU rfl (bU rfl (bU (fX rfl kd (k_c A)) rfl rfl) (aD0 d0)) rfl) (fX rfl kd (k_c A)) (aD0 c0)) ?_);have r0:0 <= (y+1+cell / 12 % (A.c - 1)) % A.c:=md0 c0;have r1:(y+1+cell / 12 % (A.c - 1)) % A.c < A.c:=md1 c0;have rn:(y+1+cell / 12 % (A.c - 1)) % A.c≠y:=cH0 hy'.1 hy'.2 (md0 d0) (md1 d0)
 generalize (y+1+cell / 12 % (A.c - 1)) % A.c=rc at r0 r1 rn ⊢
 have n0:0 <= cell / 84 % 2:=md0 (by decide);have n1:cell / 84 % 2 < 2:=md1 (by decide);refine bC (aG (a:=.int (y+A.c * (cell / 84 % 2))) (m':=m) (bU rfl (bU (fX rfl kd (k_c A)) rfl (bV7 (.inr (by lia)))) rfl) ?_);have ck:cell / 168 % 2=0 \/ cell / 168 % 2=1:=by lia
 refine bC (aN9 (aE (aV4 (aY (aC (a:=[.str aC4,.str aF6]) rfl (aK λq1 m1 l1 k1 g1=>?_))))));have W1:=W.up l1;obtain⟨kd1,hkd,ek⟩:∃kd1:Str,(kd1=aC4 \/ kd1=aF6) /\ aO6 (.ref q1) (.int (cell / 168 % 2)) m1=.ok (.str kd1) m1:=by
  rcases ck with q | q
  ·exact⟨aC4,.inl rfl,by rw[q];exact bN2 k1 rfl (by decide)⟩
  ·exact⟨aF6,.inr rfl,by rw[q];exact bN2 k1 rfl (by decide)⟩
 refine aC (a:=.int (cell / 168 % 2)) rfl (aG ek (aE (aC rfl (aE ?_))));refine e1a2 (bT3 (F:=run sig (n+4)) (r:=[some (.ref A.p),some (.ref A.pw),some (.int cell),some (.ref A.qr),some (.int y),some (.int rc),some (.int (y+A.c * (cell / 84 % 2))),none,none]) (a:=.var 3) (e:=.bin .FloorDiv (.var 2) (.cnst (Lt.int 336))) (x:=cell / 336) (l1.has kr) K.rl rfl rfl) λs' hs' es'=>?_;have wk:(⟨kd1,y+A.c * (cell / 84 % 2),s',y⟩:Wo).Ok t.cnt:=by
  rw[W.ec];have hr:=K.ro s' hs';have o:=dG7 (r:=s') n0 n1 hr hy'.1 hy'.2 (Int.le_trans K.c7 (by decide));rcases hkd with rfl | rfl
  ·exact o
  ·exact cX3 o.n0 o.n1 hr hy'.1 hy'.2
 refine aG es' (aE (aC rfl (aH ?_)));rw[<- W.ec]at r1;refine aA9 (aE7 (bH (aC (a:=(cell / 1008 % 3 == 1)) rfl ?_)))
 cases hz:cell / 1008 % 3 == 1 with
 |false=>exact fM (aJ4 n (w:=⟨kd1,y+A.c * (cell / 84 % 2),s',y⟩) W1 K hk hy r0 r1 rn wk (.inl rfl))
 |true=>
  have kd1':=W1.H.has (.tail _ (.tail _ kw));have ks1:=W1.H.has (.tail _ (.head _));refine dQ (bH (cV1 (fX rfl kd1' (k_s A)) ks1 (λx hx m=>rdW x hx m) λm2 l2=>?_));have W2:=W1.up l2
  cases hw2:t.said with
  |nil=>exact fM (aJ4 n (w:=⟨kd1,y+A.c * (cell / 84 % 2),s',y⟩) W2 K hk hy r0 r1 rn wk (.inl rfl))
  |cons a as=>
   refine dQ (aC rfl ?_);have kd2:=W2.H.has (.tail _ (.tail _ kw));have ks2:=W2.H.has (.tail _ (.head _));have sl:(0:Int) < ((t.said.map Wo.v).length:Int):=by rw[List.length_map,hw2];exact Int.natCast_pos.mpr (Nat.succ_pos _)
   refine e1a2 (cB6 (xs:=t.said.map Wo.v) (x:=cell / 3024) sl rfl) λx h1 h2=>?_;refine e1a2 (List.mem_map.mp h2) λw hv zz1=>?_;subst zz1;have sb:t.said.length <= k * 400:=W.I.ok.lk.sl;refine bC (aG (dW (fX rfl kd2 (k_s A)) (bU rfl (aI9 (fX rfl kd2 (k_s A)) ks2) (aD0 sl)) (bN2 ks2 h1 (mdl sl ?_))) (aJ4 n W2 K hk hy r0 r1 rn (W.I.wo w hv) (.inr hv)));rw[List.length_map];unfold lid;lia
end
theorem cV6{c:CB}{b:CE}(h:Wp (evT S F c r) m (λt m'=>bif t then Wp (ev S F a r) m' Q E else Wp (ev S F b r) m' Q E) E):Wp (ev S F (.ite c a b) r) m Q E:=by
 refine aJ (x:=evT S F c r) (wp_mono h (λt m' q=>?_) λy_ y_ q=>q)
 cases (t) <;> exact q
section
variable{v:Nat}{A:Wa}
theorem bE9{s:Str}(h:bN1 (.str s)=true):s.length <= 64:=by
 have h:(dD1 s&&s.cps.toList.all okC)=true:=h;have h:=(Bool.and_eq_true_iff.mp h).1;exact Nat.le_trans (Int.ofNat_le.mp (of_decide_eq_true (Bool.and_eq_true_iff.mp h).2)) (by decide:8 <= 64)
theorem Sx.plen(h:Sx m N p v ps t u hs B):ps.length=hs.length:=by
 refine e1a4 h λP y_ y_ h3 h4=>?_;rw[<- h3,List.length_map,h4.len]
theorem aS3(c:Int)(L:List Int):(cG c L).length <= c.toNat:=by
 refine Nat.le_trans (List.length_filter_le _ _) ?_;rw[List.length_map,List.length_range];exact Nat.le_refl _
theorem aR8{os:List Int}(h:ps.length=os.length):(os.zip ps).map (·.1)=os:=List.map_fst_zip (Nat.le_of_eq h.symm)
theorem aN6(W:W9 m A k C t ls)(K:Cs A C):biV .sorted [.ref A.qh] m=alloc (.list ((sortI (cG A.c A.L)).map V.int)) m:=by
 refine e1a1 K.kh λe kh=>?_;have oe:t.hs.map (·.own)=cG A.c A.L:=W.ec▸W.I.hon;have pl:A.ps.length=(cG A.c A.L).length:=by rw[<- oe,List.length_map];exact Sx.plen W.H
 have k:=W.H.has (.tail _ (.tail _ kh));have l7:(cG A.c A.L).length < 64:=Nat.lt_of_le_of_lt (Nat.le_trans (aS3 A.c A.L) (dB K.c7)) (by decide);unfold biV;dsimp only;rw[k];dsimp only;unfold bN3;rw[aJ7,aR8 pl];dsimp only;rw[if_pos (.inl l7)]
theorem dB3(n:Nat){cell:Int}(W:W9 m A k C t ls)(K:Cs A C)(hk:k <= 99):
  Wp (run sig (n+9) 41 [.ref A.p,.ref A.pw,.int cell,.ref A.qr]) m (λx m'=>Out m' A (k+1) C x \/ (x=.tup [.none,.none] /\ ∃t' ls',W9 m' A (k+1) C t' ls')) nox:=by
 refine e1a1 K.kw λe kw=>?_;refine e1a1 K.kh λeh kh=>?_;have kd:=W.H.has (.tail _ (.tail _ kw));have oe:t.hs.map (·.own)=cG A.c A.L:=W.ec▸W.I.hon;have b1:k * 400+300 < lid:=Nat.lt_of_le_of_lt (Nat.add_le_add_right (Nat.mul_le_mul_right 400 hk) 300) (by decide);refine aB5 rfl rfl (bC (aF3 (aE (aG (fX rfl kd (k_h A)) (aH (dU (aN6 W K) (aK λq1 m1 l1 k1 g1=>?_)))))));have W1:=W.up l1;have rest:∀m2 x5 x6 x7,Le m m2->Wp (exs sig (run sig (n+8)) (f_law_deed.drop 2) [some (.ref A.p),some (.ref A.pw),some (.int cell),some (.ref A.qr),some (.ref q1),x5,x6,x7]) m2 (bJ4 λx m'=>Out m' A (k+1) C x \/ (x=.tup [.none,.none] /\ ∃t' ls',W9 m' A (k+1) C t' ls')) nox:=by
  intro m2 x5 x6 x7 l2;have W2:=W.up l2;have last:∀m3,Le m m3->Wp (exs sig (run sig (n+8)) (f_law_deed.drop 3) [some (.ref A.p),some (.ref A.pw),some (.int cell),some (.ref A.qr),some (.ref q1),x5,x6,x7]) m3 (bJ4 λx m'=>Out m' A (k+1) C x \/ (x=.tup [.none,.none] /\ ∃t' ls',W9 m' A (k+1) C t' ls')) nox:=λm3 l3=>
   a9 (dY (aE (aC rfl (aE (aC rfl (aE (aC (a:=.int (cell / 4)) rfl (aH (bF (bM5 (cell:=cell / 4) n (W.up l3) K hk) λx m' z=>Or.inl z)))))))))
  have kd2:=W2.H.has (.tail _ (.tail _ kw));have kl2:=W2.H.has (.tail _ (.tail _ K.kl));refine aA9 (aE7 (bH (aC (a:=(cell % 4 == 1)) rfl ?_)))
  cases hz:cell % 4 == 1 with
  |false=>exact fM (last m2 l2)
  |true=>
   refine dQ (bH (cV1 (fX rfl kd2 (k_l A)) kl2 (λx hx m=>rdI x hx m) λm3 l3=>?_));have l23:=l2.trans l3;have W3:=W.up l23;have kd3:=W3.H.has (.tail _ (.tail _ kw));have eb:(A.L.map V.int).isEmpty=A.L.isEmpty:=by cases A.L <;> rfl
   rw[eb]
   cases hL:A.L.isEmpty with
   |true=>exact fM (last m3 l23)
   |false=>
    refine dQ (bH (aG (aT (aR (fX rfl kd3 (k_c A)) rfl (t:=decide (A.c > 1)) rfl)) ?_));by_cases hc:A.c > 1
    ·rw[decide_eq_true hc]
     refine dQ (aC rfl ?_);have ne:0 < A.L.length:=by cases q:A.L with | nil=>rw[q]at hL;(first|(injection hL;done)|(refine aF hL λz1=>?_;clear hL;(first | (injection z1;done) | subst z1 | cases (z1)))|(refine aL5 hL λz1 z2=>?_;clear hL;(first | (injection z1;done) | subst z1 | cases (z1));(first | (injection z2;done) | subst z2 | cases (z2)))|subst hL|refine VR.dInt hL λy_=>?_|cases (hL)) | cons=>exact Nat.succ_pos _
     refine a9 (cV6 (eF (dY (aE (aC rfl (aE (aC rfl (aE (aC (a:=.int (cell / 4)) rfl (aE (aC rfl (aH (bF (cX4 (cell:=cell / 4) (n+3) W3 K hk ne hc) λx m' z=>?_)))))))))))));refine e0a2 z λzz1=>?_;subst zz1;intro z;exact aC rfl (dQ (aC rfl (.inr ⟨rfl,z⟩)))
    ·rw[decide_eq_false hc]
     exact fM (last m3 l23)
 refine aA9 (aE7 (bH (aC (a:=(cell % 4 == 0)) rfl ?_)))
 cases hz:cell % 4 == 0 with
 |false=>exact fM (rest m1 _ _ _ l1)
 |true=>
  refine dQ (bH (cV1 rfl k1 (λx hx m=>rdI x hx m) λm2 l2=>?_));have l12:=l1.trans l2;have W2:=W.up l12;have kt:=l2.has k1;have eb:((sortI (cG A.c A.L)).map V.int).isEmpty=(sortI (cG A.c A.L)).isEmpty:=by cases sortI (cG A.c A.L) <;> rfl
  rw[eb]
  cases hs:(sortI (cG A.c A.L)).isEmpty with
  |true=>exact fM (rest m2 _ _ _ l12)
  |false=>
   refine dQ (aC rfl ?_);have ne:0 < (sortI (cG A.c A.L)).length:=by cases q:sortI (cG A.c A.L)with | nil=>rw[q]at hs;(first|(injection hs;done)|(refine aF hs λz1=>?_;clear hs;(first | (injection z1;done) | subst z1 | cases (z1)))|(refine aL5 hs λz1 z2=>?_;clear hs;(first | (injection z1;done) | subst z1 | cases (z1));(first | (injection z2;done) | subst z2 | cases (z2)))|subst hs|refine VR.dInt hs λy_=>?_|cases (hs)) | cons=>exact Nat.succ_pos _
   have l7:(sortI (cG A.c A.L)).length <= 1000000:=by rw[aC0];exact Nat.le_trans (Nat.le_trans (aS3 A.c A.L) (dB K.c7)) (by decide)
   have kd2:=W2.H.has (.tail _ (.tail _ kw));have kh2:=W2.H.has (.tail _ (.tail _ kh));have kr2:=W2.H.has (.tail _ (.tail _ K.kr));refine e1a2 (bU2 (S:=sig) (F:=run sig (n+8)) (r:=[some (.ref A.p),some (.ref A.pw),some (.int cell),some (.ref A.qr),some (.ref q1),none,none,none]) (a:=.var 4) (e:=.bin .FloorDiv (.var 2) (.cnst (Lt.int 4))) (x:=cell / 4) rfl kt rfl ne l7) λy e5 hy=>?_;have hy:=mem_sortI.mp hy;rw[<- oe]at hy;refine e1a2 (List.mem_map.mp hy) λs hsm es=>?_;have es:s.own=y:=es;subst es;refine e1a1 (List.getElem?_of_mem hsm) λi hi=>?_;refine e1a2 (bT3 (F:=run sig (n+8)) (r:=[some (.ref A.p),some (.ref A.pw),some (.int cell),some (.ref A.qr),some (.ref q1),some (.int s.own),none,none]) (a:=.var 3) (e:=.bin .FloorDiv (.var 2) (.cnst (Lt.int 48))) (x:=cell / 48) kr2 K.rl rfl rfl) λs3 hs3 e6=>?_;have hr:=K.ro s3 hs3;refine bC (aG e5 (bC (aG e6 ?_)));refine e1a2 (Sx.look W2.H W.I.ok.on hi) λpi hp el=>?_;rw[oe]at el;have so:aN (.int s.own) (bN3 (cG A.c A.L) A.ps)=true:=aV _ _ _ _;have sc:=W.I.ok.hc s hsm;refine e1a4 hf.cls λdh hd hx hin hm=>?_;refine bC (bN (aG (dW (fX rfl kd2 (k_h A)) rfl (bP kh2 rfl so el)) ?_));refine e1a2 (Sx.at W2.H hi) λD hD hH=>?_;have eD:pi=D.p:=Option.some.inj (hp.symm.trans hD);refine⟨pi,N.C,_,dh,N.ki+1,rfl,eD▸hH.inst,hd,rfl,hm 0 (by decide),aC rfl ?_⟩;have rl:s3.length <= 64:=bE9 hr;refine Sx.tells (i:=i) (x:=s.call s3) W2.H hi (λD' h1 h2=>?_) λq5 m5 H5 g5=>?_
   ·have:pi=D'.p:=Option.some.inj (hp.symm.trans h1)
    rw[this];exact cA4 hf (n+1) s3 h2 hr rl (by rw[sc.1];exact W.I.ok.c1) (by rw[sc.1];exact W.I.ok.c2) (Nat.lt_of_le_of_lt (Nat.add_le_add sc.2 (by decide:8 <= 300)) b1)
   ·have H5:=Wq.in3 H5
    have I5:=W.I.call hi hr (Nat.le_succ_of_le hk);have e5:({ t with hs:=t.hs.set i (s.call s3).1 }:Tn).tell s.own (s.call s3).2=t.turn i (s.call s3):=by unfold Tn.turn;rw[aH0]
    have wl:(s.call s3).2.length <= 16:=by
     have:=(cI { s with onw:=s.onw+s.cnt } ⟨aC4,s.onw,s3,s.own⟩).2.2.2.2;rw[List.length_cons];exact Nat.succ_le_succ (Nat.le_trans this (Nat.add_le_add_right (dB (show s.cnt <= 12 by rw[sc.1];exact W.I.ok.c2)) 3))
    refine eC (dY (aC rfl (bF (bS6 (n+7) (t0:={ t with hs:=t.hs.set i (s.call s3).1 }) H5 (.tail _ kw) (.head _) ⟨W.ti.gi,W.ti.le⟩ W.ec K.c1 (Int.le_trans K.c7 (by decide)) I5.2 ?_) λa m6 z6=>?_)))
    ·have sl:t.said.length <= k * 400:=W.I.ok.lk.sl
     show t.said.length+ls.length+13 * (s.call s3).2.length < lid;exact Nat.lt_of_le_of_lt (Nat.add_le_add (Nat.add_le_add (Nat.le_trans sl (Nat.mul_le_mul_right 400 hk)) (small W.lb (Nat.le_succ_of_le hk))) (Nat.mul_le_mul_left 13 wl)) (by decide)
    refine e1a3 z6 λls' H6 ti6 ll6=>?_;rw[e5]at H6 ti6;refine e1a1 (Sx.tw H6) λB' hT=>?_;refine a9 (aN9 (aE (aX tf hT rfl rfl rfl (aC rfl (H6.town (λB hB=>bE4 tf n hB W.I.ok hi hr rl b1) λq m7 H7 g=>aE (aC rfl (aH (.inl ⟨q,q5,_,ls',(s.call s3).2,rfl,?_,I5.1,ti6,(bM _ _ _).1.trans W.ec,?_⟩))))))))
    ·rw[show(t.turn i (s.call s3)).hs=t.hs.set i (s.call s3).1 from(bM _ _ _).2.1]
     exact Wq.in3 H7
    ·exact Nat.le_trans ll6 (Nat.le_trans (Nat.add_le_add W.lb (Nat.mul_le_mul_left 12 wl)) (n400 (by decide)))
end
section
variable{v:Nat}{A:Wa}
theorem bE0(n:Nat){ws:List Wo}(kq:m[q]?=some (.list (ws.map Wo.v))):run sig (n+2) 36 [.ref q] m=.ok (.bool true) m:=by
 refine d8 (aB5 rfl rfl (bJ (t:=false) (cO (aT (bU3 (b:=true) rfl ?_))) (eR ws Wo.v (λy_ r' m'=>(∃x,r'=[some (.ref q),x]) /\ m'=m) (aE (aC rfl (aH (fA kq ⟨rfl,⟨⟨none,rfl⟩,rfl⟩,?_,?_,?_⟩)))))))
 ·unfold aB3;dsimp only;rw[kq];rfl
 ·rintro _ r' m' ⟨_,rfl⟩;exact dE kq
 ·rintro w zs r' m' ⟨⟨x,z71⟩,z72⟩;rw[z71,z72]
  refine aC rfl (bJ (t:=false) (cX (bE (x:=false) rfl (bE (x:=false) rfl (bE (x:=false) (cO (aT (bB (x:=.int w.n) rfl (bI bC0 n w.n)))) (bE (x:=false) (cO (aT (bB (x:=.int w.h) rfl (bI bC0 n w.h)))) dJ))))) (cS ⟨⟨_,rfl⟩,rfl⟩))
 ·rintro r' m' ⟨⟨x,rfl⟩,rfl⟩;exact a9 (aC rfl ⟨rfl,rfl⟩)
theorem cU4(x:Int×Lr):Rf (aA3 x):=by
 refine⟨.tuple [.int x.1,.tuple [.int x.2.s,.int x.2.r,x.2.w.d]],λy_=>rfl,?_⟩;show(x.1 == x.1&&((x.2.s == x.2.s&&(x.2.r == x.2.r&&(PyData.eqv x.2.w.d x.2.w.d&&true)))&&true))=true;rw[bD2,beq_self_eq_true,beq_self_eq_true,beq_self_eq_true,decide_eq_true rfl];rfl
theorem eM(ws:List Wo):∀x∈ws.map Wo.v,Rf x:=λx hx=>by
 refine e1a2 (List.mem_map.mp hx) λw y_ zz1=>?_;subst zz1;exact cU3 w
theorem aQ9(l:List (Int×Lr)):∀x∈l.map aA3,Rf x:=λx hx=>by
 refine e1a2 (List.mem_map.mp hx) λw y_ zz1=>?_;subst zz1;exact cU4 w
theorem aR0(l:List (Int×Wo×Wo)):∀x∈aD9 l,Rf x:=λx hx=>by
 refine e1a2 (List.mem_map.mp hx) λw y_ zz1=>?_;subst zz1;exact cU5 w
theorem W9.hou(W:W9 m A k C t ls)(K:Cs A C)(hi:t.hs[i]?=some s):∃D:Hd,Ho m N.C D s /\ ∀(F:Fns) (r:Lo) (a b:CE) (m':MH),Le m m'->ev sig F a r m'=.ok (.ref A.pw) m'->ev sig F b r m'=.ok (.int s.own) m'->ev sig F (.idx (.idx a (.cnst (Lt.str (Str.ofString "houses")))) b) r m'=.ok (.ref D.p) m':=by
 refine e1a1 K.kw λe kw=>?_;refine e1a1 K.kh λeh kh=>?_;have kd:=W.H.has (.tail _ (.tail _ kw));have kh:=W.H.has (.tail _ (.tail _ kh));have oe:t.hs.map (·.own)=cG A.c A.L:=W.ec▸W.I.hon;refine e1a2 (Sx.look W.H W.I.ok.on hi) λpi hp el=>?_;rw[oe]at el;refine e1a2 (Sx.at W.H hi) λD hD hH=>?_;have eD:pi=D.p:=Option.some.inj (hp.symm.trans hD);subst eD;exact⟨D,hH,λF r a b m' l ha hb=>dW (fX ha (l.has kd) (k_h A)) hb (bP (l.has kh) rfl (aV _ _ _ _) el)⟩
theorem cG7{o:CE}{j:Nat}{as:List CE}(hH:Ho m N.C D s)(ho:ev sig F o r m=.ok (.ref D.p) m)(hj:j < 8)(hf2:aL7 j (cZ5 D s)=none)(q:Wp (evs sig F as r) m (λvs m'=>Wp (F (N.ki+1+j) (.ref D.p::vs)) m' Q E) E):Wp (ev sig F (.meth o j as) r) m Q E:=by
 refine e1a4 hf.cls λdh hd hx hin hm=>?_;exact bN (aG ho ⟨D.p,N.C,_,dh,N.ki+1+j,rfl,hH.inst,hd,hf2,hm j hj,q⟩)
theorem bW6(n:Nat){Q:Bool->MH->Prop}{o:CE}{e:Nat}(hH:Ho m N.C D s)(ho:ev sig (run sig (n+1)) o r m=.ok (.ref D.p) m)(kq:m[q]?=some (.dict (aF7 s.rows) e))(rl:s.rows.length < 64)(nd:(s.rows.map (·.1)).Nodup)(k:∀m',Le m m'->Q false m'):Wp (ev sig (run sig (n+1)) (.meth o 5 []) r) m (λy m'=>Wp (aF0 .NotEq (.ref q) y) m' Q E) E:=by
 refine cG7 hH ho (by decide) rfl (aC rfl (bB4 (aJ6 hf n hH rl) λm1 q1 e1 k1 g1 l1=>?_));rw[bW5 nd]at k1;exact aG (dT (cL3 (l1.has kq) k1 (λc=>Nat.not_lt.mpr g1 (c▸aS kq)) rfl (aS0 _ _ _) (aS0 _ _ _) bG7)) (k m1 l1)
theorem bV6(n:Nat){Q:Bool->MH->Prop}{o:CE}(hH:Ho m N.C D s)(ho:ev sig (run sig (n+1)) o r m=.ok (.ref D.p) m)(kq:m[q]?=some (.list (aD9 s.named)))(k:∀m',Le m m'->Q false m'):Wp (ev sig (run sig (n+1)) (.meth o 7 []) r) m (λy m'=>Wp (aF0 .NotEq (.ref q) y) m' Q E) E:=by
 refine cG7 hH ho (by decide) rfl (aC rfl (aG (aY3 hf n hH) ?_));exact aG (dT (bD3 (aR0 s.named) ((Le.app _ _).has kq) bW)) (k _ (.app _ _))
theorem dB9(n:Nat){Q:Bool->MH->Prop}{o c:CE}{j:Int}(hH:Ho m N.C D s)(ho:ev sig (run sig (n+2)) o r m=.ok (.ref D.p) m)(hc:ev sig (run sig (n+2)) c r m=.ok (.int j) m)(hw:s.wrote j=true)(kq:m[q]?=some (.list ((aY7 s.rows j).map Wo.v)))(k:∀m',Le m m'->Q false m'):Wp (ev sig (run sig (n+2)) (.meth o 6 [c]) r) m (λy m'=>Wp (aF0 .NotEq (.ref q) y) m' Q E) E:=by
 refine cG7 hH ho (by decide) rfl (aE (aG hc (aH (aG (aP5 hf n hH hw) ?_))));exact aG (dT (bD3 (eM _) ((Le.app _ _).has kq) bW)) (k _ (.app _ _))
theorem bD8(n:Nat)(H:Sx m N p v ps t u hs B){b:Nat}(O:t.Ok b)(hi:t.hs[i]?=some s)(rl:s.rows.length < 64)(nd:(s.rows.map (·.1)).Nodup)(k:∀q e m',Sx m' N p v ps t u hs ((q,.dict (aF7 s.rows) e)::B)->Le m m'->m.length <= q->Q (.ref q) m'):Wp (run sig (n+3) 29 [.ref p,.int s.own]) m Q E:=by
 refine e1a4 (id H) λP h1 h2 h3 h4=>?_;rw[<- h1];refine bF (bK1 tf n h4.to.full O hi rl nd) λa m' z=>?_;refine e2a4 z λq e eu H' l g=>?_;subst eu;exact k q e m' (H.new l (H'.has (.head _)) g) l g
theorem aT9(h:j∈s.rows.map (·.1)):s.wrote j=true:=by
 refine e1a2 (List.mem_map.mp h) λx hx e=>?_;exact List.any_eq_true.mpr ⟨x,hx,beq_iff_eq.mpr e⟩
theorem In9.own(I:In9 t L k){z:Int}(hz:z∈cG t.cnt L):∃(i:Nat) (s:Hs),t.hs[i]?=some s /\ s.own=z:=by
 rw[<- I.hon]at hz;refine e1a2 (List.mem_map.mp hz) λs q e=>?_;refine e1a1 (List.getElem?_of_mem q) λi hi=>?_;exact⟨i,s,hi,e⟩
theorem cA9(n:Nat){a b c o:CE}{j:Int}{Q:Bool->MH->Prop}(W:W9 m A k C t ls)(hi:t.hs[i]?=some s)(hH:Ho m N.C D s)(ha:ev sig (run sig (n+3)) a r m=.ok (.ref A.p) m)(hb:ev sig (run sig (n+3)) b r m=.ok (.int s.own) m)(hc:∀m',ev sig (run sig (n+3)) c r m'=.ok (.int j) m')(ho:∀m',Le m m'->ev sig (run sig (n+3)) o r m'=.ok (.ref D.p) m')(hw:s.wrote j=true)(z:∀m',Le m m'->Q false m'):
  Wp (evT sig (run sig (n+3)) (.val (.cmp (.meth a 6 [b,c]) [.NotEq] [.meth o 6 [c]])) r) m Q E:=by
 refine e1a1 (Sx.tw W.H) λB' hT=>?_;refine eF (eU (aX tf hT ha rfl rfl (aE (aG hb (aE (aG (hc m) (aH (W.H.ask (λB hB=>aI2 tf n hB W.I.ok hi hw) λq1 m1 H1 l1 g1=>?_))))))));exact dB9 (n+1) (hH.le l1) (ho m1 l1) (hc m1) hw (H1.has (.head _)) λm' l=>aC rfl (z m' (l1.trans l))
theorem bQ4(n:Nat)(W:W9 m A k C t ls)(K:Cs A C)(hk:k <= 63):Wp (run sig (n+4) 43 [.ref A.p,.ref A.pw]) m (λx m'=>x=.bool true /\ Le m m') nox:=by
 refine e1a1 K.kw λe kw=>?_;have kd:=W.H.has (.tail _ (.tail _ kw));have hh:∀z∈sortI (cG A.c A.L),z∈cG A.c A.L:=λz hz=>mem_sortI.mp hz;refine aB5 rfl rfl (bT0 (sortI (cG A.c A.L)) V.int (aE (aF3 (aE (aG (fX rfl kd (k_h A)) (aH (dU (aN6 W K) (aK λq1 m1 l1 k1 g1=>aH (fA k1 ⟨λzs r' m'=>(∀z∈zs,z∈cG A.c A.L) /\ (∃x y z,r'=[some (.ref A.p),some (.ref A.pw),x,y,z]) /\ Le m1 m',rfl,⟨hh,⟨_,_,_,rfl⟩,.refl _⟩,?_,?_,?_⟩)))))))))
 ·rintro zs r' m' ⟨_,_,l⟩;exact dE (l.has k1)
 ·rintro z zs r' m2 ⟨hz,⟨x,y,z',rfl⟩,l2⟩
  have l12:=l1.trans l2;have W2:=W.up l12;refine e2a2 (In9.own W.I (W.ec.symm▸hz z (.head _))) λi s hi es=>?_;rw[<- es];have hsm:=List.mem_of_getElem? hi;have ro:=W.I.ro s hsm;have rl:s.rows.length < 64:=Nat.lt_of_le_of_lt ro.2 (Nat.lt_succ_of_le hk);refine e1a2 (W2.hou K hi) λD hH eD=>?_;refine aC rfl (bC (aG (eD _ _ _ _ _ (.refl _) rfl rfl) ?_));refine bT0 (sortI (sortI (s.rows.map (·.1)))) V.int (aE (aF3 (aE (cG7 hH rfl (by decide) rfl (aC rfl (bB4 (aJ6 hf (n+2) hH rl) λm3 q3 e3 k3 g3 l3=>aH ?_))))));rw[bW5 ro.1]at k3;have es:biV .sorted [.ref q3] m3=alloc (.list ((sortI (sortI (s.rows.map (·.1)))).map V.int)) m3:=by
   unfold biV;dsimp only;rw[k3];dsimp only;unfold aF7;rw[aJ7];dsimp only;rw[if_pos (.inl (by rw[List.length_map,aC0,List.length_map];exact rl)),List.map_id_fun];rfl
  refine dU es (aK λq4 m4 l4 k4 g4=>aH (fA k4 ⟨λzs r' m'=>(∀j∈zs,s.wrote j=true) /\ (∃w,r'=[some (.ref A.p),some (.ref A.pw),some (.int s.own),some (.ref D.p),w]) /\ Le m4 m',rfl,⟨λj hj=>aT9 (mem_sortI.mp (mem_sortI.mp hj)),⟨_,rfl⟩,.refl _⟩,?_,?_,?_⟩))
  ·rintro _ r' m' ⟨_,_,l⟩;exact dE (l.has k4)
  ·rintro j js r' m5 ⟨hj,⟨w,rfl⟩,l5⟩
   have l25:=(l3.trans l4).trans l5;refine aC rfl (aA9 (cA9 n (D:=D) (W2.up l25) hi (hH.le l25) rfl rfl (λy=>rfl) (λy y=>rfl) (hj j (.head _)) λm6 l6=>cS ⟨λi hi=>hj i (.tail _ hi),⟨_,rfl⟩,l5.trans l6⟩))
  ·rintro r' m5 ⟨y_,⟨w,rfl⟩,l5⟩
   have l25:=(l3.trans l4).trans l5;have W5:=W2.up l25;refine e1a1 (Sx.tw W5.H) λB' hT=>?_;refine aA9 (aE7 (bH (eF (eU (aX tf hT rfl rfl rfl (aC rfl (W5.H.ask (λB hB=>aD3 tf n hB W.I.ok hi) λq6 m6 H6 l6 g6=>?_)))))));refine bV6 (n+2) (hH.le (l25.trans l6)) rfl (H6.has (.head _)) λm7 l7=>aC rfl (dQ (bH (eF (eU ?_))));have W7:=W5.up (l6.trans l7);refine e1a1 (Sx.tw W7.H) λB' hT=>?_;refine aX tf hT rfl rfl rfl (aC rfl (bD8 n W7.H W.I.ok hi rl ro.1 λq8 e8 m8 H8 l8 g8=>?_));refine bW6 (n+2) (hH.le (((l25.trans l6).trans l7).trans l8)) rfl (H8.has (.head _)) rl ro.1 λm9 l9=>aC rfl (dQ (aC rfl (cS ⟨λz hz'=>hz z (.tail _ hz'),⟨_,_,_,rfl⟩,?_⟩)));exact(((((l2.trans l25).trans l6).trans l7).trans l8).trans l9)
 ·rintro r' m2 ⟨y_,⟨x,y,z',rfl⟩,l2⟩
  have l12:=l1.trans l2;have W2:=W.up l12;refine e1a1 (Sx.tw W2.H) λB' hT=>?_;refine a9 (eU (aX tf hT rfl rfl rfl (aC rfl (W2.H.ask (λB hB=>aB8 tf (n+2) hB) λq3 m3 H3 l3 g3=>?_))));have W3:=W2.up l3;exact aG (fX rfl (W3.H.has (.tail _ (.tail _ kw))) (k_s A)) (aG (bD3 (eM _) (H3.has (.head _)) (W3.H.has (.tail _ (.head _)))) ⟨rfl,l12.trans l3⟩)
end
theorem Sx.set3{v:Nat}{y:Nat×MObj}(h:Sx m N p v ps t u hs (x::y::(q,o)::B))(o':MObj):Sx (m.set q o') N p v ps t u hs (x::y::(q,o')::B):=
 ((h.perm ((List.Perm.swap _ _ _).trans ((List.Perm.swap _ _ _).cons _))).set o').perm (((List.Perm.swap _ _ _).cons _).trans (.swap _ _ _))
noncomputable def Hl(hl:List V)(C:List (Nat×MObj)):Prop:=∀x∈hl,∃(a b:Nat) (xs:List V),x=.tup [.ref a,.ref b] /\ (a,.list xs)∈C /\ (b,.list xs)∈C /\ ∀y∈xs,Rf y
structure X9(m:MH)(A:Wa)(k:Nat)(C:List (Nat×MObj))(t:Tn)(ls:List (Option Lr))(hl:List V):Prop where
 W:W9 m A k ((A.qd,.list hl)::C) t ls
 K:Cs A C
 h:Hl hl C
section
variable{v:Nat}{A:Wa}
theorem X9.re(X:X9 m A k C t ls hl)(H:Wq m' A t t.hs ls t.said ((A.qd,.list hl)::C)):X9 m' A k C t ls hl:=⟨⟨H,X.W.I,X.W.ti,X.W.ec,X.W.lb⟩,X.K,X.h⟩
theorem X9.up(X:X9 m A k C t ls hl)(l:Le m m'):X9 m' A k C t ls hl:=X.re (X.W.H.up l)
theorem X9.K2(X:X9 m A k C t ls hl):Cs A ((A.qd,.list hl)::C):=X.K.sub λy_ q=>.tail _ q
theorem X9.has(X:X9 m A k C t ls hl)(h:(q,o)∈C):m[q]?=some o:=X.W.H.has (.tail _ (.tail _ (.tail _ h)))
theorem Hl.sub{C':List (Nat×MObj)}(h:Hl hl C)(s:∀x∈C,x∈C'):Hl hl C':=λx hx=>by
 refine e3a4 (h x hx) λa b xs h1 h2 h3 h4=>?_;exact⟨a,b,xs,h1,s _ h2,s _ h3,h4⟩
theorem X9.inn(X:X9 m A k C t ls hl)(H:Sx m' N A.p A.v A.ps t A.u t.hs (x::(A.qe,.list (ls.map lv))::(A.qs,.list (t.said.map Wo.v))::(A.qd,.list hl)::C)):X9 m' A k (x::C) t ls hl:=
 ⟨⟨H.perm (List.perm_middle (l₁:=[(A.qe,MObj.list (ls.map lv)),(A.qs,MObj.list (t.said.map Wo.v)),(A.qd,MObj.list hl)])),X.W.I,X.W.ti,X.W.ec,X.W.lb⟩,X.K.sub λy_ q=>.tail _ q,X.h.sub λy_ q=>.tail _ q⟩
theorem X9.hold{b:CE}{Q:Fl×Lo->MH->Prop}{q1:Nat}(X:X9 m A k C t ls hl)(kq:(q1,.list xs)∈C)(hx:∀y∈xs,Rf y)(hb:hl.length < lid)(ea:∀m',ev sig F a r m'=.ok (.ref A.qd) m')(eb:∀m',ev sig F b r m'=.ok (.ref q1) m')(z:∀q2 m',X9 m' A k ((q2,.list xs)::C) t ls (hl++[.tup [.ref q1,.ref q2]])->Wp (exs sig F ss r) m' Q E):Wp (exs sig F (.exp (.smeth a .append [.tup [b,.bi .list [b]]])::ss) r) m Q E:=by
 have k1:=X.has kq;have el:biV .list [.ref q1] m=alloc (.list xs) m:=by unfold biV;dsimp only;rw[k1]
 refine eC (bV (aG (ea m) ⟨0,aL9 (X.W.H.has (.tail _ (.tail _ (.head _)))),rfl,aE (aN9 (aE (aG (eb m) (aE (aF3 (aE (aG (eb m) (aH (dU el (aK λq2 m1 l1 k2 g2=>aH (aH ?_)))))))))))⟩));have X1:=X.inn (Sx.new X.W.H l1 k2 g2);refine eJ (X1.W.H.has (.tail _ (.tail _ (.head _)))) hb (z q2 _ ⟨⟨Sx.set3 X1.W.H _,X.W.I,X.W.ti,X.W.ec,X.W.lb⟩,X1.K,λx hx'=>?_⟩);rcases List.mem_append.mp hx' with hx' | hx'
 ·exact X1.h x hx'
 ·exact⟨q1,q2,xs,List.mem_singleton.mp hx',.tail _ kq,.head _,hx⟩
theorem bO0(h:Q .none (m.set q (.list [])))(k:m[q]?=some (.list xs)):Wp (cU 0 (.ref q) .clear []) m Q E:=by
 refine aG (m':=m.set q (.list [])) ?_ h;show(match m[q]? with | some (.list xs)=>bK9 q xs .clear [] m | _=>.bad)=_;rw[k];rfl
theorem cC8{d:List (Ky×V)}(h:Q .none (m.set q (.dict [] (e+1))))(k:m[q]?=some (.dict d e))(hi:aF8 d=true):Wp (cU 1 (.ref q) .clear []) m Q E:=by
 refine aG (m':=m.set q (.dict [] (e+1))) ?_ h;show(match m[q]? with | some (.dict kvs e)=>aK7 q kvs e .clear [] m | _=>.bad)=_;rw[k];show(if aF8 d=true then _ else _)=_;rw[if_pos hi]
theorem cG0{e:CE}{Q:Fl×Lo->MH->Prop}(h:Wp (ev sig F e r) m (λx m'=>∃q xs,x=.ref q /\ Sx m' N p v ps t u hs ((q,.list xs)::B)) nox)(k:∀m',Sx m' N p v ps t u hs B->Wp (exs sig F ss r) m' Q E):Wp (exs sig F (.exp (.smeth e .clear [])::ss) r) m Q E:=by
 refine eC (bV (bF h λx m' z=>?_));refine e2a2 z λq xs e H=>?_;have kq:=H.has (.head _);exact⟨0,by rw[e];exact aL9 kq,rfl,aC rfl (by rw[e];exact bO0 (k _ (H.set _).tail) kq)⟩
theorem aU3(n:Nat){j:Int}(H:Sx m N p v ps t u hs B){b:Nat}(O:t.Ok b)(hi:t.hs[i]?=some s)(hw:s.wrote j=false):run sig (n+4) 42 [.ref p,.int s.own,.int j] m=.ok (.bool true) m:=by
 refine e1a1 (Sx.tw H) λB' hT=>?_;refine d8 (aB5 rfl rfl (s_try (eC (aX tf hT rfl rfl rfl (aC rfl (bR1 (aU5 tf n hT O hi (.int j) (by show(!s.wrote j)=true;rw[hw];rfl)) ⟨rfl,aC rfl ⟨rfl,rfl⟩⟩))))))
theorem cI5(l:List (Int×Str×List Wo)):((aF7 l).map λx=>x.1.val)=(sortI (l.map (·.1))).map V.int:=by unfold aF7 tD;rw[List.map_map];rfl
theorem cI3:(look (.int j) (aF7 l)).isSome=decide (j∈l.map (·.1)):=by
 unfold aF7;rw[cP];rw[aT7];exact decide_eq_decide.mpr mem_sortI
theorem cC5(h:j∉s.rows.map (·.1)):s.wrote j=false:=by
 refine Bool.eq_false_iff.mpr λc=>h ?_;refine e1a2 (List.any_eq_true.mp c) λx hx e=>?_;exact List.mem_map.mpr ⟨x,hx,eq_of_beq e⟩
theorem bL4(n:Nat){x7 x8 x9:Option V}{q3 q5:Nat}{Q:Fl×Lo->MH->Prop}(X:X9 m A k C t ls hl)(hi:t.hs[i]?=some s)(hk:k <= 63)(hb:hl.length < lid)(z:∀m' q1 q2,X9 m' A k ((q2,.list (aD9 s.named))::(q1,.list (aD9 s.named))::C) t ls (hl++[.tup [.ref q1,.ref q2]])->∀y7 y8 y9,Q (.next,[some (.ref A.p),some (.ref A.pw),some (.ref A.qd),some (.ref q3),some (.ref A.qe),some (.ref q5),some (.int s.own),y7,y8,y9]) m'):
  Wp (exs sig (run sig (n+4)) [
  (.asg (.one (.one 7)) (.meth (.var 0) 5 [(.var 6)])),
  (.asg (.one (.one 8)) (.meth (.var 0) 7 [(.var 6)])),
  (.ite (.all false [(.val (.cmp (.var 7) [.NotEq] [(.meth (.idx (.idx (.var 1) (.cnst (Lt.str (Str.ofString "houses")))) (.var 6)) 5 [])])),(.val (.cmp (.var 8) [.NotEq] [(.meth (.idx (.idx (.var 1) (.cnst (Lt.str (Str.ofString "houses")))) (.var 6)) 7 [])]))]) [
   (.ret (.cnst (Lt.bool false)))] []),
  (.exp (.smeth (.var 2) .append [(.tup [(.var 8),(.bi .list [(.var 8)])])])),
  (.for_ .range (.one 9) [(.cnst (Lt.int 3))] [
   (.ite (.all true [(.val (.cmp (.var 9) [.NotIn] [(.var 7)])),(.not (.val (.call 42 [(.var 0),(.var 6),(.var 9)])))]) [
    (.ret (.cnst (Lt.bool false)))] [])]),
  (.for_ .expr (.one 9) [(.var 7)] [
   (.ite (.val (.cmp (.meth (.var 0) 6 [(.var 6),(.var 9)]) [.NotEq] [(.meth (.idx (.idx (.var 1) (.cnst (Lt.str (Str.ofString "houses")))) (.var 6)) 6 [(.var 9)])])) [
    (.ret (.cnst (Lt.bool false)))] []),
   (.exp (.smeth (.meth (.var 0) 6 [(.var 6),(.var 9)]) .clear []))]),
  (.exp (.smeth (.var 7) .clear [])),
  (.exp (.smeth (.meth (.var 0) 7 [(.var 6)]) .clear []))] [some (.ref A.p),some (.ref A.pw),some (.ref A.qd),some (.ref q3),some (.ref A.qe),some (.ref q5),some (.int s.own),x7,x8,x9]) m Q nox:=by
 have hsm:=List.mem_of_getElem? hi;have ro:=X.W.I.ro s hsm;have rl:s.rows.length < 64:=Nat.lt_of_le_of_lt ro.2 (Nat.lt_succ_of_le hk);refine e1a1 (Sx.tw X.W.H) λB' hT=>?_;refine bC (aX tf hT rfl rfl rfl (aC rfl (bD8 (n+1) X.W.H X.W.I.ok hi rl ro.1 λq7 e7 m1 H1 l1 g1=>?_)));have X1:=X.inn H1;refine e1a1 (Sx.tw X1.W.H) λB' hT=>?_;refine bC (aX tf hT rfl rfl rfl (aC rfl (X1.W.H.ask (λB hB=>aD3 tf (n+1) hB X.W.I.ok hi) λq8 m2 H2 l2 g2=>?_)));have X2:=X1.inn H2;refine e1a2 (X2.W.hou X2.K2 hi) λD hH eD=>?_;refine aA9 (aE7 (bH (eF (eU (aC rfl (bW6 (n+3) hH (eD _ _ _ _ _ (.refl _) rfl rfl) (X2.has (.tail _ (.head _))) rl ro.1 λm3 l3=>aC rfl (dQ ?_)))))));refine bH (eF (eU (aC rfl (bV6 (n+3) (hH.le l3) (eD _ _ _ _ _ l3 rfl rfl) (l3.has (X2.has (.head _))) λm4 l4=>aC rfl (dQ (aC rfl ?_))))));have X4:=X2.up (l3.trans l4);refine X4.hold (.head _) (aR0 s.named) hb (λy=>rfl) (λy=>rfl) λq9 m5 X5=>?_;have k7:∀{m'},X9 m' A k ((q9,.list (aD9 s.named))::(q8,.list (aD9 s.named))::(q7,.dict (aF7 s.rows) e7)::C) t ls (hl++[.tup [.ref q8,.ref q9]])->m'[q7]?=some (.dict (aF7 s.rows) e7):=λX=>X.has (.tail _ (.tail _ (.head _)));refine eR (List.range 3) (λ(j:Nat)=>V.int (0+(j:Int))) (λy_ r' m'=>(∃x,r'=[some (.ref A.p),some (.ref A.pw),some (.ref A.qd),some (.ref q3),some (.ref A.qe),some (.ref q5),some (.int s.own),some (.ref q7),some (.ref q8),x]) /\ X9 m' A k ((q9,.list (aD9 s.named))::(q8,.list (aD9 s.named))::(q7,.dict (aF7 s.rows) e7)::C) t ls (hl++[.tup [.ref q8,.ref q9]])) (aE (aC rfl (aH (aG (aL8 (n:=3) (by decide)) ⟨rfl,⟨⟨_,rfl⟩,X5⟩,λy_ y_ y_ y_=>rfl,?_,?_⟩))))
 ·rintro j js r' m6 ⟨⟨x,rfl⟩,X6⟩
  have en:aF0 .NotIn (.int (0+(j:Int))) (.ref q7) m6=.ok (!decide ((0+(j:Int))∈s.rows.map (·.1))) m6:=by
   show Res.bind (inV (.int (0+(j:Int))) (.ref q7) m6) _=_;rw[aU (k7 X6) rfl (aV _ _ _ _),cI3];rfl
  refine aC rfl (aA9 (aE7 (bH (aG (aT (aR rfl rfl en)) ?_))));by_cases hw:(0+(j:Int))∈s.rows.map (·.1)
  ·rw[decide_eq_true hw]
   exact fM (cS ⟨⟨_,rfl⟩,X6⟩)
  ·rw[decide_eq_false hw]
   exact dQ (bH (aG (cO (aT (aB0 (vs:=[.ref A.p,.int s.own,.int (0+(j:Int))]) rfl (aU3 n X6.W.H X.W.I.ok hi (cC5 hw))))) (fM (cS ⟨⟨_,rfl⟩,X6⟩))))
 rintro r' m6 ⟨⟨x,rfl⟩,X6⟩;refine eR (sortI (s.rows.map (·.1))) V.int (λzs r' m'=>(∀j∈zs,s.wrote j=true) /\ (∃x,r'=[some (.ref A.p),some (.ref A.pw),some (.ref A.qd),some (.ref q3),some (.ref A.qe),some (.ref q5),some (.int s.own),some (.ref q7),some (.ref q8),x]) /\ X9 m' A k ((q9,.list (aD9 s.named))::(q8,.list (aD9 s.named))::(q7,.dict (aF7 s.rows) e7)::C) t ls (hl++[.tup [.ref q8,.ref q9]])) (aE (aC rfl (aH (aG (aQ3 (k7 X6)) ⟨cI5 s.rows,⟨λj hj=>aT9 (mem_sortI.mp hj),⟨_,rfl⟩,X6⟩,?_,?_,?_⟩))))
 ·rintro zs r' m' ⟨_,_,X⟩;exact bA2 (k7 X)
 ·rintro j js r' m7 ⟨hj,⟨x,rfl⟩,X7⟩
  refine e1a2 (X7.W.hou X7.K2 hi) λD hH eD=>?_;refine aC rfl (aA9 (cA9 (n+1) (D:=D) X7.W hi hH rfl rfl (λy=>rfl) (λm' l=>eD _ _ _ _ _ l rfl rfl) (hj j (.head _)) λm8 l8=>?_));have X8:=X7.up l8;refine e1a1 (Sx.tw X8.W.H) λB' hT=>?_;exact cG0 (aX tf hT rfl rfl rfl (aC rfl (X8.W.H.ask (λB hB=>aI2 tf (n+1) hB X.W.I.ok hi (hj j (.head _))) λq m' H y_ y_=>⟨q,_,rfl,H⟩))) λm9 H9=>cS ⟨λi hi=>hj i (.tail _ hi),⟨_,rfl⟩,X8.re H9⟩
 ·rintro r' m7 ⟨y_,⟨x,rfl⟩,X7⟩
  refine eC (bV (aC rfl ⟨1,dG4 (k7 X7),rfl,aC rfl (cC8 ?_ (k7 X7) (aS0 _ _ _))⟩));have H8:=((X7.W.H.perm (List.perm_middle (l₁:=[(A.qe,MObj.list (ls.map lv)),(A.qs,MObj.list (t.said.map Wo.v)),(A.qd,MObj.list (hl++[.tup [.ref q8,.ref q9]])),(q9,MObj.list (aD9 s.named)),(q8,MObj.list (aD9 s.named))])).symm).set (.dict [] (e7+1))).tail;have X8:X9 _ A k ((q9,.list (aD9 s.named))::(q8,.list (aD9 s.named))::C) t ls (hl++[.tup [.ref q8,.ref q9]]):=⟨⟨H8,X.W.I,X.W.ti,X.W.ec,X.W.lb⟩,X.K.sub λy_ q=>.tail _ (.tail _ q),λx hx=>?_⟩
  ·refine e1a1 (Sx.tw X8.W.H) λB' hT=>?_
   exact cG0 (aX tf hT rfl rfl rfl (aC rfl (X8.W.H.ask (λB hB=>aD3 tf (n+1) hB X.W.I.ok hi) λq m' H y_ y_=>⟨q,_,rfl,H⟩))) λm9 H9=>cS (z m9 q8 q9 (X8.re H9) _ _ _)
  ·rcases List.mem_append.mp hx with hx | hx
   ·exact X.h.sub (λy_ q=>.tail _ (.tail _ q)) x hx
   ·exact⟨q8,q9,_,List.mem_singleton.mp hx,.tail _ (.head _),.head _,aR0 s.named⟩
end
inductive GI(A:Wa)(k:Nat)(C:List (Nat×MObj))(t:Tn)(ls:List (Option Lr))(h0 q3 q5:Nat)(zs:List Int)(r:Lo)(m':MH):Prop
 |mk (a:List Int) (C':List (Nat×MObj)) (hl:List V) (y6 y7 y8 y9:Option V) (e:cG A.c A.L=a++zs) (er:r=[some (.ref A.p),some (.ref A.pw),some (.ref A.qd),some (.ref q3),some (.ref A.qe),some (.ref q5),y6,y7,y8,y9])
   (X:X9 m' A k C' t ls hl) (ll:hl.length <= h0+a.length) (sub:∀x∈C,x∈C')
section
variable{v:Nat}{A:Wa}
theorem cL4:((List.range ls.length).filter (isL ls)).map (λ(j:Nat)=>V.tup [.int (0+(j:Int)),lv (some (gL ls j))])=(cC2 ls).map aA3:=by
 unfold cC2;rw[List.map_map];exact List.map_congr_left λj y_=>by rw[Int.zero_add];rfl
theorem cZ2(n:Nat)(X:X9 m A k C t ls hl)(hk:k <= 63)(hb:hl.length+12 < lid):
  Wp (run sig (n+5) 44 [.ref A.p,.ref A.pw,.ref A.qd]) m (λx m'=>x=.bool true /\ ∃C' hl',X9 m' A k C' t ls hl' /\ hl'.length <= hl.length+9 /\ ∀x∈C,x∈C') nox:=by
 refine e1a1 X.K.kw λe kw=>?_;refine e1a1 X.K.kh λeh kh=>?_;have sm:ls.length <= 40000:=small X.W.lb (Nat.le_trans hk (by decide));have b4:k * 400 < lid:=Nat.lt_of_le_of_lt (Nat.mul_le_mul_right 400 hk) (by decide);refine e1a1 (Sx.tw X.W.H) λB' hT=>?_;refine aB5 rfl rfl (bC (aX tf hT rfl rfl rfl (aC rfl (X.W.H.ask (λB hB=>aQ1 tf (n+2) hB X.W.I.ok b4) λq3 m1 H1 l1 g1=>?_))));have X1:=X.inn H1;have kd1:=X1.has (.tail _ kw);have ke1:=X1.W.H.has (.head _);refine bC (aG (fX rfl kd1 (k_e A)) ?_);have eL:∀(x0 x1 x2 x3:Option V) (x5:Lo),ev sig (run sig (n+4)) (.bi .len [(.var 4)]) (x0::x1::x2::x3::some (.ref A.qe)::x5) m1=.ok (.int (ls.length:Int)) m1:=λx0 x1 x2 x3 x5=>(aI9 rfl ke1).trans (by rw[List.length_map]);refine aA9 (eF (eU (aC rfl (aD7 (List.range ls.length) (λ(j:Nat)=>V.int (0+(j:Int))) (λ(j:Nat)=>V.tup [.int (0+(j:Int)),lv (some (gL ls j))]) (isL ls) (λm'=>m'=m1) (aE (aG (eL _ _ _ _ _) (aH (aG (aL8 (by lia)) ⟨by rw[Int.toNat_natCast],rfl,λy_ y_=>rfl,?_,?_,?_⟩))))))))
 ·intro j hj m2 em
  rw[em];have jl:=List.mem_range.mp hj;have ej:=List.getElem?_eq_getElem jl;refine aC rfl (aE2 (aG (aT (aR (dW rfl rfl (bN2 ke1 (cI2 ej) (w60 (Nat.lt_of_lt_of_le jl sm)))) rfl (cO5 _ _))) ⟨(bX5 ej).symm,?_⟩))
  cases hz:(ls[j]).isSome with
  |false=>exact fM rfl
  |true=>
   have ej:=bH2 ((bX5 ej).trans hz);exact dQ (aG (bT9 (bT rfl (bT (dW rfl rfl (bN2 ke1 (cI2 ej) (w60 (Nat.lt_of_lt_of_le jl sm)))) rfl))) ⟨rfl,rfl⟩)
 ·rw[List.length_range];exact Nat.le_trans sm (by decide)
 intro q2 m2' m2 em l2 k2 g2;rw[em]at l2 g2;rw[cL4]at k2;have X2:=X1.up l2;have k3:=X2.has (.head _);have k3':m2[q3]?=some (.list ((cC2 ls).map aA3)):=by rw[<- X.W.ti.le];exact k3
 refine aG (dT (bD3 (aQ9 _) k3' k2)) (aC rfl ?_);refine e1a1 (Sx.tw X2.W.H) λB' hT=>?_;refine bC (aX tf hT rfl rfl rfl (aC rfl (X2.W.H.ask (λB hB=>aB8 tf (n+3) hB) λq5 m3 H3 l3 g3=>?_)));have X3:=X2.inn H3;have k5:=X3.has (.head _);refine bJ (t:=false) (cX (bE (x:=false) (cO (aT (bU3 (b:=true) rfl ?_))) (bE (x:=false) (cO (aT (bB rfl (bE0 (n+2) k5)))) (bE (x:=false) (aT (aR rfl (fX rfl (X3.has (.tail _ (.tail _ kw))) (k_s A)) (dT (bD3 (eM _) k5 (X3.W.H.has (.tail _ (.head _))))))) dJ)))) ?_
 ·unfold aB3;dsimp only;rw[X3.has (.tail _ (.head _))];rfl
 refine e1a1 (Sx.tw X3.W.H) λB' hT=>?_;refine cG0 (aX tf hT rfl rfl rfl (aC rfl (X3.W.H.ask (λB hB=>aQ1 tf (n+2) hB X.W.I.ok b4) λq m' H y_ y_=>⟨q,_,rfl,H⟩))) λm4 H4=>?_;have X4:=X3.re H4;refine e1a1 (Sx.tw X4.W.H) λB' hT=>?_;refine cG0 (aX tf hT rfl rfl rfl (aC rfl (X4.W.H.ask (λB hB=>aB8 tf (n+3) hB) λq m' H y_ y_=>⟨q,_,rfl,H⟩))) λm5 H5=>?_;have X5:=X4.re H5;refine X5.hold (.tail _ (.head _)) (aQ9 _) (Nat.lt_of_le_of_lt (Nat.le_add_right _ 12) hb) (λy=>rfl) (λy=>rfl) λq6 m6 X6=>?_;refine X6.hold (.tail _ (.head _)) (eM _) (by rw[List.length_append];exact Nat.lt_of_le_of_lt (Nat.add_le_add_left (by decide:1 <= 12) _) hb) (λy=>rfl) (λy=>rfl) λq7 m7 X7=>?_;have sub:∀x∈C,x∈(q7,MObj.list (t.said.map Wo.v))::(q6,MObj.list (t.lets.map aA3))::(q5,MObj.list (t.said.map Wo.v))::(q3,MObj.list (t.lets.map aA3))::C:=λx hx=>.tail _ (.tail _ (.tail _ (.tail _ hx)));have oe:t.hs.map (·.own)=cG A.c A.L:=X.W.ec▸X.W.I.hon;have pl:A.ps.length=(cG A.c A.L).length:=by rw[<- oe,List.length_map];exact Sx.plen X.W.H
 have hn:(cG A.c A.L).length <= 7:=Nat.le_trans (aS3 A.c A.L) (dB X.K.c7);have ev7:((bN3 (cG A.c A.L) A.ps).map λx=>x.1.val)=(cG A.c A.L).map V.int:=by
  rw[List.map_map];refine Eq.trans ?_ (congrArg (List.map V.int) (aR8 pl));rw[List.map_map];rfl
 refine eR (cG A.c A.L) V.int (GI A k C t ls (hl.length+2) q3 q5) (aE (aG (fX rfl (X7.has (sub _ kw)) (k_h A)) (aH (aG (aQ3 (X7.has (sub _ kh))) ⟨ev7,⟨[],_,_,_,_,_,_,rfl,rfl,X7,by rw[List.length_append,List.length_append];exact Nat.le_refl _,sub⟩,?_,?_,?_⟩))))
 ·rintro zs r m' ⟨a,C',hl',y6,y7,y8,y9,e1,er,X',ll,sub⟩
  exact bA2 (X'.has (sub _ kh))
 ·rintro z zs r m8 ⟨a,C',hl',y6,y7,y8,y9,e1,er,X',ll,sub⟩
  rw[er];have al:a.length < 7:=by
   have:=congrArg List.length e1;rw[List.length_append,List.length_cons]at this;exact Nat.lt_of_lt_of_le (Nat.lt_of_lt_of_eq (Nat.lt_add_of_pos_right (Nat.succ_pos _)) this.symm) hn
  refine e2a2 (In9.own X.W.I (z:=z) (by rw[X.W.ec,e1];exact List.mem_append_right _ (.head _))) λi s hi es=>?_;subst es;refine aC rfl (bL4 n (q3:=q3) (q5:=q5) X' hi hk (Nat.lt_of_le_of_lt (Nat.le_trans ll (Nat.le_trans (Nat.add_le_add_left (Nat.le_of_lt al) _) (Nat.add_le_add_left (by decide:2+7 <= 12) hl.length))) hb) λm9 q1 q2 X9' y7 y8 y9=>⟨a++[s.own],_,_,_,_,_,_,by rw[e1,List.append_assoc];rfl,rfl,X9',?_,λx hx=>.tail _ (.tail _ (sub x hx))⟩);rw[List.length_append,List.length_append];exact Nat.succ_le_succ ll
 ·rintro r m8 ⟨a,C',hl',y6,y7,y8,y9,e1,er,X',ll,sub⟩
  rw[List.append_nil]at e1;exact a9 (aC rfl ⟨rfl,C',hl',X',by rw[<- e1]at ll;lia,sub⟩)
end
section
variable{v:Nat}
theorem newT(n:Nat){c:Int}{L:List Int}(kl:m[q]?=some (.list (L.map V.int)))(hB:∀x∈B,m[x.1]?=some x.2)(c1:1 <= c)(c2:c <= 12)(hL:∀x∈L,0 <= x /\ x < c)(nd:L.Nodup)(k:∀p m',Tw m' N p (Tn.new c L) B->Q (.ref p) m'):
  ∃d j,sig.cls[11]?=some d /\ d.exc=false /\ d.init=some j /\ Wp (run sig (n+4) j (.ref m.length::[.int c,.ref q])) (m++[.inst 11 []]) (λx m''=>x=.none /\ Q (.ref m.length) m'') E:=by
 refine e1a4 tf.town λd h1 h2 h3 y_=>?_;refine⟨d,N.ki+13,h1,h2,h3,?_⟩;have l2:Le m (m++[.inst (N.C+2) []]):=.app _ _;refine wp_mono (bF (cF0 tf n (B:=B) (p:=m.length) (q:=q) bW (λx hx=>⟨Nat.ne_of_lt (aS (hB x hx)),l2.has (hB x hx)⟩) (l2.has kl) c1 c2 hL nd) λu m' z=>z) (λu m' z=>⟨z.1,k _ _ z.2⟩) λy_ y_ z=>z
theorem bU7(n:Nat){c:Int}{L:List Int}{as:List CE}(c1:1 <= c)(c2:c <= 12)(hL:∀x∈L,0 <= x /\ x < c)(nd:L.Nodup)(h:Wp (evs sig (run sig (n+4)) as r) m (λvs m'=>∃q B,vs=[.int c,.ref q] /\ m'[q]?=some (.list (L.map V.int)) /\ (∀x∈B,m'[x.1]?=some x.2) /\ ∀p m'',Tw m'' N p (Tn.new c L) B->Q (.ref p) m'') E):Wp (ev sig (run sig (n+4)) (.new 11 as) r) m Q E:=by
 refine bF6 (wp_mono h (λvs m' z=>?_) λy_ y_ q=>q);refine e2a4 z λq B e kl hB k=>?_;subst e;exact newT n kl hB c1 c2 hL nd k
theorem cV7{vs:List CE}(h:Wp (evs sig F vs r) m (λus m'=>Wp (alloc (.dict ((ks.map Ky.str).zip us) 0)) m' Q E) E):Wp (ev sig F (.dict ks vs) r) m Q E:=aJ (x:=evs sig F vs r) h
noncomputable def cV9(x:Int×Nat):V:=.tup [.int x.1,.ref x.2]
theorem bF8:∀l:List (Int×Nat),aO0 (l.map cV9)=some (l.map λx=>(x.1,V.ref x.2))
 |[]=>rfl
 |x::l=>aZ2 rfl (bF8 l)
theorem dB2{os:List Int}(h:m[q]?=some (.list ((os.zip ps).map cV9)))(hp:ps.length=os.length)(nd:os.Nodup):biV .dict [.ref q] m=alloc (.dict (bN3 os ps) 0) m:=by
 unfold biV;dsimp only;rw[h];dsimp only;rw[bF8];dsimp only;rw[if_pos (by rw[List.map_map];exact(congrArg List.Nodup (aR8 hp)).mpr nd),List.map_map];rfl
inductive HI(c:Int)(L:List Int)(p v:Nat)(t:Tn)(B:List (Nat×MObj))(zs l:List V)(m':MH):Prop
 |mk (a js:List Nat) (ps:List Nat) (e:List.range c.toNat=a++js) (ez:zs=js.map λ(j:Nat)=>V.int (0+(j:Int))) (el:l=((aL6 L a).zip ps).map cV9) (hp:ps.length=(aL6 L a).length) (H:Sx m' N p v ps t none ((aL6 L a).map (Hs.new c)) B)
theorem bX8(n:Nat){c:Int}{L:List Int}{ql:Nat}{x0 x1 x4 x5 x6 x7 x8 x9 x10 x11 x12 x13:Option V}(H:Sx m N p v [] t none [] B)(kl:(ql,.list (L.map V.int))∈B)(c1:1 <= c)(c2:c <= 12)(k:∀q m' ps,Sx m' N p v ps t none ((cG c L).map (Hs.new c)) ((q,.dict (bN3 (cG c L) ps) 0)::B)->Q (.ref q) m'):
  Wp (ev sig (run sig (n+3)) (.bi .dict [(.comp (.tup [(.var 14),(.new 9 [(.var 2),(.var 14)])]) (.one 14) 1 .range [(.var 2)] [(.val (.cmp (.var 14) [.NotIn] [(.var 3)]))])]) [x0,x1,some (.int c),some (.ref ql),x4,x5,x6,x7,x8,x9,x10,x11,x12,x13]) m Q E:=by
 refine aF3 (aE (cV8 (aE (aC rfl (aH (aG (aL8 (n:=c) (by lia)) ⟨HI c L p v t B,⟨[],_,[],rfl,rfl,rfl,rfl,H⟩,λy_ y_ y_ y_=>rfl,?_,?_⟩))))))
 ·rintro x xs l m1 ⟨a,js,ps,e,ez,el,hp,H1⟩
  cases js with
  |nil=>injection ez
  |cons j js=>
   refine e0a2 (List.cons.inj ez) λzz1=>?_;subst zz1;intro zz2;subst zz2;have ha:=fR L a j;have ec:List.range c.toNat=(a++[j])++js:=by rw[e,List.append_assoc];rfl
   have jc:(j:Int) < c:=by
    have:j∈List.range c.toNat:=by rw[e];exact List.mem_append_right _ (.head _)
    exact Int.lt_toNat.mp (List.mem_range.mp this)
   refine aC rfl (aE2 (aG (aT (aR rfl rfl (bK4 (H1.has kl) (0+(j:Int))))) ?_));rw[Int.zero_add];rw[aT7]at ha;by_cases z:(j:Int)∈L
   ·rw[decide_eq_true z]
    rw[if_pos (decide_eq_true z)]at ha;exact fM ⟨a++[j],js,ps,ec,rfl,by rw[ha];exact el,by rw[ha];exact hp,by rw[ha];exact H1⟩
   ·rw[decide_eq_false z]
    rw[if_neg (by rw[decide_eq_false z];exact Bool.false_ne_true)]at ha;refine dQ (aN9 (aE (aC (a:=.int (0+(j:Int))) rfl (aE (bF6 (aC (a:=[.int c,.int (0+(j:Int))]) rfl ?_))))));refine e1a4 hf.cls λdh hd hx hin hm=>?_;have l2:Le m1 (m1++[.inst 9 []]):=.app _ _;have I0:=bX7 hf n (m:=m1++[.inst 9 []]) (p:=m1.length) (c:=c) (o:=0+(j:Int)) c1 c2 (by rw[Int.zero_add];exact Int.natCast_nonneg j) (by rw[Int.zero_add];exact jc) bW;refine⟨dh,N.ki,hd,hx,hin,bF I0 λu m2 z=>⟨z.1,aH ?_⟩⟩;obtain⟨y_,D,eD,hH,M,hy⟩:=z;have l3:Le m1 m2:=⟨Nat.le_trans l2.1 M.1,λb hb=>by
     rw[M.2 b (Nat.lt_of_lt_of_le hb l2.1) (λq=>Nat.ne_of_lt hb (List.mem_singleton.mp q))];exact l2.2 b hb⟩
    have H2:=H1.addH l3 hH λy q=>(hy y q).elim (λe=>Nat.le_of_eq e.symm) λe=>Nat.le_trans l2.1 e;rw[eD,Int.zero_add]at H2;refine⟨a++[j],js,ps++[m1.length],ec,rfl,?_,?_,?_⟩
    ·rw[ha,el,List.zip_append hp.symm,List.map_append,Int.zero_add];rfl
    ·rw[ha,List.length_append,List.length_append,hp];rfl
    ·rw[ha,List.map_append];exact H2
 ·rintro l m1 ⟨a,js,ps,e,ez,el,hp,H1⟩
  cases js with
  |cons j js=>injection ez
  |nil=>
   rw[List.append_nil]at e;subst e;refine⟨?_,λq1 m2 l2 k2 g2=>aH ?_⟩
   ·rw[el,List.length_map,List.length_zip]
    exact Nat.le_trans (Nat.min_le_left _ _) (Nat.le_trans (aS3 c L) (Nat.le_trans (dB c2) (by decide)))
   ·rw[el]at k2
    refine dU (dB2 k2 hp (cP1 c L)) (aK λq3 m3 l3 k3 g3=>k q3 m3 ps (H1.up l2 |>.new l3 k3 g3))
end
inductive MI(ns:List Int)(f:Int)(A:Wa)(q5 qf:Nat)(C0:List (Nat×MObj))(zs:List Int)(r:Lo)(m':MH):Prop
 |mk (k:Nat) (C:List (Nat×MObj)) (t:Tn) (ls:List (Option Lr)) (hl:List V) (x11 x12 x13:Option V) (er:r=[some (.scr ns),some (.int f),some (.int A.c),some (.ref A.ql),some (.ref A.qr),some (.ref q5),some (.ref A.p),some (.ref A.pw),some (.ref A.qd),some (.ref A.v),some (.ref qf),x11,x12,x13])
   (X:X9 m' A k C t ls hl) (kl:k+zs.length <= 30) (ll:hl.length <= k * 10) (sub:∀x∈C0,x∈C)
section
variable{f:Int}{A:Wa}{v:Nat}{q5 qf:Nat}{C0:List (Nat×MObj)}
theorem aU4(n:Nat){z:Int}{zs:List Int}{x12 x13:Option V}(X:X9 m A k C t ls hl)(kl:k+zs.length <= 30)(ll:hl.length+9 <= k * 10)(sub:∀x∈C0,x∈C):
  Wp (exs sig (run sig (n+9)) [
  (.ite (.all true [(.val (.cmp (.bin .Mod (.bin .FloorDiv (.var 11) (.cnst (Lt.int 5))) (.cnst (Lt.int 2))) [.Eq] [(.cnst (Lt.int 1))])),(.not (.val (.call 43 [(.var 6),(.var 7)])))]) [
   (.ret (.cnst (Lt.bool false)))] []),
  (.ite (.not (.val (.call 44 [(.var 6),(.var 7),(.var 8)]))) [
   (.ret (.cnst (Lt.bool false)))] [])] [some (.scr ns),some (.int f),some (.int A.c),some (.ref A.ql),some (.ref A.qr),some (.ref q5),some (.ref A.p),some (.ref A.pw),some (.ref A.qd),some (.ref A.v),some (.ref qf),some (.int z),x12,x13]) m (λp_1 m'=>match p_1.1 with | .ret v=>False | _=>MI ns f A q5 qf C0 zs p_1.2 m') nox:=by
 have k30:=Nat.le_of_add_right_le kl;have last:∀m2,X9 m2 A k C t ls hl->Wp (exs sig (run sig (n+9)) [
  (.ite (.not (.val (.call 44 [(.var 6),(.var 7),(.var 8)]))) [
   (.ret (.cnst (Lt.bool false)))] [])] [some (.scr ns),some (.int f),some (.int A.c),some (.ref A.ql),some (.ref A.qr),some (.ref q5),some (.ref A.p),some (.ref A.pw),some (.ref A.qd),some (.ref A.v),some (.ref qf),some (.int z),x12,x13]) m2 (λp_1 m'=>match p_1.1 with | .ret v=>False | _=>MI ns f A q5 qf C0 zs p_1.2 m') nox:=by
  intro m2 X2;refine aA9 (cN6 (eF (dY (aC rfl (bF (cZ2 (n+4) X2 (Nat.le_trans k30 (by decide)) (Nat.lt_of_le_of_lt (Nat.add_le_add_right (Nat.le_trans (Nat.le_of_add_right_le ll) (Nat.mul_le_mul_right 10 k30)) 12) (by decide))) λx m3 z3=>?_)))));obtain⟨z71,C',hl',X3,l3,s3⟩:=z3;subst z71;exact aC rfl (cS ⟨k,C',t,ls,hl',_,_,_,rfl,X3,kl,Nat.le_trans l3 ll,λx hx=>s3 x (sub x hx)⟩)
 refine aA9 (aE7 (bH (aC (a:=(z / 5 % 2 == 1)) rfl ?_)))
 cases hz:z / 5 % 2 == 1 with
 |false=>exact fM (last m X)
 |true=>
  refine dQ (bH (cN6 (eF (dY (aC rfl (bF (bQ4 (n+5) X.W X.K2 (Nat.le_trans k30 (by decide))) λx m2 z2=>?_))))));refine e0a2 z2 λzz1=>?_;subst zz1;intro l2;exact aC rfl (fM (last m2 (X.up l2)))
theorem dG6{a:CB}{as:List CB}(ha:evT sig F a r m=.ok false m):bH6 sig F true (a::as) r m=.ok false m:=by
 show Res.bind (evT sig F a r m) _=_;rw[ha];rfl
theorem turn9(n:Nat){z:Int}{zs:List Int}{r:Lo}(J:MI ns f A q5 qf C0 (z::zs) r m):
  Wp (aI4 (.one 11) (.int z) r) m (λr' m'=>Wp (exs sig (run sig (n+9)) [
  (.asg (.one (.many [12,13])) (.call 41 [(.var 6),(.var 7),(.bi .abs [(.var 11)]),(.var 4)])),
  (.ite (.all false [(.val (.cmp (.var 12) [.NotEq] [(.var 13)])),(.all true [(.val (.cmp (.var 13) [.IsNot] [(.cnst Lt.none)])),(.not (.val (.call 36 [(.var 12)])))])]) [
   (.ret (.cnst (Lt.bool false)))] []),
  (.ite (.val (.cmp (.var 13) [.IsNot] [(.cnst Lt.none)])) [
   (.exp (.smeth (.var 8) .append [(.tup [(.var 12),(.bi .list [(.var 12)])])]))] []),
  (.ite (.all true [(.val (.cmp (.bin .Mod (.bin .FloorDiv (.var 11) (.cnst (Lt.int 5))) (.cnst (Lt.int 2))) [.Eq] [(.cnst (Lt.int 1))])),(.not (.val (.call 43 [(.var 6),(.var 7)])))]) [
   (.ret (.cnst (Lt.bool false)))] []),
  (.ite (.not (.val (.call 44 [(.var 6),(.var 7),(.var 8)]))) [
   (.ret (.cnst (Lt.bool false)))] [])] r') m' (λp_1 m'=>match p_1.1 with | .ret v=>False | _=>MI ns f A q5 qf C0 zs p_1.2 m') nox) nox:=by
 obtain⟨k,C,t,ls,hl,x11,x12,x13,er,X,kl,ll,sub⟩:=J;rw[er];rw[List.length_cons]at kl;refine aC rfl (cN3 (dY (aE (aC rfl (aE (aC rfl (aE (aC (a:=.int (if z < 0 then -z else z)) rfl (aE (aC rfl (aH (bF (dB3 (cell:=if z < 0 then -z else z) n X.W X.K2 (Nat.le_trans (Nat.le_of_add_right_le kl) (by decide))) λx m1 z1=>?_))))))))))));rcases z1 with⟨q1,q2,t',ls',ws,rfl,W'⟩ | ⟨rfl,t',ls',W'⟩
 ·have X1:X9 m1 A (k+1) ((q1,.list (ws.map Wo.v))::(q2,.list (ws.map Wo.v))::C) t' ls' hl:=⟨⟨W'.H.perm (((List.perm_middle (l₁:=[(q1,MObj.list (ws.map Wo.v)),(q2,MObj.list (ws.map Wo.v))])).symm.cons _).cons _),W'.I,W'.ti,W'.ec,W'.lb⟩,X.K.sub λy_ q=>.tail _ (.tail _ q),X.h.sub λy_ q=>.tail _ (.tail _ q)⟩
  have k1:=X1.has (.head _);have k2:=X1.has (.tail _ (.head _));refine aC rfl (bJ (t:=false) (cX (bE (x:=false) (aT (aR rfl rfl (dT (bD3 (eM ws) k1 k2)))) (bE (x:=false) (cX (aN7 (x:=true) (aT (aR (t:=true) rfl rfl rfl)) (aN7 (x:=false) (cO (aT (bB rfl (bE0 (n+7) k1)))) dJ))) dJ))) ?_);refine bJ (t:=true) (aT (aR (t:=true) rfl rfl rfl)) ?_;refine X1.hold (.head _) (eM ws) (Nat.lt_of_le_of_lt (Nat.le_trans ll (Nat.mul_le_mul_right 10 (Nat.le_of_add_right_le kl))) (by decide)) (λy=>rfl) (λy=>rfl) λq3 m2 X2=>?_;exact aU4 n X2 (by rw[Nat.add_assoc,Nat.add_comm 1];exact kl) (by rw[List.length_append,Nat.succ_mul];exact Nat.add_le_add_right ll 10) λx hx=>.tail _ (.tail _ (.tail _ (sub x hx)))
 ·have X1:X9 m1 A (k+1) C t' ls' hl:=⟨W',X.K,X.h⟩
  refine aC rfl (bJ (t:=false) (cX (bE (x:=false) (aT (aR (t:=false) rfl rfl rfl)) (bE (x:=false) (cX (dG6 (aT (aR (t:=false) rfl rfl rfl)))) dJ))) (bJ (t:=false) (aT (aR (t:=false) rfl rfl rfl)) ?_));exact aU4 n X1 (by rw[Nat.add_assoc,Nat.add_comm 1];exact kl) (by rw[Nat.succ_mul];exact Nat.add_le_add ll (by decide)) sub
end
section
variable{a c a' b' c' e':Nat}{d:List (Ky×V)}
theorem bT5(hx:∀x∈xs,Rf x)(ha:m[a]?=some (.list xs))(hb:m[b]?=some (.list xs))(f:Nat):eqX (f+1) m (.ref a) (.ref b)=some true:=by
 refine e1a2 (bT4 hx) λds h1 h2=>?_;have r1:∀{p:Nat},m[p]?=some (.list xs)->rd cT m (.ref p)=some (.list ds):=λhp=>by rw[aI6 hp,h1];rfl
 unfold eqX;rw[r1 ha,r1 hb];show some (PyData.eqvAll ds ds)=_;rw[h2]
theorem bT7(h:m[c]?=some (.dict d e))(f:Nat):rd (f+1) m (.ref c)=none:=by
 show(match m[c]? with | some (.list xs)=>(d7 (rd f m) xs).map PyData.list | _=>none)=_;rw[h]
theorem dN3{g:α->Option β}{x y z:α}(h:g z=none):d7 g [x,y,z]=none:=by
 have h1:d7 g [z]=none:=dN2 h;have h2:d7 g [y,z]=none:=by
  show(match g y,d7 g [z]with | some d,some ds=>some (d::ds) | _,_=>none)=_;rw[h1];cases g y <;> rfl
 show(match g x,d7 g [y,z]with | some d,some ds=>some (d::ds) | _,_=>none)=_;rw[h2];cases g x <;> rfl
theorem cL2(hx:∀x∈xs,Rf x)(hy:∀x∈ys,Rf x)(ka:m[a]?=some (.list xs))(ka':m[a']?=some (.list xs))(kb:m[b]?=some (.list ys))(kb':m[b']?=some (.list ys))(kc:m[c]?=some (.dict (aF7 l) e))(kc':m[c']?=some (.dict (aF7 l) e'))(hc:c≠c')(kp:m[p]?=some (.list [.ref a,.ref b,.ref c]))(kq:m[q]?=some (.list [.ref a',.ref b',.ref c']))(hp:p≠q):eqV (.ref p) (.ref q) m=.ok true m:=by
 have n1:rd cT m (.ref p)=none:=by rw[aI6 kp,dN3 (bT7 kc 10)];rfl
 have e3:eqX 8 m (.ref c) (.ref c')=some true:=by
  unfold eqX;rw[show rd cT m (.ref c)=none from bT7 kc 11];show eqN m (eqX 7 m) (.ref c) (.ref c')=_;unfold eqN;dsimp only;rw[kc];dsimp only;rw[kc'];dsimp only;rw[if_pos ⟨hc,rfl,by rw[show aF8 (aF7 l)=true from aS0 _ _ _];rfl⟩];exact aT2 bG7
 unfold eqV;rw[n1];have:eqN m (eqX 8 m) (.ref p) (.ref q)=some true:=by
  unfold eqN;dsimp only;rw[kp];dsimp only;rw[kq];dsimp only;rw[if_pos ⟨hp,rfl⟩];show(match eqX 8 m (.ref a) (.ref a')with | some x=>(match (match eqX 8 m (.ref b) (.ref b')with | some x=>(match (match eqX 8 m (.ref c) (.ref c')with | some x=>(match some true with | some y=>some (x&&y) | none=>none) | none=>none)with | some y=>some (x&&y) | none=>none) | none=>none)with | some y=>some (x&&y) | none=>none) | none=>none)=some true;rw[bT5 hx ka ka' 7,bT5 hy kb kb' 7,e3];rfl
 dsimp only;rw[this]
end
theorem dB4(f:α->β)(l:List α)(lo hi:Option Int):cut (l.map f) lo hi=(cut l lo hi).map f:=by
 unfold cut;dsimp only;rw[List.length_map,List.map_drop,List.map_take]
theorem cut_30(n:Nat):min (min 33 n) n - min 3 n <= 30:=by
 by_cases h:n <= 3
 ·rw[Nat.min_eq_right h,Nat.sub_eq_zero_of_le (Nat.min_le_right _ _)];exact Nat.zero_le _
 ·rw[Nat.min_eq_left (Nat.le_of_not_le h)];exact Nat.sub_le_sub_right (Nat.le_trans (Nat.min_le_left _ _) (Nat.min_le_left 33 n)) 3
theorem dB5(ns:List Int):(cut ns (some 3) (some 33)).length <= 30:=by
 show((ns.take (min 33 ns.length)).drop (min 3 ns.length)).length <= 30;rw[List.length_drop,List.length_take];exact cut_30 _
theorem bQ3{l:Nat}(e:(l:Int)=max 0 (min mn c))(h:c <= 12):l <= 12:=Int.ofNat_le.mp (e▸Int.max_le.mpr ⟨by decide,Int.le_trans (Int.min_le_right _ _) h⟩)
theorem Sx.as{v:Nat}{w:Option Tn}(h:Sx m N p v ps t u hs B)(e:u=w):Sx m N p v ps t w hs B:=e▸h
section
variable{f:Int}{A:Wa}{v:Nat}{u:Tn}{q5 qf:Nat}{C0:List (Nat×MObj)}
theorem ask3(n:Nat){o:CE}{b:Nat}{Q:List V->MH->Prop}{E:Nat->MH->Prop}(H:Sx m N p v ps t (some u) hs B)(O:u.Ok b)(hb:b < lid)(hi:u.hs[0]?=some s)(so:s.own=0)(rl:s.rows.length < 64)(nd:(s.rows.map (·.1)).Nodup)(ho:∀m',ev sig (run sig (n+9)) o r m'=.ok (.ref v) m')(k:∀m' a b c e,Sx m' N p v ps t (some u) hs ((c,.dict (aF7 s.rows) e)::(b,.list (u.said.map Wo.v))::(a,.list (u.lets.map aA3))::B)->Le m m'->m.length <= a->m.length <= b->m.length <= c->Q [.ref a,.ref b,.ref c] m'):
  Wp (evs sig (run sig (n+9)) [(.meth o 19 []),(.meth o 25 []),(.meth o 5 [(.cnst (Lt.int 0))])] r) m Q E:=by
 have H0:=H.swap;refine e1a1 (Sx.tw H0) λB' hT=>?_;refine aE (aX tf hT (ho m) rfl rfl (aC rfl (H0.ask (λB hB=>aQ1 tf (n+7) hB O hb) λq1 m1 H1 l1 g1=>?_)));refine e1a1 (Sx.tw H1) λB' hT=>?_;refine aE (aX tf hT (ho m1) rfl rfl (aC rfl (H1.ask (λB hB=>aB8 tf (n+8) hB) λq2 m2 H2 l2 g2=>?_)));refine e1a1 (Sx.tw H2) λB' hT=>?_;refine aE (aX tf hT (ho m2) rfl rfl (aC rfl ?_));have:=bD8 (i:=0) (s:=s) (Q:=λx m'=>Wp (evs sig (run sig (n+9)) [] r) m' (λvs m'=>Q ([.ref q1,.ref q2]++x::vs) m') E) (E:=E) (n+6) H2 O hi rl nd λq3 e m3 H3 l3 g3=>aH (k m3 q1 q2 q3 e H3.swap ((l1.trans l2).trans l3) g1 (Nat.le_trans l1.1 g2) (Nat.le_trans (l1.trans l2).1 g3));rw[so]at this;exact this
theorem cX6(n:Nat){x11 x12 x13:Option V}{a b c e:Nat}(X:X9 m A k C t ls hl)(hu:A.u=some u)(O:u.Ok 400)(hi:u.hs[0]?=some s)(so:s.own=0)(rl:s.rows.length < 64)(nd:(s.rows.map (·.1)).Nodup)(ll:hl.length <= 300)(ka:(a,.list (u.lets.map aA3))∈C)(kb:(b,.list (u.said.map Wo.v))∈C)(kc:(c,.dict (aF7 s.rows) e)∈C)(kf:(qf,.list [.ref a,.ref b,.ref c])∈C):
  Wp (exs sig (run sig (n+9)) [
 (.ite (.val (.cmp (.list [(.meth (.var 9) 19 []),(.meth (.var 9) 25 []),(.meth (.var 9) 5 [(.cnst (Lt.int 0))])]) [.NotEq] [(.var 10)])) [
  (.ret (.cnst (Lt.bool false)))] []),
 (.ret (.cmp (.comp (.var 14) (.one 14) 1 .expr [(.var 8)] [(.val (.cmp (.idx (.var 14) (.cnst (Lt.int 0))) [.NotEq] [(.idx (.var 14) (.cnst (Lt.int 1)))]))]) [.Eq] [(.list [])]))] [some (.scr ns),some (.int f),some (.int A.c),some (.ref A.ql),some (.ref A.qr),some (.ref q5),some (.ref A.p),some (.ref A.pw),some (.ref A.qd),some (.ref A.v),some (.ref qf),x11,x12,x13]) m (bJ4 λx y_=>x=.bool true) nox:=by
 refine aA9 (eF (eU (aY (ask3 n (Sx.as X.W.H hu) O (by decide) hi so rl nd (λy=>rfl) λm1 a1 b1 c1 e1 H1 l1 g1 g2 g3=>aK λq1 m2 l2 k2 g4=>aC rfl ?_))));have X2:=X.up (l1.trans l2);have H2:=H1.up l2;have cne:c1≠c:=λz=>Nat.not_lt.mpr g3 (z▸aS (X.has kc));have pne:q1≠qf:=λz=>Nat.not_lt.mpr g4 (z▸Nat.lt_of_lt_of_le (aS (X.has kf)) l1.1);refine aG (dT (cL2 (aQ9 _) (eM _) (H2.has (.tail _ (.tail _ (.head _)))) (X2.has ka) (H2.has (.tail _ (.head _))) (X2.has kb) (H2.has (.head _)) (X2.has kc) cne k2 (X2.has kf) pne)) (aC rfl ?_);have kh:=X2.W.H.has (.tail _ (.tail _ (.head _)));refine a9 (eU (aD7 hl id (λy_=>.none) (λy=>false) (λm'=>m'=m2) (aE (aC rfl (aH (fA kh ⟨(List.map_id hl).symm,rfl,?_,?_,?_,?_⟩))))))
 ·intro m' e;rw[e];exact dE kh
 ·intro x hx m' em
  rw[em];refine e3a4 (X.h x hx) λa b xs z71 h2 h3 h4=>?_;rw[z71];exact aC rfl (aE2 (aG (aT (aR rfl rfl (dT (bD3 h4 (X2.has h2) (X2.has h3))))) ⟨rfl,fM rfl⟩))
 ·exact Nat.le_trans ll (by decide)
 ·intro q3 m3' m3 em l3 k3 g3
  have k3:m3[q3]?=some (.list []):=by
   rw[k3];rw[show hl.filter (λy=>false)=[]from List.filter_eq_nil_iff.mpr λy_ y_=>Bool.false_ne_true];rfl
  refine aY (aH (aK λq4 m4 l4 k4 g4=>?_));exact aG (bZ2 (λx hx=>absurd hx List.not_mem_nil) (l4.has k3) k4) rfl
end
section
variable{f:Int}{A:Wa}{v v':Nat}{u':Option Tn}{q5:Nat}
theorem X9.re2(X:X9 m A k C t ls hl)(H:Sx m' N A.p v' A.ps t u' t.hs ((A.qe,.list (ls.map lv))::(A.qs,.list (t.said.map Wo.v))::(A.qd,.list hl)::C)):X9 m' { A with v:=v',u:=u' } k C t ls hl:=⟨⟨H,X.W.I,X.W.ti,X.W.ec,X.W.lb⟩,⟨X.K.kw,X.K.kh,X.K.kl,X.K.kr,X.K.rl,X.K.ro,X.K.c1,X.K.c7,X.K.hL,X.K.ll⟩,X.h⟩
theorem law_c(n:Nat){u:Tn}{s:Hs}{qf a b cc e:Nat}(X:X9 m A 0 C t ls [])(hu:A.u=some u)(O:u.Ok 400)(hi:u.hs[0]?=some s)(so:s.own=0)(rl:s.rows.length < 64)(nd:(s.rows.map (·.1)).Nodup)(ka:(a,.list (u.lets.map aA3))∈C)(kb:(b,.list (u.said.map Wo.v))∈C)(kc:(cc,.dict (aF7 s.rows) e)∈C)(kf:(qf,.list [.ref a,.ref b,.ref cc])∈C):
  Wp (exs sig (run sig (n+9)) (f_law.drop 13) [some (.scr ns),some (.int f),some (.int A.c),some (.ref A.ql),some (.ref A.qr),some (.ref q5),some (.ref A.p),some (.ref A.pw),some (.ref A.qd),some (.ref A.v),some (.ref qf),none,none,none]) m (bJ4 λx y_=>x=.bool true) nox:=by
 have es:fW (.scr ns) (.int 3) (.int 33) .none m=alloc (.list ((cut ns (some 3) (some 33)).map V.int)) m:=by
  show(match dH (ns.map V.int) (.int 3) (.int 33) .none with | some l=>alloc (.list l) m | Option.none=>.bad)=_;have:dH (ns.map V.int) (.int 3) (.int 33) .none=some ((cut ns (some 3) (some 33)).map V.int):=by
   show some (cut (ns.map V.int) (some 3) (some 33))=_;rw[dB4]
  rw[this]
 have zl:=dB5 ns;refine bT0 (cut ns (some 3) (some 33)) V.int (aE (aJ (aC rfl (aJ (aC rfl (aJ (aC rfl (aJ (aC rfl (dU es (aK λqz m20 l20 k20 g20=>aH (fA k20 ?_))))))))))));have X20:=X.inn (Sx.new X.W.H l20 k20 g20);refine⟨MI ns f A q5 qf _,rfl,⟨0,_,_,_,_,_,_,_,rfl,X20,by rw[Nat.zero_add];exact zl,Nat.le_refl _,λy_ q=>q⟩,?_,?_,?_⟩
 ·rintro zs r m' ⟨k,C,t,ls,hl,x11,x12,x13,er,X,kl,ll,sub⟩
  exact dE (X.has (sub _ (.head _)))
 ·intro z zs r m' J
  refine wp_mono (turn9 n J) (λr' m' q=>wp_mono q (λp_1 m' q=>?_) λy_ y_ q=>q) λy_ y_ q=>q;obtain⟨f,r1⟩:=p_1
  cases f with
  |ret v=>exact q.elim
  |next=>exact q
  |cont=>exact q
 ·rintro r m' ⟨k,C,t,ls,hl,x11,x12,x13,er,X,kl,ll,sub⟩
  rw[er];exact cX6 n X hu O hi so rl nd (Nat.le_trans ll (Nat.mul_le_mul_right 10 (show k <= 30 from kl))) (sub _ (.tail _ ka)) (sub _ (.tail _ kb)) (sub _ (.tail _ kc)) (sub _ (.tail _ kf))
theorem law_b(n:Nat)(X:X9 m A 0 C t ls [])(hu:A.u=none):
  Wp (exs sig (run sig (n+9)) (f_law.drop 10) [some (.scr ns),some (.int f),some (.int A.c),some (.ref A.ql),some (.ref A.qr),some (.ref q5),some (.ref A.p),some (.ref A.pw),some (.ref A.qd),none,none,none,none,none]) m (bJ4 λx y_=>x=.bool true) nox:=by
 have c1:=X.K.c1;have c12:A.c <= 12:=Int.le_trans X.K.c7 (by decide);refine bC (bU7 (n+5) (L:=[]) c1 c12 (λx hx=>absurd hx List.not_mem_nil) List.nodup_nil (aE (aC (a:=.int A.c) rfl (aE (aY (aH (aK λq14 m14 l14 k14 g14=>aH ⟨q14,allB m14,rfl,k14,bJ3,λv m15 T15=>?_⟩)))))));have H15:=(Sx.as (X.W.H.up l14) hu).addT T15;have X15:=X.re2 H15.1;have hh:(cG A.c [])[0]?=some 0:=by
  obtain⟨k,hk⟩:∃k,A.c.toNat=k+1:=⟨A.c.toNat - 1,(Nat.sub_add_cancel (Int.toNat_le_toNat c1:1 <= A.c.toNat)).symm⟩
  unfold cG aL6;rw[hk,List.range_succ_eq_map];rfl
 have hi0:(Tn.new A.c []).hs[0]?=some (Hs.new A.c 0):=by
  show((cG A.c []).map (Hs.new A.c))[0]?=_;rw[List.getElem?_map,hh];rfl
 have I0:=bV3 (L:=[]) c1 c12;have rl3:=X.K.rl;obtain⟨r1,hr1,er1⟩:∃r1∈A.R,A.R[1]?=some r1:=⟨A.R[1]'(by rw[rl3];decide),List.getElem_mem _,List.getElem?_eq_getElem _⟩
 have rw1:=X.K.ro r1 hr1;have ei:aO6 (.ref A.qr) (.int 1) m15=.ok (.str r1) m15:=bN2 (X15.has X.K.kr) (by show(A.R.map V.str)[1]?=_;rw[List.getElem?_map,er1];rfl) (by decide);have H16:=X15.W.H.swap;refine e1a1 (Sx.tw H16) λB' hT=>?_;have tc:=λB hB=>bE4 (B:=B) (m:=m15) (p:=v) (t:=Tn.new A.c []) (b:=0) (i:=0) (s:=Hs.new A.c 0) (r:=r1) tf (n+1) hB I0.ok hi0 rw1 (bE9 rw1) (by decide);refine eC (aX tf hT rfl rfl rfl (aE (aC rfl (aE (aG (dW rfl rfl ei) (aH (H16.town tc λq17 m17 H17 g17=>?_)))))));have I1:=(I0.call hi0 rw1 (by decide)).1;obtain⟨s,hs,so⟩:∃s,((Tn.new A.c []).turn 0 ((Hs.new A.c 0).call r1)).hs[0]?=some s /\ s.own=0:=by
  rw[show((Tn.new A.c []).turn 0 ((Hs.new A.c 0).call r1)).hs=(Tn.new A.c []).hs.set 0 ((Hs.new A.c 0).call r1).1 from(bM _ _ _).2.1];exact⟨_,List.getElem?_set_self (List.getElem?_eq_some_iff.mp hi0).1,aH0 _ _⟩
 have X17:=X15.re2 H17.tail.swap
 generalize (Tn.new A.c []).turn 0 ((Hs.new A.c 0).call r1)=u at X17 I1 hs
 have ro:=I1.ro s (List.mem_of_getElem? hs);have rl:s.rows.length < 64:=Nat.lt_of_le_of_lt ro.2 (by decide);refine bC (aY (ask3 n X17.W.H I1.ok (by decide) hs so rl ro.1 (λy=>rfl) λm18 a b cc e H18 l18 y_ y_ y_=>aK λqf m19 l19 k19 g19=>?_));have H19:Sx m18 N A.p v A.ps t (some u) t.hs ((A.qe,.list (ls.map lv))::(A.qs,.list (t.said.map Wo.v))::(A.qd,.list [])::(cc,.dict (aF7 s.rows) e)::(b,.list (u.said.map Wo.v))::(a,.list (u.lets.map aA3))::C):=H18.perm (List.perm_append_comm_assoc [(A.qe,MObj.list (ls.map lv)),(A.qs,MObj.list (t.said.map Wo.v)),(A.qd,MObj.list [])] [(cc,MObj.dict (aF7 s.rows) e),(b,MObj.list (u.said.map Wo.v)),(a,MObj.list (u.lets.map aA3))] C);have X19:X9 m18 { A with v:=v,u:=some u } 0 ((cc,.dict (aF7 s.rows) e)::(b,.list (u.said.map Wo.v))::(a,.list (u.lets.map aA3))::C) t ls []:=⟨⟨H19,X.W.I,X.W.ti,X.W.ec,X.W.lb⟩,X17.K.sub λy_ q=>.tail _ (.tail _ (.tail _ q)),λx hx=>absurd hx List.not_mem_nil⟩
 exact law_c n (X19.inn (Sx.new X19.W.H l19 k19 g19)) rfl I1.ok hs so rl ro.1 (.tail _ (.tail _ (.tail _ (.head _)))) (.tail _ (.tail _ (.head _))) (.tail _ (.head _)) (.head _)
theorem law_a(n:Nat){c:Int}{ql:Nat}(kl4:m[ql]?=some (.list (L.map V.int)))(k4:m[qr]?=some (.list (R.map V.str)))(nrl:ql≠qr)(c1:1 <= c)(c7:c <= 7)(nd:L.Nodup)(hL:∀x∈L,0 <= x /\ x < c)(ll:L.length <= 12)(rl3:R.length=3)(rw3:∀r∈R,bN1 (.str r)=true):
  Wp (exs sig (run sig (n+9)) (f_law.drop 4) [some (.scr ns),some (.int f),some (.int c),some (.ref ql),some (.ref qr),none,none,none,none,none,none,none,none,none]) m (bJ4 λx y_=>x=.bool true) nox:=by
 have c12:c <= 12:=Int.le_trans c7 (by decide);have el:biV .list [.ref ql] m=alloc (.list (L.map V.int)) m:=by unfold biV;dsimp only;rw[kl4]
 refine bC (aF3 (aE (aC rfl (aH (dU el (aK λq5 m5 l5 k5 g5=>?_))))));have kl5:=l5.has kl4;have kr5:=l5.has k4;refine bC (bU7 (n+5) c1 c12 hL nd (aC (a:=[.int c,.ref q5]) rfl ⟨q5,[(q5,.list (L.map V.int)),(ql,.list (L.map V.int)),(qr,.list (R.map V.str))],rfl,k5,b9 k5 (b9 kl5 (b9 kr5 bY4)),λp m6 H6=>?_⟩));have n5:∀x∈[(ql,MObj.list (L.map V.int)),(qr,MObj.list (R.map V.str))],x.1≠q5:=b9 (λz=>Nat.not_lt.mpr g5 (z▸aS kl4)) (b9 (λz=>Nat.not_lt.mpr g5 (z▸aS k4)) bY4);refine eC (bV (aC rfl ⟨0,aL9 (H6.has (.head _)),rfl,aC rfl (bO0 ?_ (H6.has (.head _)))⟩));have H7:=(Sx.first (H6.set (.list []) n5) (List.nodup_cons.mpr ⟨λc=>by
  refine e1a2 (List.mem_map.mp c) λx hx e=>?_;exact n5 x hx e,List.nodup_cons.mpr ⟨λc=>nrl (List.mem_singleton.mp c),List.nodup_cons.mpr ⟨List.not_mem_nil,List.nodup_nil⟩⟩⟩)).tail
 obtain⟨C,H7,kl7,kr7⟩:∃C,Sx (m6.set q5 (.list [])) N p p [] (Tn.new c L) none [] C /\ (ql,.list (L.map V.int))∈C /\ (qr,.list (R.map V.str))∈C:=⟨_,H7,.head _,.tail _ (.head _)⟩
 generalize m6.set q5 (.list [])=m7 at H7 ⊢
 refine bC (cV7 (aE (aC rfl (aE (aC rfl (aE (aY (aH (aK λqe m8 l8 k8 g8=>aE (aY (aH (aK λqs m9 l9 k9 g9=>aH (aK λpw m10 l10 k10 g10=>?_)))))))))))));have H10:=((H7.new l8 k8 g8).new l9 k9 g9).new l10 k10 g10;refine dR (bX8 (n+6) H10 (.tail _ (.tail _ (.tail _ kl7))) c1 c12 λqh m11 ps H11=>?_);refine aC rfl (aC rfl (d9 (H11.has (.tail _ (.head _))) (k:=.str (Str.ofString "houses")) rfl rfl (show 4 < lid by decide) ?_));have H12:=Sx.set2 H11 (.dict (Wa.d ⟨c,pw,ql,qe,qs,qh,p,p,ps,none,L,R,qr,0⟩) 1);have ed:put (.str (Str.ofString "houses")) (.ref qh) (([Str.ofString "count",Str.ofString "liars",Str.ofString "letters",Str.ofString "said"].map Ky.str).zip [V.int c,.ref ql,.ref qe,.ref qs])=Wa.d ⟨c,pw,ql,qe,qs,qh,p,p,ps,none,L,R,qr,0⟩:=rfl;rw[ed]
 generalize m11.set pw (.dict (Wa.d ⟨c,pw,ql,qe,qs,qh,p,p,ps,none,L,R,qr,0⟩) 1)=m12 at H12 ⊢
 refine bC (aY (aH (aK λqd m13 l13 k13 g13=>?_)));have H13:Sx m13 N p p ps (Tn.new c L) none (Tn.new c L).hs ((qe,.list [])::(qs,.list [])::(qd,.list [])::(qh,.dict (bN3 (cG c L) ps) 0)::(pw,.dict (Wa.d ⟨c,pw,ql,qe,qs,qh,p,p,ps,none,L,R,qr,0⟩) 1)::C):=(H12.new l13 k13 g13).perm (((List.Perm.swap _ _ _).trans ((List.perm_append_comm_assoc [(qs,MObj.list []),(qe,MObj.list [])] [(qd,MObj.list []),(qh,MObj.dict (bN3 (cG c L) ps) 0),(pw,MObj.dict (Wa.d ⟨c,pw,ql,qe,qs,qh,p,p,ps,none,L,R,qr,0⟩) 1)] C))));exact law_b n (A:=⟨c,pw,ql,qe,qs,qh,p,p,ps,none,L,R,qr,qd⟩) (ls:=[]) ⟨⟨H13,bV3 c1 c12,⟨rfl,rfl⟩,rfl,Nat.le_refl _⟩,⟨⟨1,.tail _ (.head _)⟩,⟨0,.head _⟩,.tail _ (.tail _ kl7),.tail _ (.tail _ kr7),rl3,rw3,c1,c7,hL,ll⟩,λx hx=>absurd hx List.not_mem_nil⟩ rfl
end
theorem law_holds(n:Nat)(ns:List Int)(hl:ns.length <= 4000):Wp (run sig (n+10) 45 [.scr ns]) [] (λv y_=>v=.bool true) nox:=by
 have e0:=λm=>dC1 f_at (n+8) ns 0 (by decide) m;have e1:=λm=>dC1 f_at (n+8) ns 1 (by decide) m;have e2:=λm=>dC1 f_at (n+8) ns 2 (by decide) m;refine aB5 rfl rfl (bC (aG (aB0 (vs:=[.scr ns,.int 0]) rfl (e0 _)) ?_))
 generalize at0 ns 0=f
 refine bC (dY (aC rfl (bF (bW8 cZ8 (n+8) f) λx m1 z_=>?_)));refine e1a4 z_ λc eu c1 c7 l1=>?_;subst eu;have c12:c <= 12:=Int.le_trans c7 (by decide);refine bC (dY (aE (aG (aB0 (vs:=[.scr ns,.int 1]) rfl (e1 _)) (aE (aC rfl (aE (aV4 (aY (aC (a:=[.int 0,.int 1,.int 1,.int 2,.int (f / 70 % 8)]) rfl (aK λq0 m2 l2 k2 g2=>aC (a:=.int (f / 35 % 5)) rfl ?_))))))))));refine e1a2 (cB7 (is:=[0,1,1,2,f / 70 % 8]) (x:=f / 35) (Nat.succ_pos _)) λmn h1 y_=>?_;refine aG (bN2 k2 h1 (md60 (n:=5) (by decide) (by decide))) (aH (bF (bW3 cZ7 (n+8) (at0 ns 1) c mn c1 c12) λx m3 z_=>?_));obtain⟨ql,L,eu,kl,l3,g3,nd,hL,le⟩:=z_;subst eu;have ll:L.length <= 12:=bQ3 le c12;refine bC (bF7 (List.range 3) (λ(j:Nat)=>V.int (0+(j:Int))) (λ(j:Nat)=>V.str (row (at0 ns 2 % 100003) (0+(j:Int)))) (λm'=>Le m3 m') (aE (aC rfl (aH (aG (aL8 (n:=3) (by decide)) ⟨rfl,.refl _,λy_ y_=>rfl,?_,by decide,?_⟩)))))
 ·intro j hj m' l
  exact aC rfl (dY (aE (aG (a:=.int (at0 ns 2 % 100003)) (m':=m') (bU (aB0 (vs:=[.scr ns,.int 2]) rfl (e2 m')) rfl (aD0 (by decide))) (aE (aC rfl (aH (cS1 (dH0 f_row (n+8) _ _ m') λm'' l'=>⟨rfl,l.trans l'⟩)))))))
 intro qr m4' m4 l4' l4 k4 g4
 generalize at0 ns 2 % 100003=base at k4
 have l34:Le m3 m4:=l4'.trans l4;have k4:m4[qr]?=some (.list ([row base 0,row base 1,row base 2].map V.str)):=k4;have kl4:=l34.has kl;have nrl:ql≠qr:=λz=>Nat.not_lt.mpr g4 (z▸Nat.lt_of_lt_of_le (aS kl) l4'.1);exact law_a n kl4 k4 nrl c1 c7 nd hL ll rfl (b9 (aI5 _ _) (b9 (aI5 _ _) (b9 (aI5 _ _) bY4)))
end P09
end Mini.Internal
open PySem PySem.W PyProof.Rows
namespace Mini.Internal
noncomputable def keep09:List Nat:=[1,2,3,4,5,6,7,8,10,11,12,13,14,16,17,18,19,20,21,22,24,26,28,30,31,32,33,34,35,36,37,38,39,40,41,42,43]
noncomputable def as09:List Nat:=[3,23,24,36,37,48,49,60,61,72,73,84,85,96,97,108,109,117,118,124,125,131,132,138,139,145,146,152,153,159,160,166,167,180,181,187,188,192,193,199,200,204,205,211,212,218,219,225,226,232,233,235,236,253,254,260,261,267,268,272,273,275,276,293,294,300,301,307,308,314,315,321,322,328,329,335,336,342,343,349,350,356,357,363,364,366,367,377,378,384,385,389,390,396,397,403,404,410,411,417,418,422,423,429,430,436,437,443,444,450,451,455,456,460,461]
noncomputable def chk09(K:Frag):Bool:=chkA C09.sig [] 37 K&&chkB C09.sig [] 37 45 K
theorem said09:PySem.Challenge.rw_uf030037_09.wellSaid=true:=by kernel_rfl
theorem run09a:∀w os,(cN4 PySem.Challenge.rw_uf030037_09.prog 4000 w os).map (λs=>staticsOk (importedModules PySem.Challenge.rw_uf030037_09.prog.main.body) (boot_heap w.params) s.abs.heap&&namesBound PySem.Challenge.rw_uf030037_09.prog s.abs.heap&&gensDone s.abs&&laidKept (boot_heap w.params) s.abs.heap)=some true:=by intro w os;kernel_rfl
theorem run09b:∀w os,(cN4 PySem.Challenge.rw_uf030037_09.prog 4000 w os).map (λs=>Fast.tw4187177175401517315 (view PySem.Challenge.rw_uf030037_09.prog keep09) [] (importedModules PySem.Challenge.rw_uf030037_09.prog.main.body) (xtOf (view PySem.Challenge.rw_uf030037_09.prog keep09) PySem.Challenge.rw_uf030037_09.row.records) true s.abs)=some (openGood (view PySem.Challenge.rw_uf030037_09.prog keep09) []):=by intro w os;kernel_rfl
theorem run09c:∀w os,(cN4 PySem.Challenge.rw_uf030037_09.prog 4000 w os).map (λs=>chkA C09.sig [] 37 (aK1 as09 s.abs.heap))=some true:=by intro w os;kernel_rfl
theorem run09d:∀w os,(cN4 PySem.Challenge.rw_uf030037_09.prog 4000 w os).map (λs=>chkB C09.sig [] 37 45 (aK1 as09 s.abs.heap))=some true:=by intro w os;kernel_rfl
theorem run09:∀w os,(cN4 PySem.Challenge.rw_uf030037_09.prog 4000 w os).map (λs=>bG5 PySem.Challenge.rw_uf030037_09.prog (view PySem.Challenge.rw_uf030037_09.prog keep09) PySem.Challenge.rw_uf030037_09.row.records (λh=>chk09 (aK1 as09 h)) w s.abs)=some (true,openGood (view PySem.Challenge.rw_uf030037_09.prog keep09) [],true):=λw os=>cG1 (run09a w os) (run09b w os) (run09c w os) (run09d w os) λy_=>rfl
end Mini.Internal
open PySem PySem.W PyProof.Rows Mini.Internal
namespace Mini.Internal
set_option tactic.hygienic true in
theorem t09:PySem.Challenge.rw_uf030037_09.Holds:=by
 refine cG9 (keep:=keep09) (as:=as09) (chk:=chk09) (N:=4000) (d:=((defOf (view PySem.Challenge.rw_uf030037_09.prog keep09) PySem.Challenge.rw_uf030037_09.row.name).get (by kernel_rfl)).1) (kwd:=[]) said09 (by kernel_rfl) (by decide +kernel) (λs=>rfl) run09 (by kernel_rfl) (by kernel_rfl) (by kernel_rfl) (by kernel_rfl) (by kernel_rfl) ⟨rfl,rfl,rfl,rfl,rfl,by kernel_rfl⟩ ⟨[.list []],by decide +kernel,by decide +kernel⟩ ?_;intro w s₀ s₁ mg mb G Y fa o pm cd doc dV kV ho hd hcd hD hmg hg args vals as hpre hlay hrd hwl hlo;refine e1a2 Y λK KX hck=>?_;refine Ground.open G ?_;intro T B D TE TW;have hmg':mg (Str.ofString "law")=some (.ref fa):=hmg;clear hd hcd hD hmg ho
 wrow_args hpre hlay hrd hwl hlo
 rename_i ns _ _ _ _ _ _ _ l vs _ hL _ _ _ hI _ hlen _;refine glue (S:=C09.sig) (qok:=[]) (k:=45) (n:=10) (d:=_) T (by kernel_rfl) KX hg (dM1 hck rfl) rfl hmg' hL hI (by lia) (by decide) (P09.law_holds 0 ns (by lia)) ?_ ?_
 ·intro cls;rfl
 ·wrow_post
end Mini.Internal
theorem PySem.Challenge.cw_uf030037_09_holds : PySem.Challenge.rw_uf030037_09.Holds :=
 Mini.Internal.t09
