import PyProof.Rows.All
import KE.KSortTup
import KE.KSorted
import KE.LcSums
import KE.KItemsList
import KE.KDictList
import PyProof.ListRange
import KE.KTurns
import PyProof.ZipIter
import KE.KForList
import PyProof.WalksPairs
import PyProof.RangeFor
import PyProof.EnumMake
import PyProof.DictWalks
import PyProof.CompFree
import OpenK.KWalk
import KE.KPop
import PyProof.DelItemList
import PyProof.RaisesDict
import PyProof.MeetsDictList
import PyProof.AssignAttr
import PyProof.CompUse
import PyProof.AttrMissHeap
import KE.KDictOf
import PyProof.Rows.Range3
import Open.Line
import PyProof.SetScanFacts
import PyProof.SetKind
import PyProof.Rows.SetFrom
import PyProof.FactsAll.subtypes_5
import PyProof.SetRoads
import PySem.Challenge.RW_sx_r033_2
set_option maxRecDepth 100000
set_option maxHeartbeats 4000000
set_option autoImplicit false
set_option linter.unusedVariables false
set_option linter.unusedSimpArgs false
set_option linter.defProp false
set_option Elab.async false
set_option genInjectivity false
set_option genSizeOf false
namespace Mine
open PySem
def A1:=@if_neg
def A3:=@congrArg
def A4:=@List.length_map
def A5:=@if_pos
def A7:=@PySem.wpAny_bind
def A9:=@List.length_append
def AB:=@Nat.le_trans
def AD:=@List.append_assoc
def AF:=@List.map_append
def AM:=@Nat.lt_trans
def AO:=@Nat.lt_of_le_of_lt
def AR:=@PySem.wpAny_pure
def AT:=@List.mem_cons_self
def Ac:=@decide_eq_true
def Ah:=@List.mem_cons_of_mem
def Am:=@List.map_map
def An:=@List.mem_cons
def Ao:=@List.mem_singleton
def Au:=@Nat.le_refl
def Aw:=@List.mem_append_right
def Ax:=@List.not_mem_nil
def B9:=@List.mem_map
def BA:=@Nat.le_add_right
def BB:=@Nat.le_of_eq
def BC:=@List.mem_append_left
def BE:=@List.mem_append
def BJ:=@List.append_nil
def BS:=@Nat.le_of_lt
def BW:=@Nat.add_le_add_left
def Bc:=@Int.ofNat_lt
def Be:=@Nat.lt_of_lt_of_le
def Bi:=@List.nodup_cons
def Bm:=@Nat.zero_le
def Bv:=@Nat.add_assoc
def C7:=@Nat.add_comm
def CE:=@Array.length_toList
def CF:=@Nat.le_of_lt_succ
def CG:=@List.prefix_refl
def CK:=@List.length_cons
def CN:=@Bool.and_eq_true_iff
def CP:=@List.getElem?_map
def CV:=@Nat.succ_le_succ
def CY:=@Nat.lt_succ_self
def Cb:=@Bool.false_ne_true
def Cc:=@Nat.succ_lt_succ
def Cv:=@List.getElem?_eq_getElem
def D0:=@Nat.lt_succ_of_le
def D2:=@of_decide_eq_true
def DA:=@List.forall_mem_cons
def DB:=@Nat.add_right_comm
def DU:=@List.pairwise_cons
def De:=@PySem.Heap.get?_push_size
def Dp:=@List.contains_iff_mem
def Dq:=@List.mem_singleton_self
def Ds:=@Nat.add_le_add_right
def E1:=@PySem.Heap.get?_push_of_some
set_option genInjectivity true in
inductive D where
 |none|bool (b:Bool)|int (i:Int)|key (k:Int)|str (s:Str)|tup (l:List D)|lst (l:List D)
set_option genInjectivity true in
inductive V where
 |d (x:D)|loc (n:Nat)|tup (l:List V)
inductive R where
 |val (v:V)|fresh (l:List V)
set_option genInjectivity true in
inductive Cell where
 |lst (l:List V)|froz (l:List D)|dct (b:Bool) (l:List (Int×V))|inst (l:List (Str×V))
structure St where
 vars:List (Str×V)
 store:List Cell
inductive Fl where
 |next|ret (r:R)
structure Fn where
 params:List Str
 body:List Stmt
 names:List (Str×NameKind)
 hm:Bool
 sh:Bool
 mv:List Str
structure Gl where
 fns:List (Str×Fn)
 meths:List (Str×Fn)
 cls:Str
 init:Fn
 tabs:List (Str×D)
 flds:List Str
structure Ops where
 ev:Fn->Expr->St->Option (R×St)
 tt:Fn->Expr->St->Option (Bool×St)
 ex:Fn->List Stmt->St->Option (Fl×St)
 call:Fn->List V->List Cell->Option (R×List Cell)
noncomputable def BK{d c:Type}(x:Option d)(f:d->c)(b:c):c:=match x with|some a=>f a|.none=>b
noncomputable def AJ{a:Type}(x:Str):List (Str×a)->Option a|[]=>.none|p::r=>if x=p.1 then some p.2 else AJ x r
noncomputable def AS{a:Type}(x:Str)(v:a):List (Str×a)->List (Str×a)|[]=>[(x,v)]|p::r=>if x=p.1 then(x,v)::r else p::AS x v r
noncomputable def AX{a:Type}(k:Int):List (Int×a)->Option a|[]=>.none|p::r=>if k=p.1 then some p.2 else AX k r
noncomputable def BX{a:Type}(k:Int)(v:a):List (Int×a)->List (Int×a)|[]=>[(k,v)]|p::r=>if k=p.1 then(k,v)::r else p::BX k v r
noncomputable def Cd{a:Type}(k:Int):List (Int×a)->List (Int×a)|[]=>[]|p::r=>if k=p.1 then r else p::Cd k r
noncomputable def St.set(a:St)(x:Str)(v:V):St:=⟨AS x v a.vars,a.store⟩
noncomputable def St.put(a:St)(n:Nat)(c:Cell):St:=⟨a.vars,a.store.set n c⟩
noncomputable def St.add(a:St)(c:Cell):St:=⟨a.vars,a.store++[c]⟩
noncomputable def St.sto(c:St)(a:List Cell):St:=⟨c.vars,a⟩
noncomputable def lim:Nat:=1000000
noncomputable def GS:V->Option D|.d x=>some x|_=>.none
noncomputable def Cn:List V->Option (List D)|[]=>some []|v::r=>(GS v).bind λx=>(Cn r).map (x::·)
noncomputable def EJ(l:List V):V:=BK (Cn l) (λa=>.d<|.tup a)<|.tup l
noncomputable def YZ:R->Option V|.val v=>some v|.fresh l=>(Cn l).map λa=>.d<|.lst a
noncomputable def O8(b:Bool)(r:R)(a:St):Option<|V×St:=match r with|.val v=>some (v,a)|.fresh l=>cond b (some (.loc a.store.length,a.add<|.lst l))<|(Cn l).map λc=>(.d<|.lst c,a)
noncomputable def En(o:Ops)(b:Bool)(c:Fn)(e:Expr)(a:St):Option<|V×St:=(o.ev c e a).bind λp=>O8 b p.1 p.2
noncomputable def Dt(o:Ops)(c:Fn):List Expr->St->Option (List V×St)|[],a=>some ([],a)|e::r,a=>(En o c.hm c e a).bind λp=>(Dt o c r p.2).map λq=>(p.1::q.1,q.2)
noncomputable def idx{a:Type}(l:List a)(i:Int):Option a:=(seqIndex? i l.length).bind λj=>l[j]?
noncomputable def E2(n:Nat)(i:Int):Nat:=if 0<=i then min i.toNat n else(i+(n:Int)).toNat
noncomputable def EK(n:Nat):Option Int->Nat|some a=>E2 n a|.none=>0
noncomputable def G7(n:Nat):Option Int->Nat|some b=>E2 n b|.none=>n
noncomputable def slc{c:Type}(l:List c)(a b:Option Int):List c:=(l.take<|G7 l.length b).drop<|EK l.length a
noncomputable def EZ:Option Cell->Option (List V)|some (.lst l)=>some l|some (.froz l)=>some (l.map .d)|_=>.none
noncomputable def Yb:D->Option (List V)|.lst l=>some (l.map .d)|_=>.none
noncomputable def Yc(a:List Cell):V->Option (List V)|.d x=>Yb x|.loc n=>EZ a[n]?|.tup _=>.none
noncomputable def Ch(a:List Cell):R->Option (List V)|.fresh l=>some l|.val v=>Yc a v
noncomputable def Yd:D->Option (List V)|.tup l=>some (l.map .d)|_=>.none
noncomputable def I5:V->Option (List V)|.d x=>Yd x|.tup l=>some l|.loc _=>.none
noncomputable def HM:R->Option (List V)|.val v=>I5 v|.fresh _=>.none
noncomputable def GT(a:List Cell)(r:R):Option<|List V:=BK (Ch a r) some<|HM r
noncomputable def E3:D->Option (Bool×Int)|.int i=>some (false,i)|.key k=>some (true,k)|_=>.none
noncomputable def Lq:V->Option (Bool×Int)|.d x=>E3 x|_=>.none
noncomputable def I6:R->Option (Bool×Int)|.val v=>Lq v|.fresh _=>.none
noncomputable def plain:Bool×Int->Option Int|(false,i)=>some i|(true,_)=>.none
noncomputable def I7(r:R):Option Int:=(I6 r).bind plain
noncomputable def Eo:Bool×Int->D|(false,i)=>.int i|(true,k)=>.key k
noncomputable def KE:Option Cell->Option (Bool×List (Int×V))|some (.dct b a)=>some (b,a)|_=>.none
noncomputable def Lr:V->Option Nat|.loc n=>some n|_=>.none
noncomputable def J1:R->Option Nat|.val v=>Lr v|.fresh _=>.none
noncomputable def Ep(a:List Cell)(r:R):Option<|Bool×List (Int×V):=(J1 r).bind λn=>KE a[n]?
noncomputable def I8(o:Ops)(c:Fn)(e:Expr)(a:St):Option<|(Bool×Int)×St:=(o.ev c e a).bind λp=>(I6 p.1).map λq=>(q,p.2)
noncomputable def G8(o:Ops)(c:Fn)(e:Expr)(a:St):Option<|Int×St:=(I8 o c e a).bind λp=>(plain p.1).map λq=>(q,p.2)
noncomputable def I9(o:Ops)(c:Fn)(e:Expr)(a:St):Option<|Nat×St:=(o.ev c e a).bind λp=>(J1 p.1).map λq=>(q,p.2)
mutual
noncomputable def DV:D->D->Option Bool
 |.none,b=>match b with|.none=>some true|_=>some false
 |.bool _,_=>.none|.int a,b=>match b with|.int b=>some (decide (a=b))|.key _=>.none|.bool _=>.none|_=>some false
 |.key a,b=>match b with|.key b=>some (decide (a=b))|.int _=>.none|.bool _=>.none|_=>some false
 |.str a,b=>match b with|.str b=>some (decide (a=b))|_=>some false
 |.tup a,b=>match b with|.tup b=>FK a b|_=>some false
 |.lst a,b=>match b with|.lst b=>FK a b|_=>some false
noncomputable def FK:List D->List D->Option Bool|[],b=>some b.isEmpty|a::e,b=>match b with|[]=>some false|b::d=>(DV a b).bind λc=>cond c (FK e d)<|some false
end
mutual
noncomputable def Bj:D->Nat->Bool
 |.none,_=>true|.bool _,_=>false|.int _,_=>true|.key _,_=>true|.str _,_=>true|.tup l,n=>match n with|0=>false|n+1=>Du l n
 |.lst l,n=>match n with|0=>false|n+1=>Du l n
noncomputable def Du:List D->Nat->Bool|[],_=>true|d::r,n=>Bj d n&&Du r n
end
noncomputable def Ye:CmpOp->Int->Int->Option Bool|.Lt,a,b=>some (decide (a<b))|.LtE,a,b=>some (decide (a<=b))|.Gt,a,b=>some (decide (b<a))|.GtE,a,b=>some (decide (b<=a))|_,_,_=>.none
noncomputable def KF(a:CmpOp)(p q:Bool×Int):Option Bool:=if (p.1==q.1)=true then Ye a p.2 q.2 else .none
noncomputable def GU(a b:D):Option Bool:=if (Bj a 30&&Bj b 30)=true then DV a b else .none
noncomputable def Yg(c:CmpOp)(a b:D):Option Bool:=match c with|.Eq=>GU a b|.NotEq=>(GU a b).map not|c=>(E3 a).bind λp=>(E3 b).bind λq=>KF c p q
noncomputable def KG(r:R):Option D:=(YZ r).bind GS
noncomputable def RP(n:Nat):Option Cell->R|some (.froz a)=>.val (.d<|.lst a)|_=>.val<|.loc n
noncomputable def RQ(a:List Cell):V->R|.loc n=>RP n a[n]?|v=>.val v
noncomputable def KH(a:List Cell):R->R|.val v=>RQ a v|.fresh l=>.fresh l
noncomputable def E4(d:CmpOp)(c:List Cell)(a b:R):Option Bool:=(KG<|KH c a).bind λx=>(KG<|KH c b).bind λy=>Yg d x y
noncomputable def Ea(b:Bool)(a:List<|Int×V)(q:Bool×Int):Bool:=a.isEmpty||q.1==b
noncomputable def KJ(d:D):List D->Option Bool|[]=>some false|e::r=>(DV e d).bind λb=>(KJ d r).map (b||·)
noncomputable def RS(a:List Cell)(x c:R):Option Bool:=(KG<|KH a x).bind λd=>(GT a c).bind λl=>(Cn l).bind λe=>if (Bj d 30&&Du e 30)=true then KJ d e else .none
noncomputable def G9(a:List Cell)(x c:R):Option Bool:=BK (Ep a c) (λd=>(I6 x).bind λq=>if Ea d.1 d.2 q=true then some (AX q.2 d.2).isSome else .none)<|RS a x c
noncomputable def Yh:D->Bool|.none=>true|_=>false
noncomputable def O9:V->Bool|.d x=>Yh x|_=>false
noncomputable def isNone:R->Bool|.val v=>O9 v|.fresh _=>false
noncomputable def Yi:D->Option Bool|.none=>some false|.bool b=>some b|_=>.none
noncomputable def RT:R->Option D|.val v=>GS v|.fresh _=>.none
noncomputable def Ls(a:List Cell)(r:R):Option Bool:=BK (GT a r) (λl=>some !l.isEmpty)<|(RT r).bind Yi
noncomputable def small(i:Int):Bool:=decide (i.natAbs<=4294967296)
noncomputable def KK(a:Operator)(j:Int):D->Option D
 |.int i=>match a with|.Add=>some (.int<|i+j)|.Sub=>some (.int<|i-j)|.Mult=>if (small i&&small j)=true then some (.int<|i*j) else .none|.Mod=>if 0<j then some (.int<|i%j) else .none|_=>.none
 |.key k=>match a with|.Add=>some (.key<|k+j)|.Sub=>some (.key<|k-j)|_=>.none
 |_=>.none
noncomputable def Yj(c:List Cell)(a b:R):Option R:=BK (Ch c a) (λl=>(Ch c b).bind λm=>if l.length+m.length<=lim then some (.fresh<|l++m) else .none)<|(HM a).bind λl=>(HM b).bind λm=>if l.length+m.length<=lim then some (.val<|EJ<|l++m) else .none
noncomputable def Er(e:List Cell)(c:Operator)(a b:R):Option R:=BK (I7 b) (λj=>(RT a).bind λx=>(KK c j x).map λd=>.val<|.d d)<|match c with|.Add=>Yj e a b|_=>.none
noncomputable def Ce(c:List Cell)(a i:R):Option V:=BK (Ep c a) (λd=>(I6 i).bind λq=>if Ea d.1 d.2 q=true then AX q.2 d.2 else .none)<|(I7 i).bind λj=>(GT c a).bind λl=>idx l j
noncomputable def Eb(e:List Cell)(a:R)(c d:Option Int):Option R:=BK (Ch e a) (λl=>some<|.fresh<|slc l c d)<|(HM a).map λl=>.val<|EJ<|slc l c d
noncomputable def J2:D->Bool×Int|.int i=>(false,i)|.tup l=>(l.head?.bind E3).getD (false,0)|_=>(false,0)
noncomputable def Df{a:Type}(k:a->Int)(x:a):List a->List a|[]=>[x]|y::r=>if k x<=k y then x::y::r else y::Df k x r
noncomputable def C8{a:Type}(k:a->Int):List a->List a|[]=>[]|x::r=>Df k x<|C8 k r
noncomputable def KL:D->Bool|.int _=>true|_=>false
noncomputable def HN(c:Bool):D->Bool|.tup l=>BK (l.head?.bind E3) (λp=>p.1==c) false|_=>false
noncomputable def KM:List Int->Bool|[]=>true|x::r=>!r.contains x&&KM r
noncomputable def J3(l:List D)(c:Bool):Bool:=l.all (HN c)&&KM (l.map λd=>(J2 d).2)
noncomputable def GV(l:List D):Bool:=decide (l.length<64)&&(l.all KL||J3 l false||J3 l true)
noncomputable def EL(l:List D):Option<|List D:=if GV l=true then some (C8 (λd=>(J2 d).2) l) else .none
noncomputable def GA:List D->Option (List Int)|[]=>some []|d::r=>(E3 d).bind λq=>(plain q).bind λi=>(GA r).map λs=>i::s
noncomputable def GW(c:Int->Int->Bool)(l:List Int):Option Int:=l.find? λm=>l.all λa=>c a m
noncomputable def RU(a m:Int):Bool:=decide (a<=m)
noncomputable def RV(a m:Int):Bool:=decide (m<=a)
noncomputable def OA:D->Option ((Bool×Int)×D)|.tup [d,x]=>(E3 d).map λq=>(q,x)|_=>.none
noncomputable def IA(c:Bool):List V->Option (List<|Int×V)|[]=>some []|v::r=>(GS v).bind λd=>(OA d).bind λp=>if (p.1.1==c)=true then(IA c r).map λs=>(p.1.2,.d p.2)::s else .none
noncomputable def E5:List V->Bool|v::_=>BK ((GS v).bind OA) (λp=>p.1.1) false|[]=>false
noncomputable def DC(l:List<|Int×V):List<|Int×V:=l.foldl (λa p=>BX p.1 p.2 a) []
noncomputable def IB(c:Bool):List (Int×V)->Option (List D)|[]=>some []|p::r=>(GS p.2).bind λx=>(IB c r).map λs=>.tup [Eo (c,p.1),x]::s
noncomputable def IC(a b:List Int):List Int:=(a++b).foldl (λl x=>if l.contains x then l else l++[x]) []
noncomputable def HO(a b:Int):List Int:=(List.range (b-a).toNat).map λ(i:Nat)=>a+i
noncomputable def KO(a b:Int):Bool:=small a&&small b
noncomputable def E9(a:List Cell)(f:Str)(r:R):Option R:=if f ="len" then(GT a r).map λl=>.val (.d<|.int l.length) else if f ="list" then(GT a r).map .fresh else if f ="tuple" then(Ch a r).map λl=>.val (EJ l) else if f ="sorted" then BK (Ep a r) (λd=>(EL<|d.2.map λp=>Eo (d.1,p.1)).map λl=>.fresh<|l.map .d) ((Ch a r).bind λl=>(Cn l).bind λc=>(EL c).map λl=>.fresh<|l.map .d) else if f ="max" then(Ch a r).bind λl=>(Cn l).bind λc=>(GA c).bind λe=>(GW RU e).map λi=>.val (.d<|.int i) else if f ="min" then(Ch a r).bind λl=>(Cn l).bind λc=>(GA c).bind λe=>(GW RV e).map λi=>.val (.d<|.int i) else if f ="sum" then(Ch a r).bind λl=>(Cn l).bind λc=>(GA c).map λe=>.val (.d<|.int e.sum) else .none
noncomputable def ID(G:Gl)(c:Fn)(x:Str)(a:St):Option<|R×St:=match c.names.lookup x with|some .local=>(AJ x a.vars).map λv=>(.val v,a)|some .cell=>(AJ x a.vars).map λv=>(.val v,a)|some .free=>(AJ x a.vars).map λv=>(.val v,a)|some .globalImplicit=>(AJ x G.tabs).map λd=>(.val<|.d d,a)|_=>.none
noncomputable def DJ(G:Gl)(a:Fn)(x:Str):Bool:=a.names.lookup x==some .globalImplicit&&(AJ x G.fns).isNone&&(AJ x G.tabs).isNone&&!decide (x=G.cls)
noncomputable def FL(a:Fn)(x:Str):Bool:=a.names.lookup x==some .globalImplicit
noncomputable def IE(o:Ops)(c:Fn):Option Expr->St->Option (Option Int×St)|.none,a=>some (.none,a)|some e,a=>(G8 o c e a).map λp=>(some p.1,p.2)
inductive Vw where
 |name (x:Str)|tup (es:List Expr)|sub (b i:Expr)|slc (a b:Option Expr)|call (f:Str) (as:List Expr)|no|lc|other
noncomputable def EA:Expr->Vw
 |.Name x _=>.name x|.Tuple e _ _=>.tup e|.Subscript b i _=>.sub b i|.Slice a b c _=>match c with|.none=>.slc a b|some _=>.other
 |.Call f h d _=>match d with
  |[]=>match f with|.Name g _=>.call g h|.Attribute _ _ _=>.other|.Subscript _ _ _=>.other|_=>.other
  |_::_=>.other
 |.Constant c _ _=>match c with|.none=>.no|_=>.other
 |.ListComp _ _ _ _=>.lc|_=>.other
noncomputable def Vw.name?:Vw->Option Str|.name x=>some x|_=>.none
noncomputable def Vw.tup?:Vw->Option (List Expr)|.tup x=>some x|_=>.none
noncomputable def Vw.sub?:Vw->Option (Expr×Expr)|.sub b i=>some (b,i)|_=>.none
noncomputable def Vw.slc?:Vw->Option (Option Expr×Option Expr)|.slc a b=>some (a,b)|_=>.none
noncomputable def Vw.call?:Vw->Option (Str×List Expr)|.call f a=>some (f,a)|_=>.none
noncomputable def Vw.no?:Vw->Bool|.no=>true|_=>false
noncomputable def Vw.lc?:Vw->Bool|.lc=>true|_=>false
noncomputable def FM(e:Expr):Option Str:=(EA e).name?
noncomputable def HP(e:Expr):Option<|List Expr:=(EA e).tup?
noncomputable def OB(e:Expr):Option<|Expr×Expr:=(EA e).sub?
noncomputable def Yk(e:Expr):Bool:=(EA e).sub?.isSome
noncomputable def J4(e:Expr):Option<|Option Expr×Option Expr:=(EA e).slc?
noncomputable def IF(e:Expr):Option<|Str×List Expr:=(EA e).call?
noncomputable def KP(e:Expr):Bool:=(EA e).no?
noncomputable def GY(e:Expr):Bool:=(EA e).lc?
noncomputable def RW(o:Ops)(a:Fn)(v s:Expr)(c:St):Option<|R×St:=BK (J4 s) (λd=>(o.ev a v c).bind λp=>(IE o a d.1 p.2).bind λq=>(IE o a d.2 q.2).bind λt=>(Eb t.2.store p.1 q.1 t.1).map λr=>(r,t.2))<|(o.ev a v c).bind λp=>(o.ev a s p.2).bind λq=>(Ce q.2.store p.1 q.1).map λw=>(.val w,q.2)
noncomputable def J5(a:List Cell)(n:Nat):Option Cell->Option (List V×List Cell)|some (.lst l)=>(Cn l).map λc=>(l,a.set n<|.froz c)|some (.froz l)=>some (l.map .d,a)|_=>.none
noncomputable def HQ(a:List Cell)(r:R):Option<|List V×List Cell:=BK (J1 r) (λn=>J5 a n a[n]?)<|(Ch a r).map λl=>(l,a)
noncomputable def HR(a:List Cell)(r:R):Option<|List V×List Cell:=BK (HM r) (λl=>some (l,a))<|HQ a r
noncomputable def HS:Nat->List V->List V|_,[]=>[]|n,v::r=>.tup [.d<|.int n,v]::HS (n+1) r
structure It where
 items:List V
 pr:Bool
noncomputable def OC(l:List Int):It:=⟨l.map λi=>.d<|.int i,false⟩
noncomputable def one{a:Type}:List a->Option a|[x]=>some x|_=>.none
noncomputable def Lu(o:Ops)(c:Fn)(e:Expr)(a:St):Option<|It×St:=(o.ev c e a).bind λp=>(HR p.2.store p.1).map λl=>(⟨l.1,false⟩,p.2.sto l.2)
noncomputable def GZ{c:Type}:List c->Option (c×c)|[a,b]=>some (a,b)|_=>.none
noncomputable def RX(o:Ops)(d:Fn)(a:Int)(e:Expr)(c:St):Option<|It×St:=(G8 o d e c).bind λp=>if KO a p.1=true then some (OC<|HO a p.1,p.2) else .none
noncomputable def Lw(o:Ops)(c:Fn)(f:List Expr)(d:St):Option<|It×St:=BK (GZ f) (λe=>(G8 o c e.1 d).bind λp=>RX o c p.1 e.2 p.2)<|(one f).bind λa=>RX o c 0 a d
noncomputable def HU:List V->List V->List V|[],_=>[]|a::d,c=>match c with|[]=>[]|b::c=>.tup [a,b]::HU d c
noncomputable def OD(o:Ops)(a:Fn)(d:List Expr)(c:St):Option<|It×St:=(GZ d).bind λe=>(o.ev a e.1 c).bind λp=>(HQ p.2.store p.1).bind λl=>(o.ev a e.2<|p.2.sto l.2).bind λq=>(HQ q.2.store q.1).map λm=>(⟨HU l.1 m.1,true⟩,q.2.sto m.2)
noncomputable def OE(o:Ops)(d:Fn)(e:List Expr)(c:St):Option<|It×St:=(one e).bind λa=>(o.ev d a c).bind λp=>(HQ p.2.store p.1).map λl=>(⟨HS 0 l.1,true⟩,p.2.sto l.2)
noncomputable def RY(G:Gl)(o:Ops)(a:Fn)(e:Expr)(c:St)(f:Str)(d:List Expr):Option<|It×St:=if (decide (f ="range")&&DJ G a f)=true then Lw o a d c else if (decide (f ="enumerate")&&DJ G a f)=true then OE o a d c else if (decide (f ="zip")&&DJ G a f)=true then OD o a d c else Lu o a e c
noncomputable def Fk(G:Gl)(o:Ops)(c:Fn)(e:Expr)(a:St):Option<|It×St:=BK (IF e) (λd=>RY G o c e a d.1 d.2)<|Lu o c e a
noncomputable def DD(a:Fn)(x:Str):Bool:=a.names.lookup x==some .local||a.names.lookup x==some .cell
inductive Tg where
 |one (x:Str)|two (x y:Str)
noncomputable def Yl(a:List Expr):Option<|Str×Str:=(GZ a).bind λp=>(FM p.1).bind λx=>(FM p.2).map λy=>(x,y)
noncomputable def Dg(e:Expr):Option Tg:=BK (FM e) (λx=>some<|.one x)<|(HP e).bind λa=>(Yl a).map λp=>.two p.1 p.2
noncomputable def Ci(a:Fn)(c:Bool):Tg->Bool|.one x=>!c&&DD a x|.two x y=>!decide (x=y)&&DD a x&&DD a y
noncomputable def GB(t:Tg)(v:V)(a:St):Option St:=match t with|.one x=>some (a.set x v)|.two x y=>(I5 v).bind λl=>(GZ l).map λp=>(a.set x p.1).set y p.2
noncomputable def OF(o:Ops)(c:Fn)(a:St):List Expr->Option (Bool×St)|[]=>some (true,a)|t::r=>if r.isEmpty=true then o.tt c t a else .none
noncomputable def turns(f:V->St->Option (List V×St)):List V->St->Option (List V×St)|[],a=>some ([],a)|v::r,a=>(f v a).bind λp=>(turns f r p.2).map λq=>(p.1++q.1,q.2)
noncomputable def compTurn'(o:Ops)(d:Fn)(t:Tg)(c:List Expr)(inner:St->Option (List V×St))(v:V)(a:St):Option<|List V×St:=(GB t v a).bind λa=>(OF o d a c).bind λp=>cond p.1 (inner p.2)<|some ([],p.2)
noncomputable def Ym:Expr->Bool|.Set _ _ _=>true|_=>false
noncomputable def Fm(g:Comprehension):Bool:=decide (g.is_async=0)&&!Ym g.iter
noncomputable def RZ(G:Gl)(o:Ops)(d a:Fn)(g:Comprehension)(c:St):Option<|Tg×It×St:=(Fk G o d g.iter c).bind λp=>(Dg g.target).bind λt=>if Ci a p.1.pr t=true then some (t,p) else .none
noncomputable def IG(G:Gl)(o:Ops)(a:Fn)(c:Expr):List Comprehension->St->Option (List V×St)|[],d=>(En o a.hm a c d).map λp=>([p.1],p.2)|g::e,d=>(RZ G o a a g d).bind λp=>turns (compTurn' o a p.1 g.ifs<|IG G o a c e) p.2.1.items p.2.2
noncomputable def seen(a:List<|Str×NameKind)(c:List<|Str×V):List<|Str×V:=c.filter λp=>a.lookup p.1==some .free
noncomputable def Lx:List (Str×NameKind)->Bool|[]=>true|p::r=>(r.lookup p.1).isNone&&Lx r
noncomputable def GC(c:Fn)(a:Scope):Bool:=a.kind == .function&&a.names.all (λp=>(p.2 == .local||p.2 == .globalImplicit||(p.2 == .free&&(c.names.lookup p.1==some .cell||c.names.lookup p.1==some .free)))&&!decide (p.1 ="__debug__")&&!decide (p.1 ="__classdict__"))&&Lx a.names
noncomputable def Fn.sc(a:Fn)(c:List<|Str×NameKind):Fn:=⟨a.params,a.body,c,a.hm,a.sh,a.mv⟩
noncomputable def Ly(G:Gl)(o:Ops)(c:Fn)(f:Expr)(d:List Comprehension)(a:Scope)(e:St):Option<|R×St:=match d with|g::d=>if (GC c a&&(g::d).all Fm)=true then(RZ G o c (c.sc a.names) g e).bind λp=>(turns (compTurn' o (c.sc a.names) p.1 g.ifs<|IG G o (c.sc a.names) f d) p.2.1.items ⟨seen a.names e.vars,p.2.2.store⟩).bind λq=>if q.1.length<=lim then some (.fresh q.1,e.sto q.2.store) else .none else .none|[]=>.none
noncomputable def FN:Nat->List Cell->V->Option D|_,_,.d x=>some x|0,_,_=>.none|n+1,a,.loc k=>(EZ a[k]?).bind λl=>(l.mapM<|FN n a).map .lst|n+1,a,.tup l=>(l.mapM<|FN n a).map .tup
noncomputable def IH(a:List Cell):R->Option R|.val v=>(FN 8 a v).map λd=>.val (.d d)|.fresh l=>(l.mapM<|FN 8 a).map λc=>.fresh<|c.map .d
noncomputable def Ra(v:V)(a:List Cell):Option<|D×List Cell:=BK (Lr v) (λn=>(J5 a n a[n]?).bind λp=>(Cn p.1).map λc=>(.lst c,p.2))<|(GS v).map λx=>(x,a)
noncomputable def KQ:List V->List Cell->Option (List V×List Cell)|[],a=>some ([],a)|v::r,a=>(Ra v a).bind λq=>(KQ r q.2).map λp=>(.d q.1::p.1,p.2)
noncomputable def Lz(o:Ops)(f:Fn)(c:List V)(a:St):Option<|R×St:=cond f.sh ((o.call f c a.store).map λp=>(p.1,a.sto p.2))<|(KQ c a.store).bind λq=>(o.call f q.1 []).bind λp=>if p.2.isEmpty=true then some (p.1,a.sto q.2) else .none
noncomputable def II{a:Type}(l:List a)(i:Nat)(x:a):List a:=l.take i++x::l.drop i
noncomputable def Rb(a:List Cell)(n:Nat)(l:List V)(x:V):Option<|R×List Cell:=if l.length<lim then some (.val<|.d .none,a.set n<|.lst<|l++[x]) else .none
noncomputable def Rc(a:List Cell)(n:Nat)(l:List V)(p:V×V):Option<|R×List Cell:=(I7<|.val p.1).bind λi=>if (decide (0<=i)&&small i&&decide (l.length<lim))=true then some (.val<|.d .none,a.set n<|.lst<|II l (min i.toNat l.length) p.2) else .none
noncomputable def Rd(a:List Cell)(n:Nat)(l:List V)(v:V):Option<|R×List Cell:=(Lr v).bind λk=>(EZ a[k]?).bind λe=>if (!decide (k=n)&&decide (l.length+e.length<=lim))=true then some (.val<|.d .none,a.set n<|.lst<|l++e) else .none
noncomputable def Re(a:List Cell)(n:Nat)(l:List V):Option<|R×List Cell:=l.getLast?.map λx=>(.val x,a.set n<|.lst l.dropLast)
noncomputable def Rf(a:List Cell)(n:Nat)(l:List V)(v:V):Option<|R×List Cell:=(I7<|.val v).bind λi=>if i=0 then(match l with|x::r=>some (.val x,a.set n<|.lst r)|[]=>.none) else .none
noncomputable def J6(a:List Cell)(n:Nat)(l:List V)(m:Str)(c:List V):Option<|R×List Cell:=if m ="append" then(one c).bind (Rb a n l) else if m ="insert" then(GZ c).bind (Rc a n l) else if m ="extend" then(one c).bind (Rd a n l) else if m ="pop" then(if c.isEmpty=true then Re a n l else(one c).bind (Rf a n l)) else .none
noncomputable def Rg(c:List Cell)(b:Bool)(a:List<|Int×V)(v:V):Option<|R×List Cell:=(Lq v).bind λq=>if Ea b a q=true then some (.val<|(AX q.2 a).getD<|.d .none,c) else .none
noncomputable def Rh(c:List Cell)(n:Nat)(b:Bool)(a:List<|Int×V)(p:V×V):Option<|R×List Cell:=(Lq p.1).bind λq=>if (Ea b a q&&O9 p.2)=true then some (.val<|(AX q.2 a).getD<|.d .none,c.set n<|.dct q.1<|Cd q.2 a) else .none
noncomputable def KY(a:List Cell)(n:Nat)(b:Bool)(c:List<|Int×V)(m:Str)(d:List V):Option<|R×List Cell:=if m ="get" then(one d).bind (Rg a b c) else if m ="pop" then(GZ d).bind (Rh a n b c) else .none
noncomputable def M0(e:Expr):Bool:=BK (IF e) (λp=>p.2.isEmpty) false
noncomputable def Dh(b:Expr)(a c:Pos)(k:Nat):Bool:=!M0 b&&(a.endLine==c.line)&&decide (k<20)
noncomputable def M1(G:Gl)(o:Ops)(n:Nat)(m:Str)(c:List V)(a:St):Option Cell->Option (R×St)|some (.lst l)=>(J6 a.store n l m c).map λr=>(r.1,a.sto r.2)|some (.dct b d)=>(KY a.store n b d m c).map λr=>(r.1,a.sto r.2)|some (.inst _)=>(AJ m G.meths).bind λf=>Lz o f (.loc n::c) a|_=>.none
noncomputable def KZ(m:Str):Option Cell->Nat|some (.lst _)=>1|some (.dct _ _)=>2|some (.inst a)=>if (AJ m a).isNone=true then 3 else 0|_=>0
noncomputable def M2:Option Cell->Nat|some (.lst _)=>1|some (.dct _ _)=>2|some (.inst _)=>3|_=>4
noncomputable def Ri(G:Gl)(o:Ops)(a:Fn)(b:Expr)(m:Str)(d:List Expr)(c:St):Option<|R×St:=(I9 o a b c).bind λp=>(Dt o a d p.2).bind λq=>if (KZ m p.2.store[p.1]?==M2 q.2.store[p.1]?)=true then M1 G o p.1 m q.1 q.2 q.2.store[p.1]? else .none
noncomputable def Ka(d:Bool×List (Int×V)):Bool:=!d.1&&decide (d.2.length<=20)&&d.2.all (λp=>decide (0<=p.1)&&decide (p.1<64))
noncomputable def Rj(c:List Cell)(r:R):Option<|List Cell:=(Ch c r).bind λl=>(IA (E5 l) l).map λa=>c++[.dct (E5 l)<|DC a]
noncomputable def M3(o:Ops)(d:Fn)(e:Expr)(c:St):Option<|R×St:=(o.ev d e c).bind λp=>(Rj p.2.store p.1).map λa=>(.val<|.loc p.2.store.length,p.2.sto a)
noncomputable def IJ(o:Ops)(c:Fn)(f:Str)(e:Expr)(a:St):Option<|R×St:=(o.ev c e a).bind λp=>(E9 p.2.store f p.1).map λr=>(r,p.2)
noncomputable def OG(o:Ops)(c:Fn)(b:Expr)(a:St):Option<|R×St:=(o.ev c b a).bind λp=>(Ep p.2.store p.1).bind λd=>(IB d.1 d.2).bind λl=>(EL l).map λl=>(.fresh<|l.map .d,p.2)
noncomputable def M4(d a:Bool×List (Int×V))(c:St):Option<|R×St:=if (Ka d&&Ka a)=true then(EL<|(IC (d.2.map (·.1))<|a.2.map (·.1)).map .int).map λl=>(.fresh<|l.map .d,c) else .none
noncomputable def OH(o:Ops)(a:Fn)(x y:Expr)(c:St):Option<|R×St:=(o.ev a x c).bind λp=>(Ep p.2.store p.1).bind λd=>(o.ev a y p.2).bind λq=>(Ep q.2.store q.1).bind λe=>M4 d e q.2
inductive Form where
 |items (b:Expr)|union (x y:Expr)|plain
noncomputable def OI(f:Str)(e:Expr):Option Expr:=(IF e).bind λp=>if p.1=f then one p.2 else .none
noncomputable def Yn(l r:Expr):Form:=BK (OI "set" l) (λx=>BK (OI "set" r) (λy=>.union x y) .plain) .plain
noncomputable def Yo(b:Expr)(m:Str)(a:Pos)(d:List Expr)(c:Pos):Form:=if (decide (m ="items")&&d.isEmpty&&Dh b a c 0)=true then .items b else .plain
noncomputable def Rl(G:Gl)(g:Fn):Expr->Form
 |.Call f h e c=>match e with
  |[]=>match f with|.Name _ _=>.plain|.Attribute b m a=>Yo b m a h c|.Subscript _ _ _=>.plain|_=>.plain
  |_=>.plain
 |.BinOp l d r _=>match d with|.BitOr=>if DJ G g "set" = true then Yn l r else .plain|_=>.plain
 |_=>.plain
noncomputable def Rm(o:Ops)(c:Fn)(f:Str)(e:Expr)(a:St):Form->Option (R×St)|.items b=>if f ="sorted" then OG o c b a else .none|.union x y=>if f ="sorted" then OH o c x y a else .none|.plain=>if f ="dict" then M3 o c e a else IJ o c f e a
noncomputable def Yp(G:Gl)(o:Ops)(a:Fn)(f:Str)(d:List Expr)(c:St):Option<|R×St:=(one d).bind λe=>Rm o a f e c<|Rl G a e
noncomputable def Ro:R->Bool|.val v=>O9 v|.fresh _=>false
noncomputable def Rp(G:Gl)(o:Ops)(c:Fn)(d:List Expr)(a:St):Option<|R×St:=(Dt o c d a).bind λp=>(o.call G.init (.loc p.2.store.length::p.1)<|p.2.store++[.inst []]).bind λq=>if Ro q.1=true then some (.val<|.loc p.2.store.length,p.2.sto q.2) else .none
noncomputable def Es(G:Gl)(o:Ops)(a:Fn)(x:Str)(d:List Expr)(c:St):Option<|R×St:=if FL a x=true then
 if x=G.cls then Rp G o a d c else BK (AJ x G.fns) (λg=>(Dt o a d c).bind λp=>Lz o g p.1 p.2) (if DJ G a x=true then Yp G o a x d c else .none) else .none
noncomputable def Yq(G:Gl)(o:Ops)(g:Fn)(f:Expr)(d:List Expr)(c:Pos)(e:St):Option<|R×St:=match f with|.Name x _=>Es G o g x d e|.Attribute b m a=>if Dh b a c d.length=true then Ri G o g b m d e else .none|.Subscript _ _ _=>.none|_=>.none
noncomputable def IK:Option Cell->Option (List<|Str×V)|some (.inst a)=>some a|_=>.none
noncomputable def Rq(G:Gl)(o:Ops)(e:Fn)(v:Expr)(a:Str)(c:St):Option<|R×St:=if (G.flds.contains a&&!M0 v)=true then(I9 o e v c).bind λp=>(IK p.2.store[p.1]?).bind λd=>(AJ a d).map λw=>(.val w,p.2) else .none
noncomputable def Rs(a:St):Const->Option (R×St)|.none=>some (.val<|.d .none,a)|.bool b=>some (.val<|.d<|.bool b,a)|.int i=>some (.val<|.d<|.int i,a)|.str s=>if PyData.strOk s=true then some (.val<|.d<|.str s,a) else .none|_=>.none
noncomputable def Rt(G:Gl)(o:Ops)(h:Fn)(e:Expr)(g:St):Option<|R×St:=match e with
 |.Constant c _ _=>Rs g c|.Name x _=>ID G h x g|.UnaryOp k x _=>match k with|.USub=>(G8 o h x g).map λp=>(.val<|.d<|.int<|-p.1,p.2)|_=>.none
 |.BinOp l k r _=>(o.ev h l g).bind λp=>(o.ev h r p.2).bind λq=>(Er q.2.store k p.1 q.1).map λx=>(x,q.2)|.IfExp t b e _=>(o.tt h t g).bind λp=>cond p.1 (o.ev h b p.2) (o.ev h e p.2)|.List i _=>if i.length<=lim then(Dt o h i g).map λp=>(.fresh p.1,p.2) else .none|.Tuple i _ _=>if i.length<=lim then(Dt o h i g).map λp=>(.val<|EJ p.1,p.2) else .none|.Dict m u _=>if (m.isEmpty&&u.isEmpty)=true then some (.val<|.loc g.store.length,g.add<|.dct false []) else .none|.ListComp n y w _=>Ly G o h n y w g|.Call f z m j=>match m with|[]=>Yq G o h f z j g|_=>.none
 |.Attribute v a _=>Rq G o h v a g|.Subscript v s _=>RW o h v s g|_=>.none
noncomputable def OJ(l r:Expr):Option Expr:=(IF l).bind λp=>if (decide (p.1 ="type")&&decide (FM r=some "int"))=true then one p.2 else .none
noncomputable def OK(G:Gl)(o:Ops)(a:Fn)(c:St)(b:Bool)(e:Expr):Option<|Bool×St:=if (DJ G a "type"&&DJ G a "int")=true then(G8 o a e c).map λp=>(b,p.2) else .none
noncomputable def Ru(G:Gl)(o:Ops)(a:Fn)(l:Expr)(d:CmpOp)(r:Expr)(c:St):Option<|Bool×St:=match d with|.Is=>if KP r=true then(o.ev a l c).map λp=>(isNone p.1,p.2) else(OJ l r).bind (OK G o a c true)|.IsNot=>if KP r=true then(o.ev a l c).map λp=>(!isNone p.1,p.2) else(OJ l r).bind (OK G o a c false)|.In=>(o.ev a l c).bind λp=>(o.ev a r p.2).bind λq=>(G9 q.2.store p.1 q.1).map λb=>(b,q.2)|.NotIn=>(o.ev a l c).bind λp=>(o.ev a r p.2).bind λq=>(G9 q.2.store p.1 q.1).map λb=>(!b,q.2)|d=>(o.ev a l c).bind λp=>(o.ev a r p.2).bind λq=>(E4 d q.2.store p.1 q.1).map λb=>(b,q.2)
noncomputable def Rv:BoolOp->Bool|.And=>true|.Or=>false
noncomputable def Et(o:Ops)(d:Fn)(c:BoolOp):List Expr->St->Option (Bool×St)|[],a=>some (Rv c,a)|t::r,a=>(o.tt d t a).bind λp=>if (p.1==Rv c)=true then Et o d c r p.2 else some p
noncomputable def Rw:CmpOp->Bool
 |.Lt|.LtE|.Gt|.GtE=>true
 |_=>false
noncomputable def Yr(a:CmpOp)(b:Bool×Int)(t:(Bool×Int)×St):Option<|Bool×St:=(KF a b t.1).map λc=>(c,t.2)
noncomputable def Ys(o:Ops)(d:Fn)(a:CmpOp)(r:Expr)(q:(Bool×Int)×St)(c:Bool):Option<|Bool×St:=cond c ((I8 o d r q.2).bind<|Yr a q.1)<|some (false,q.2)
noncomputable def Yt(o:Ops)(e:Fn)(d c:CmpOp)(r:Expr)(a:Bool×Int)(q:(Bool×Int)×St):Option<|Bool×St:=(KF d a q.1).bind<|Ys o e c r q
noncomputable def Yu(o:Ops)(c:Fn)(d a:CmpOp)(m r:Expr)(p:(Bool×Int)×St):Option<|Bool×St:=(I8 o c m p.2).bind<|Yt o c d a r p.1
noncomputable def OL(o:Ops)(a:Fn)(l:Expr)(p q:CmpOp×Expr)(c:St):Option<|Bool×St:=if Rw q.1=true then(I8 o a l c).bind (Yu o a p.1 q.1 p.2 q.2) else .none
noncomputable def Yv(G:Gl)(o:Ops)(d:Fn)(l:Expr)(a:St)(Br:List CmpOp)(c:List Expr):Option<|Bool×St:=BK (one Br) (λe=>(one c).bind λr=>Ru G o d l e r a)<|(GZ Br).bind λp=>(GZ c).bind λq=>OL o d l (p.1,q.1) (p.2,q.2) a
noncomputable def M5(o:Ops)(c:Fn)(e:Expr)(a:St):Option<|Bool×St:=(o.ev c e a).bind λp=>(Ls p.2.store p.1).map λb=>(b,p.2)
noncomputable def Rx(G:Gl)(o:Ops)(c:Fn)(e:Expr)(a:St):Option<|Bool×St:=match e with
 |.UnaryOp d x _=>match d with|.Not=>(o.tt c x a).map λp=>(!p.1,p.2)|_=>M5 o c e a
 |.BoolOp d f _=>Et o c d f a|.Compare l Br g _=>Yv G o c l a Br g|.IfExp ..=>.none|e=>M5 o c e a
noncomputable def OM(c:List Cell)(n:Nat)(q:Bool×Int)(v:V):Option Cell->Option (List Cell)|some (.lst l)=>(plain q).bind λi=>if (decide (0<=i)&&decide (i.toNat<l.length))=true then some (c.set n<|.lst<|l.set i.toNat v) else .none|some (.dct b a)=>if (Ea b a q&&decide (a.length<lim))=true then some (c.set n<|.dct q.1<|BX q.2 v a) else .none|_=>.none
noncomputable def M6(c:List Cell)(n:Nat)(q:Bool×Int):Option Cell->Option (List Cell)|some (.lst l)=>(plain q).bind λi=>(seqIndex? i l.length).map λk=>c.set n (.lst<|l.eraseIdx k)|some (.dct b a)=>if (Ea b a q&&(AX q.2 a).isSome)=true then some (c.set n<|.dct q.1<|Cd q.2 a) else .none|_=>.none
noncomputable def Yw(G:Gl)(a:Str)(v:V)(p:Nat×St):Option St:=(IK p.2.store[p.1]?).bind λc=>if (G.flds.contains a&&decide (c.length<8))=true then some (p.2.put p.1<|.inst<|AS a v c) else .none
noncomputable def Yx(v:V)(n:Nat)(q:(Bool×Int)×St):Option St:=(OM q.2.store n q.1 v q.2.store[n]?).map λa=>q.2.sto a
noncomputable def Ga(G:Gl)(o:Ops)(c:Fn)(t:Expr)(v:V)(d:St):Option St:=match t with|.Name x _=>if DD c x=true then some (d.set x v) else .none|.Attribute b a _=>(I9 o c b d).bind (Yw G a v)|.Subscript b i _=>(I9 o c b d).bind λp=>(I8 o c i p.2).bind (Yx v p.1)|_=>.none
noncomputable def GD(G:Gl)(o:Ops)(d:Fn):List Expr->List V->St->Option St|[],a,c=>if a.isEmpty=true then some c else .none|t::e,a,c=>match a with|v::a=>(Ga G o d t v c).bind λc=>GD G o d e a c|[]=>.none
noncomputable def M7(G:Gl)(o:Ops)(c:Fn)(v:V):List Expr->St->Option St|[],a=>some a|t::d,a=>(Ga G o c t v a).bind λa=>M7 G o c v d a
noncomputable def wants(a:Fn)(e:Expr):Bool:=BK (FM e) (λx=>a.hm||a.mv.contains x) a.hm
noncomputable def Kb(o:Ops)(c:Fn):List Expr->List Expr->St->Option (List V×St)|[],d,a=>if d.isEmpty=true then some ([],a) else .none|t::f,d,a=>match d with|e::r=>(En o (wants c t) c e a).bind λp=>(Kb o c f r p.2).map λq=>(p.1::q.1,q.2)|[]=>.none
noncomputable def J7:List Expr->Option (List Str)|[]=>some []|t::r=>(FM t).bind λx=>(J7 r).map (x::·)
noncomputable def M8:List Str->Bool|[]=>true|x::r=>!r.contains x&&M8 r
noncomputable def J8(a:List Expr):Bool:=decide (a.length<=8)&&BK (J7 a) M8 (a.all Yk)
noncomputable def Yy(G:Gl)(o:Ops)(c:Fn)(a:List Expr)(e:Expr)(d:St):Option St:=if J8 a=true then BK (HP e) (λf=>cond (f.all<|constantsAlone 8) .none<|(Kb o c a f d).bind λp=>GD G o c a p.1 p.2) ((En o false c e d).bind λp=>(I5 p.1).bind λl=>GD G o c a l p.2) else .none
noncomputable def Yz(G:Gl)(o:Ops)(a:Fn)(t e:Expr)(c:St):Option St:=BK (HP t) (λd=>Yy G o a d e c)<|(En o (wants a t) a e c).bind λp=>Ga G o a t p.1 p.2
noncomputable def Ry(G:Gl)(o:Ops)(c:Fn)(a:List Expr)(e:Expr)(d:St):Option St:=BK (one a) (λt=>Yz G o c t e d)<|if (J8 a&&(J7 a).isSome)=true then(En o false c e d).bind λp=>M7 G o c p.1 a p.2 else .none
noncomputable def Z0(n:Nat)(q:(Bool×Int)×St):Option St:=(M6 q.2.store n q.1 q.2.store[n]?).map λa=>q.2.sto a
noncomputable def Kc(o:Ops)(c:Fn):List Expr->St->Option St|[],a=>some a|t::r,a=>(OB t).bind λp=>(I9 o c p.1 a).bind λb=>(I8 o c p.2 b.2).bind λq=>(Z0 b.1 q).bind λa=>Kc o c r a
noncomputable def ON:Fl->Bool|.next=>true|.ret _=>false
noncomputable def forLoop'(o:Ops)(d:Fn)(t:Tg)(a:List Stmt):List V->St->Option St|[],c=>some c|v::r,c=>(GB t v c).bind λc=>(o.ex d a c).bind λp=>if ON p.1=true then forLoop' o d t a r p.2 else .none
noncomputable def whileLoop'(o:Ops)(c:Fn)(t:Expr)(a:List Stmt):Nat->St->Option St|0,_=>.none|k+1,d=>(o.tt c t d).bind λp=>cond p.1 ((o.ex c a p.2).bind λq=>if ON q.1=true then whileLoop' o c t a k q.2 else .none)<|some p.2
noncomputable def next(a:St):Fl×St:=(.next,a)
noncomputable def Rz(o:Ops)(c:Fn)(x:Str)(e:Expr)(a:St):Option St:=if DD c x=true then(AJ x a.vars).bind λv=>(I7<|.val v).bind λi=>(G8 o c e a).map λp=>p.2.set x (.d<|.int<|i+p.1) else .none
noncomputable def OO(G:Gl)(o:Ops)(a:Fn)(s:Stmt)(f:St):Option<|Fl×St:=match s with
 |.Assign h e _=>(Ry G o a h e f).map next|.AugAssign t i e _=>match i with|.Add=>(FM t).bind λx=>(Rz o a x e f).map next|_=>.none
 |.If t b e _=>(o.tt a t f).bind λp=>cond p.1 (o.ex a b p.2) (o.ex a e p.2)|.For t j c g _=>match g with|[]=>(Fk G o a j f).bind λp=>(Dg t).bind λt=>if Ci a p.1.pr t=true then(forLoop' o a t c p.1.items p.2).map next else .none|_=>.none
 |.While t c g _=>match g with|[]=>(whileLoop' o a t c 1000 f).map next|_=>.none
 |.Return e _=>match e with|some e=>(o.ev a e f).map λp=>(.ret p.1,p.2)|.none=>some (.ret<|.val<|.d .none,f)
 |.Expr e _=>if GY e=true then .none else(o.ev a e f).map λp=>next p.2|.Delete h _=>(Kc o a h f).map next|_=>.none
noncomputable def S5(G:Gl)(o:Ops)(c:Fn)(d:List Stmt)(a:St):Option<|Fl×St:=match d with|[]=>some (next a)|s::r=>(OO G o c s a).bind λp=>match p.1 with|.next=>o.ex c r p.2|.ret x=>some (.ret x,p.2)
noncomputable def M9:Fl->R|.next=>.val (.d .none)|.ret r=>r
noncomputable def S6(o:Ops)(f:Fn)(a:List V)(c:List Cell):Option<|R×List Cell:=if a.length=f.params.length then cond f.sh ((o.ex f f.body ⟨f.params.zip a,c⟩).map λp=>(M9 p.1,p.2.store)) (if c.isEmpty=true then(o.ex f f.body ⟨f.params.zip a,[]⟩).bind λp=>(IH p.2.store<|M9 p.1).map λr=>(r,[]) else .none) else .none
noncomputable def AY(G:Gl):Nat->Ops|0=>⟨λ_ _ _=>.none,λ_ _ _=>.none,λ_ _ _=>.none,λ_ _ _=>.none⟩|n+1=>⟨Rt G<|AY G n,Rx G<|AY G n,S5 G<|AY G n,S6<|AY G n⟩
section
universe u
variable{c:Type u}{P:Prop}{a:c}{l:List c}
def Ae(h:none=some a):P:=by cases h
def FO(h:some a=none):P:=by cases h
def Bw(h:false=true):P:=Bool.noConfusion h
def Kd(h:true=false):P:=Bool.noConfusion h
def nX(h:[]=a::l):P:=by cases h
def DW(h:a::l=[]):P:=by cases h
end
open PyProof.Rows
structure Iota where
 base:Int
noncomputable def Iota.f(I:Iota):Bool->Int->Int|false,i=>i|true,k=>I.base+k
structure Mm where
 F:Addr->Prop
 ad:List Addr
 gp:List (List Addr)
structure Sm where
 s:Shared
 M:Mm
def Sm.seq(T:Sm)(d:String)(a:Addr)(c:List Value):Prop:=∃n,T.s.heap.get? a=some (seqObj d (List.toArray c) n)
section
variable(I:Iota)(T:Sm)
mutual
noncomputable def AZ:D->Value->Prop|.none,v=>v=.none|.bool b,v=>v=.bool b|.int i,v=>∃t,v=.int i t|.key k,v=>∃t,v=.int (I.f true k) t|.str s,v=>∃t,v=.str s t/\PyData.strOk s=true|.tup l,v=>∃a c,v=.ref a/\T.M.F a/\T.seq "tuple" a c/\l.length<=lim/\EB l c|.lst l,v=>∃a c,v=.ref a/\T.M.F a/\T.seq "list" a c/\l.length<=lim/\EB l c
noncomputable def EB:List D->List Value->Prop|[],a=>a=[]|d::r,a=>∃u c,a=u::c/\AZ d u/\EB r c
end
mutual
noncomputable def AE:V->Value->Prop|.d x,v=>AZ I T x v|.loc n,v=>∃a,T.M.ad[n]?=some a/\v=.ref a|.tup l,v=>∃a c,v=.ref a/\T.M.F a/\T.seq "tuple" a c/\l.length<=lim/\Ke l c
noncomputable def Ke:List V->List Value->Prop|[],a=>a=[]|d::r,a=>∃u c,a=u::c/\AE d u/\Ke r c
end
end
noncomputable def AC{c:Type}(P:c->Value->Prop):List c->List Value->Prop|[],a=>a=[]|d::r,a=>∃u e,a=u::e/\P d u/\AC P r e
section
variable{r s:Type}{P t:r->Value->Prop}{l m:List r}{us o:List Value}{x:r}{u:Value}
def AC.k0{C:List Value->Prop}(h:AC P [] us)(k:C []):C us:=by subst h;exact k
def AC.k1{C:List Value->Prop}(h:AC P [x] us)(k:∀u,P x u->C [u]):C us:=by obtain⟨u,o,rfl,a,rfl⟩:=h;exact k u a
def AC.k2{C:List Value->Prop}{y:r}(h:AC P [x,y] us)(k:∀u w,P x u->P y w->C [u,w]):C us:=by obtain⟨u,o,rfl,a,w,c,rfl,b,rfl⟩:=h;exact k u w a b
def AC.cons(a:P x u)(b:AC P l us):AC P (x::l)<|u::us:=⟨u,us,rfl,a,b⟩
def AC.one(a:P x u):AC P [x] [u]:=.cons a rfl
theorem AC.imp(f:∀a u,P a u->t a u):∀{l:List r}{us:List Value},AC P l us->AC t l us:=by intro l;induction l with|nil=>exact id|cons x l c=>exact Exists.imp λu=>Exists.imp λo=>And.imp_right<|And.imp (f x u) c
theorem AC.length:∀{us:List Value},AC P l us->us.length=l.length:=by induction l with|nil=>intro us h;subst h;rfl|cons x l c=>intro us h;obtain⟨u,o,rfl,a,b⟩:=h;exact A3 (·+1)<|c b
def AC.append:∀{us:List Value},AC P l us->AC P m o->AC P (l++m) (us++o):=by induction l with|nil=>intro us h g;subst h;exact g|cons x l d=>intro us h g;obtain⟨u,c,rfl,a,b⟩:=h;exact⟨u,c++o,rfl,a,d b g⟩
def AC.get:∀{us:List Value}{i:Nat},AC P l us->l[i]?=some x->∃u,us[i]?=some u/\P x u:=by induction l with|nil=>exact λ_ e=>by exact Ae e|cons y l c=>intro us i h e;obtain⟨u,d,rfl,a,b⟩:=h;cases i with|zero=>obtain rfl:=Option.some.inj e;exact⟨u,rfl,a⟩|succ i=>have q:=c b e;exact q
theorem AC.take:∀{us:List Value}(n:Nat),AC P l us->AC P (l.take n) (us.take n):=by induction l with|nil=>intro us n h;subst h;cases n<;>exact rfl|cons y l d=>intro us n h;obtain⟨u,c,rfl,a,b⟩:=h;cases n with|zero=>exact rfl|succ n=>exact⟨u,c.take n,rfl,a,d n b⟩
theorem AC.drop:∀{us:List Value}(n:Nat),AC P l us->AC P (l.drop n) (us.drop n):=by induction l with|nil=>intro us n h;subst h;cases n<;>exact rfl|cons y l c=>intro us n h;cases n with|zero=>exact h|succ n=>obtain⟨u,d,rfl,a,b⟩:=h;exact c n b
theorem AC.set(a:P x u):∀{us:List Value}(n:Nat),AC P l us->AC P (l.set n x) (us.set n u):=by induction l with|nil=>intro us n h;subst h;exact rfl|cons y l e=>intro us n h;obtain⟨w,d,rfl,c,b⟩:=h;cases n with|zero=>exact⟨u,d,rfl,a,b⟩|succ n=>exact⟨w,d.set n u,rfl,c,e n b⟩
def AC.erase:∀{us:List Value}(n:Nat),AC P l us->AC P (l.eraseIdx n) (us.eraseIdx n):=by induction l with|nil=>intro us n h;subst h;exact rfl|cons y l d=>intro us n h;obtain⟨w,a,rfl,c,b⟩:=h;cases n with|zero=>exact b|succ n=>exact⟨w,a.eraseIdx n,rfl,c,d n b⟩
theorem AC.map{f:s->r}:∀{l:List s}{us:List Value},AC P (l.map f) us↔AC (λb u=>P (f b) u) l us:=by intro l;induction l with|nil=>exact Iff.rfl|cons b l a=>exact exists_congr λu=>exists_congr λo=>and_congr_right λ_=>and_congr_right λ_=>a
def AC.ext:∀{us:List Value},us.length=l.length->(∀(j:Nat) d u,l[j]?=some d->us[j]?=some u->P d u)->AC P l us:=by induction l with|nil=>exact λe _=>List.length_eq_zero_iff.mp e|cons y l a=>intro us e k;cases us with|nil=>exact absurd e (Nat.ne_of_beq_eq_false rfl)|cons u us=>exact⟨u,us,rfl,k 0 y u rfl rfl,a (Nat.succ.inj e) λj=>k<|j+1⟩
end
structure MonoF(T T':Sm):Prop where
 F:∀a,T.M.F a->T'.M.F a
 keep:∀a o,T.M.F a->T.s.heap.get? a=some o->T'.s.heap.get? a=some o
theorem MonoF.seq{T g:Sm}(m:MonoF T g){d:String}{a:Addr}{c:List Value}(f:T.M.F a)(h:T.seq d a c):g.seq d a c:=h.imp λn e=>m.keep a _ f e
structure Mono(T T':Sm):Prop where
 F:∀a,T.M.F a->T'.M.F a
 keep:∀a o,T.M.F a->T.s.heap.get? a=some o->T'.s.heap.get? a=some o
 ad:T.M.ad<+:T'.M.ad
def Mono.refl(T:Sm):Mono T T:=⟨λ_ f=>f,λ_ _ _ e=>e,CG _⟩
theorem Mono.trans{T d c:Sm}(a:Mono T d)(b:Mono d c):Mono T c:=⟨λx f=>b.F x<|a.F x f,λx o f e=>b.keep x o (a.F x f)<|a.keep x o f e,a.ad.trans b.ad⟩
theorem Mono.seq{T g:Sm}(m:Mono T g){d:String}{a:Addr}{c:List Value}(f:T.M.F a)(h:T.seq d a c):g.seq d a c:=h.imp λn e=>m.keep a _ f e
def Mono.loc{T c:Sm}(m:Mono T c){n:Nat}{a:Addr}(h:T.M.ad[n]?=some a):c.M.ad[n]?=some a:=by obtain⟨t,e⟩:=m.ad;rw[<-e];exact(List.getElem?_append_left (List.getElem?_eq_some_iff.mp h).1).trans h
section
variable{I:Iota}{T T':Sm}{u:Value}
def Gb:∀{l:List D}{a:List Value},EB I T l a↔AC (AZ I T) l a:=by intro l;induction l with|nil=>exact Iff.rfl|cons d l c=>exact exists_congr λu=>exists_congr λe=>and_congr_right λ_=>and_congr_right λ_=>c
def S7:∀{l:List V}{a:List Value},Ke I T l a↔AC (AE I T) l a:=by intro l;induction l with|nil=>exact Iff.rfl|cons d l c=>exact exists_congr λu=>exists_congr λe=>and_congr_right λ_=>and_congr_right λ_=>c
def AZ.num_k{q:Bool×Int}{P:Value->Prop}(h:AZ I T (Eo q) u)(k:∀t,P<|.int (I.f q.1 q.2) t):P u:=by obtain⟨b,i⟩:=q;cases b<;>(obtain⟨t,rfl⟩:=h;exact k t)
def AZ.num(q:Bool×Int)(t:Tok):AZ I T (Eo q)<|.int (I.f q.1 q.2) t:=by obtain⟨b,i⟩:=q;cases b<;>exact⟨t,rfl⟩
def AZ.tup_k{l:List D}{P:Value->Prop}(h:AZ I T (.tup l) u)(k:∀a c,T.M.F a->T.seq "tuple" a c->l.length<=lim->AC (AZ I T) l c->P (.ref a)):P u:=by obtain⟨a,c,rfl,f,e,z,r⟩:=h;exact k a c f e z<|Gb.mp r
def AZ.lst_k{l:List D}{P:Value->Prop}(h:AZ I T (.lst l) u)(k:∀a c,T.M.F a->T.seq "list" a c->l.length<=lim->AC (AZ I T) l c->P (.ref a)):P u:=by obtain⟨a,c,rfl,f,e,z,r⟩:=h;exact k a c f e z<|Gb.mp r
def AE.tup_k{l:List V}{P:Value->Prop}(h:AE I T (.tup l) u)(k:∀a c,T.M.F a->T.seq "tuple" a c->l.length<=lim->AC (AE I T) l c->P (.ref a)):P u:=by obtain⟨a,c,rfl,f,e,z,r⟩:=h;exact k a c f e z<|S7.mp r
def AE.loc_k{n:Nat}{P:Value->Prop}(h:AE I T (.loc n) u)(k:∀a,T.M.ad[n]?=some a->P (.ref a)):P u:=by obtain⟨a,e,rfl⟩:=h;exact k a e
def AZ.monoF(m:MonoF T T'){d:D}{v:Value}:AZ I T d v->AZ I T' d v:=D.rec (motive_1:=λd=>∀v,AZ I T d v->AZ I T' d v) (motive_2:=λl=>∀c,EB I T l c->EB I T' l c) (λ_=>id) (λ_ _=>id) (λ_ _=>id) (λ_ _=>id) (λ_ _=>id) (λ_ e _=>Exists.imp λa=>Exists.imp λc=>And.imp_right λh=>⟨m.F a h.1,m.seq h.1 h.2.1,h.2.2.1,e c h.2.2.2⟩) (λ_ e _=>Exists.imp λa=>Exists.imp λc=>And.imp_right λh=>⟨m.F a h.1,m.seq h.1 h.2.1,h.2.2.1,e c h.2.2.2⟩) (λ_=>id) (λ_ _ p q _=>Exists.imp λu=>Exists.imp λf=>And.imp_right<|And.imp (p u)<|q f) d v
def AZ.mono(m:Mono T T'){d:D}{v:Value}(h:AZ I T d v):AZ I T' d v:=h.monoF ⟨m.F,m.keep⟩
theorem AE.mono(m:Mono T T'){d:V}{v:Value}:AE I T d v->AE I T' d v:=V.rec (motive_1:=λd=>∀v,AE I T d v->AE I T' d v) (motive_2:=λl=>∀c,Ke I T l c->Ke I T' l c) (λ_ _=>AZ.mono m) (λ_ _=>Exists.imp λ_=>And.imp_left m.loc) (λ_ f _=>Exists.imp λa=>Exists.imp λc=>And.imp_right λh=>⟨m.F a h.1,m.seq h.1 h.2.1,h.2.2.1,f c h.2.2.2⟩) (λ_=>id) (λ_ _ p q _=>Exists.imp λu=>Exists.imp λe=>And.imp_right<|And.imp (p u)<|q e) d v
theorem AC.mono(m:Mono T T'){l:List V}{a:List Value}(h:AC (AE I T) l a):AC (AE I T') l a:=h.imp λ_ _=>AE.mono m
def AC.monoD(m:Mono T T'){l:List D}{a:List Value}(h:AC (AZ I T) l a):AC (AZ I T') l a:=h.imp λ_ _=>AZ.mono m
def J9{v:V}{d:D}{P:V->Prop}(h:GS v=some d)(k:P<|.d d):P v:=by cases v<;>(first|obtain rfl:=Option.some.inj h|exact Ae h);exact k
def Gc{l:List V}{a:List D}{P:List V->Prop}(h:Cn l=some a)(k:P<|a.map V.d):P l:=by
 have:l=a.map V.d:=by induction l generalizing a P with|nil=>obtain rfl:=Option.some.inj h;rfl|cons v l f=>
  cases v with
  |d x=>cases e:Cn l with|none=>have c:(Cn l).map (x::·)=some a:=h;rw[e] at c;exact Ae c|some g=>have c:(Cn l).map (x::·)=some a:=h;rw[e] at c;obtain rfl:=Option.some.inj c;exact A3 (V.d x::·)<|f (P:=λ_=>True) e trivial
  |_=>exact Ae h
 rw[this];exact k
end
def Mm.W(M:Mm)(a:Addr):Prop:=a∈M.gp.flatten
def Al(h:Heap)(a:Addr):Prop:=∃o,h.get? a=some o
def FA(c:Env)(a:Addr):Prop:=a=c.locals\/∃x,c.cells.lookup x=some a
def Al.lt{h:Heap}{a:Addr}(x:Al h a):a<h.objs.size:=x.elim λ_ e=>Heap.lt_size e
def Eu(h:Heap):¬Al h h.objs.size:=λx=>Nat.lt_irrefl _ x.lt
structure Cx where
 prog:Program
 w:World
 C:Addr
 hB:Heap
 I:Iota
 G:Gl
 mg:Str->Option Value
 mb:Str->Option Value
structure Fx where
 fn:Fn
 env:Env
noncomputable def Bf(I:Iota)(T:Sm)(b:Bool):List (Int×V)->List (Int×Value)->Prop|[],a=>a=[]|p::r,a=>∃v c,a=(I.f b p.1,v)::c/\AE I T p.2 v/\Bf I T b r c
noncomputable def Dv(P:Params)(I:Iota)(T:Sm):List (Str×V)->List DictEntry->Prop|[],c=>c=[]|p::r,c=>∃t v a,c=⟨PyData.keyHash P p.1,.str p.1 t,v⟩::a/\AE I T p.2 v/\Dv P I T r a
structure InsAt(X:Cx)(T:Sm)(a dx:Addr)(fs:List (Str×V))(es:List DictEntry)(n:Nat):Prop where
 obj:T.s.heap.get? a=some {cls:=.ref X.C,dict:=some dx,data:=.plain}
 dict:T.s.heap.get? dx=some {cls:=.type "dict",data:=.dict (List.toArray es) n}
 rep:Dv X.w.params X.I T fs es
 nod:(fs.map (·.1)).Nodup
 len:fs.length<=8
noncomputable def EM(X:Cx)(T:Sm)(a:Addr)(g:List Addr):Cell->Prop|.lst l=>g=[a]/\∃e,T.seq "list" a e/\AC (AE X.I T) l e/\l.length<=lim|.froz l=>g=[]/\AZ X.I T (.lst l) (.ref a)|.dct b d=>g=[a]/\∃c,T.s.heap.DictOf (intKind X.prog X.w) a c/\Bf X.I T b d c/\d.length<=lim|.inst h=>∃f d n,g=[a,f]/\InsAt X T a f h d n
structure Mid(X:Cx)(σ:List Cell)(T:Sm):Prop where
 top:∀b o,X.hB.get? b=some o->T.s.heap.get? b=some o
 base:∀a,Al X.hB a->T.M.F a
 fal:∀a,T.M.F a->Al T.s.heap a
 fw:∀a,T.M.F a->¬T.M.W a
 la:T.M.ad.length=σ.length
 lg:T.M.gp.length=σ.length
 nod:T.M.gp.flatten.Nodup
 cell:∀(l:Nat)(c:Cell),σ[l]?=some c->∃a g,T.M.ad[l]?=some a/\T.M.gp[l]?=some g/\EM X T a g c
inductive Has(I:Iota)(F:Fx)(vars:List (Str×V))(T:Sm):Prop where
 |mk (m cm:Str->Option Value):T.s.heap.Ns F.env.locals m->(∀x c,F.env.cells.lookup x=some c->T.s.heap.IsCell c (cm x))->(∀x v,AJ x vars=some v->∃u,AE I T v u/\((F.env.kindOf x=some .local/\m x=some u)\/((F.env.kindOf x=some .cell\/F.env.kindOf x=some .free)/\cm x=some u)))->Has I F vars T
structure Frm(I:Iota)(F:Fx)(vars:List (Str×V))(T:Sm):Prop where
 kind:F.env.scope.kind=.function
 dbg:F.fn.names.lookup ("__debug__" : Str)=.none/\F.fn.names.lookup ("__classdict__" : Str)=.none
 loc:∀x,F.fn.names.lookup x=some .local->F.env.kindOf x=some .local
 cel:∀x,F.fn.names.lookup x=some .cell->F.env.kindOf x=some .cell
 fre:∀x,F.fn.names.lookup x=some .free->F.env.kindOf x=some .cell\/F.env.kindOf x=some .free
 glo:∀x,F.fn.names.lookup x=some .globalImplicit->F.env.kindOf x=some .globalImplicit
 glb:F.env.globals=mainGlobals
 blt:F.env.builtins=builtinsNs
 cells:∀x,(F.env.kindOf x=some .cell\/F.env.kindOf x=some .free)->∃c,F.env.cells.lookup x=some c
 apart:∀x y c,F.env.cells.lookup x=some c->F.env.cells.lookup y=some c->x=y
 above:∀x c,F.env.cells.lookup x=some c->c≠F.env.locals
 has:Has I F vars T
structure Inv(X:Cx)(F:Fx)(st:St)(T:Sm):Prop where
 mid:Mid X st.store T
 ffa:∀a,FA F.env a->¬T.M.F a/\¬T.M.W a
 frm:Frm X.I F st.vars T
structure Ext(Z:Addr->Prop)(T T':Sm):Prop where
 sh:∃h' tk,T'.s={T.s with heap:=h',toks:=tk}
 keep:∀a o,T.s.heap.get? a=some o->¬Z a->T'.s.heap.get? a=some o
 al:∀a,Al T.s.heap a->Al T'.s.heap a
 F:∀a,T.M.F a->T'.M.F a
 fnew:∀a,T'.M.F a->T.M.F a\/T.M.W a\/¬Al T.s.heap a
 wnew:∀a,T'.M.W a->T.M.W a\/¬Al T.s.heap a
 ad:T.M.ad<+:T'.M.ad
def Wa(F:Fx)(T:Sm)(a:Addr):Prop:=T.M.W a\/FA F.env a
def FS(F:Fx)(a:Addr):Prop:=a=F.env.locals\/∃x,F.fn.names.lookup x=some .cell/\F.env.cells.lookup x=some a
def Wr(F:Fx)(T:Sm)(a:Addr):Prop:=T.M.W a\/FS F a
structure AL(X:Cx)(F:Fx)(T:Sm)(st:St)(T':Sm):Prop where
 ext:Ext T.M.W T T'
 mono:Mono T T'
 inv:Inv X F st T'
structure AftS(X:Cx)(F:Fx)(T:Sm)(st:St)(T':Sm):Prop where
 ext:Ext (Wr F T) T T'
 mono:Mono T T'
 inv:Inv X F st T'
noncomputable def Sm.hp(T:Sm)(h:Heap)(a:Nat):Sm:=⟨{T.s with heap:=h,toks:=a},T.M⟩
noncomputable def Sm.mm(T:Sm)(M:Mm):Sm:=⟨T.s,M⟩
section
variable{X:Cx}{F:Fx}{T T' A:Sm}{j C:St}{E:List Cell}{Z H:Addr->Prop}{I:Iota}{h:Heap}{tk:Nat}{P:Params}
def FS.fa{a:Addr}(h:FS F a):FA F.env a:=h.imp_right λq=>q.imp λ_ q=>q.2
def Wr.wa{a:Addr}(h:Wr F T a):Wa F T a:=h.imp_right FS.fa
theorem Bf.mono(m:Mono T T'){b:Bool}:∀{c:List (Int×V)}{a:List (Int×Value)},Bf I T b c a->Bf I T' b c a:=by intro c;induction c with|nil=>exact id|cons p c d=>exact Exists.imp λv=>Exists.imp λe=>And.imp_right<|And.imp (AE.mono m) d
theorem Dv.mono(m:Mono T T'):∀{c:List (Str×V)}{a:List DictEntry},Dv P I T c a->Dv P I T' c a:=by intro c;induction c with|nil=>exact id|cons p c d=>exact Exists.imp λt=>Exists.imp λv=>Exists.imp λe=>And.imp_right<|And.imp (AE.mono m) d
theorem InsAt.mono{a c:Addr}{e:List (Str×V)}{f:List DictEntry}{n:Nat}(m:Mono T T')(d:∀b o,b=a\/b=c->T.s.heap.get? b=some o->T'.s.heap.get? b=some o)(x:InsAt X T a c e f n):InsAt X T' a c e f n:=⟨d _ _ (.inl rfl) x.obj,d _ _ (.inr rfl) x.dict,x.rep.mono m,x.nod,x.len⟩
theorem EM.mono{a:Addr}{g:List Addr}(m:Mono T T')(i:∀b o,b∈g->T.s.heap.get? b=some o->T'.s.heap.get? b=some o):∀{c:Cell},EM X T a g c->EM X T' a g c:=by
 intro c;cases c with
 |lst l=>rintro⟨e,p,⟨n,o⟩,r,z⟩;exact⟨e,p,⟨n,i _ _ (by rw[e];exact Dq a) o⟩,r.mono m,z⟩
 |froz l=>exact And.imp_right (AZ.mono m)|dct b k=>rintro⟨e,f,d,r,z⟩;exact⟨e,f,d.at λo=>i _ o<|by rw[e];exact Dq a,r.mono m,z⟩
 |inst u=>rintro⟨t,k,n,e,r⟩;exact⟨t,k,n,e,r.mono m λb o q=>i b o<|by rw[e];exact An.mpr<|q.imp_right Ao.mpr⟩
def EM.al{a b:Addr}{g:List Addr}(d:b∈g):∀{c:Cell},EM X T a g c->Al T.s.heap b:=by
 intro c;cases c with
 |lst l=>rintro⟨rfl,k,⟨n,o⟩,_⟩;rw[Ao.mp d];exact⟨_,o⟩
 |froz l=>rintro⟨rfl,_⟩;exact absurd d Ax
 |dct _ i=>rintro⟨rfl,f,⟨o,_,_,e,_⟩,_⟩;rw[Ao.mp d];exact⟨o,e⟩
 |inst m=>rintro⟨p,i,n,rfl,r⟩;exact(An.mp d).elim (λq=>q▸⟨_,r.obj⟩) λq=>Ao.mp q▸⟨_,r.dict⟩
def Mm.W_of{M:Mm}{l:Nat}{g:List Addr}{a:Addr}(c:M.gp[l]?=some g)(d:a∈g):M.W a:=List.mem_flatten.mpr ⟨g,List.mem_of_getElem? c,d⟩
def Mid.wal(x:Mid X E T){a:Addr}(k:T.M.W a):Al T.s.heap a:=by obtain⟨g,i,f⟩:=List.mem_flatten.mp k;obtain⟨l,d,e⟩:=List.getElem_of_mem i;obtain⟨b,n,_,m,c⟩:=x.cell l _<|Cv<|x.lg▸d;cases (Cv d).symm.trans m;exact c.al<|e▸f
theorem Inv.wal(x:Inv X F j T){a:Addr}(c:T.M.W a):Al T.s.heap a:=x.mid.wal c
def Inv.faal(x:Inv X F j T){a:Addr}(g:FA F.env a):Al T.s.heap a:=by obtain⟨m,l,⟨o,i,k,d,_⟩,f,_⟩:=x.frm.has;cases g with|inl e=>exact e▸⟨o,d⟩|inr q=>exact q.elim λy c=>(f y a c).elim λo q=>⟨o,q.1⟩
def Inv.fr(x:Inv X F j T){a:Addr}(f:T.M.F a):¬Wa F T a:=λq=>q.elim (x.mid.fw a f) λq=>(x.ffa a q).1 f
theorem Ext.trans(x:Ext Z T T')(y:Ext H T' A)(d:∀a,H a->Z a\/¬Al T.s.heap a):Ext Z T A where
 sh:=by
  obtain⟨h,t,e⟩:=x.sh
  obtain⟨f,c,g⟩:=y.sh
  exact⟨f,c,by rw[g,e]⟩
 keep a o e n:=y.keep a o (x.keep a o e n) λq=>(d a q).elim n λk=>k ⟨o,e⟩
 al a e:=y.al a<|x.al a e
 F a e:=y.F a<|x.F a e
 fnew a e:=(y.fnew a e).elim (x.fnew a) λq=>.inr<|q.elim (x.wnew a) λq=>.inr λk=>q<|x.al a k
 wnew a e:=(y.wnew a e).elim (x.wnew a) λq=>.inr λk=>q<|x.al a k
 ad:=x.ad.trans y.ad
def Ext.weaken(x:Ext Z T T')(h:∀a,Z a->H a\/¬Al T.s.heap a):Ext H T T':=⟨x.sh,λa o e n=>x.keep a o e λq=>(h a q).elim n λk=>k ⟨o,e⟩,x.al,x.F,x.fnew,x.wnew,x.ad⟩
def Ext.mono(x:Ext Z T T')(c:∀a,T.M.F a->¬Z a):Mono T T':=⟨x.F,λa o f e=>x.keep a o e<|c a f,x.ad⟩
theorem AL.trans(a:AL X F T j T')(b:AL X F T' C A):AL X F T C A:=⟨a.ext.trans b.ext a.ext.wnew,a.mono.trans b.mono,b.inv⟩
def AL.s(a:AL X F T j T'):AftS X F T j T':=⟨a.ext.weaken λ_ q=>.inl<|.inl q,a.mono,a.inv⟩
theorem AftS.trans(a:AftS X F T j T')(b:AftS X F T' C A):AftS X F T C A:=⟨a.ext.trans b.ext λx q=>q.elim (λq=>(a.ext.wnew x q).imp_left .inl) λq=>.inl<|.inr q,a.mono.trans b.mono,b.inv⟩
theorem Ext.hp(Z:Addr->Prop)(d:∀b o,¬Z b->T.s.heap.get? b=some o->h.get? b=some o)(c:∀b,Z b->Al T.s.heap b->Al h b):Ext Z T<|T.hp h tk:=⟨⟨h,tk,rfl⟩,λa o e n=>d a o n e,λa q=>(Classical.em<|Z a).elim (λz=>c a z q) λz=>q.imp λo e=>d a o z e,λ_ f=>f,λ_ f=>.inl f,λ_ f=>.inl f,CG _⟩
theorem Frm.mono{a:List (Str×V)}(x:Frm I F a T)(m:Mono T T')(f:∀b o,FA F.env b->T.s.heap.get? b=some o->T'.s.heap.get? b=some o):Frm I F a T':={x with has:=by obtain⟨l,n,k,i,g⟩:=x.has;exact⟨l,n,k.at' λo e=>f _ o (.inl rfl) e,λy c d=>(i y c d).imp λo e=>⟨f _ o (.inr ⟨y,d⟩) e.1,e.2⟩,λy v d=>(g y v d).imp λu r=>⟨r.1.mono m,r.2⟩⟩}
theorem Mid.hp(x:Mid X E T)(d:∀b o,T.M.F b\/T.M.W b->T.s.heap.get? b=some o->h.get? b=some o):Mid X E (T.hp h tk) where
 top b o e:=d b o (.inl<|x.base b ⟨o,e⟩)<|x.top b o e
 base:=x.base
 fal a f:=(x.fal a f).imp λo e=>d a o (.inl f) e
 fw:=x.fw
 la:=x.la
 lg:=x.lg
 nod:=x.nod
 cell l c e:=(x.cell l c e).imp λa q=>q.imp λg q=>⟨q.1,q.2.1,EM.mono (T:=T) (T':=T.hp h tk) ⟨λ_ f=>f,λa o f=>d a o<|.inl f,CG _⟩ (λb o m=>d b o<|.inr<|Mm.W_of q.2.1 m) q.2.2⟩
theorem Inv.hp(x:Inv X F j T)(c:∀b o,T.M.F b\/T.M.W b\/FA F.env b->T.s.heap.get? b=some o->h.get? b=some o):Inv X F j<|T.hp h tk:=⟨x.mid.hp λb o q=>c b o<|q.imp_right .inl,x.ffa,x.frm.mono ⟨λ_ f=>f,λa o f=>c a o<|.inl f,CG _⟩ λb o q=>c b o<|.inr<|.inr q⟩
theorem AL.refl(x:Inv X F j T):AL X F T j T:=⟨⟨⟨_,_,rfl⟩,λ_ _ e _=>e,λ_ e=>e,λ_ e=>e,λ_ e=>.inl e,λ_ e=>.inl e,CG _⟩,.refl T,x⟩
def AL.grow(x:Inv X F j T)(c:∀b o,T.s.heap.get? b=some o->h.get? b=some o):AL X F T j<|T.hp h tk:=⟨.hp _ (λb o _=>c b o) λb _ q=>q.imp λo=>c b o,⟨λ_ f=>f,λa o _=>c a o,CG _⟩,x.hp λb o _=>c b o⟩
def AL.tok(x:Inv X F j T)(tk:Nat):AL X F T j<|T.hp T.s.heap tk:=.grow x λ_ _ e=>e
noncomputable def Mm.frz(M:Mm)(P:Addr->Prop):Mm:={M with F:=λa=>M.F a\/P a}
theorem Mono.frz(P:Addr->Prop):Mono T<|T.mm<|T.M.frz P:=⟨λ_ f=>.inl f,λ_ _ _ e=>e,CG _⟩
theorem Inv.frz(x:Inv X F j T){P:Addr->Prop}(d:∀a,P a->Al T.s.heap a/\¬Wa F T a):Inv X F j (T.mm<|T.M.frz P) where
 mid:={x.mid with
  base:=λa f=>.inl<|x.mid.base a f
  fal:=λa f=>f.elim (x.mid.fal a) λp=>(d a p).1
  fw:=λa f=>f.elim (x.mid.fw a) λp q=>(d a p).2<|.inl q
  cell:=λl c e=>(x.mid.cell l c e).imp λa q=>q.imp λg q=>⟨q.1,q.2.1,q.2.2.mono (.frz P) λb o _ e=>e⟩}
 ffa a f:=⟨λq=>q.elim (x.ffa a f).1 λp=>(d a p).2<|.inr f,(x.ffa a f).2⟩
 frm:=x.frm.mono (.frz P) λb o _ e=>e
theorem AL.frz(x:AL X F T j T'){P:Addr->Prop}(c:∀a,P a->Al T'.s.heap a/\¬Wa F T' a/\¬Al T.s.heap a):AL X F T j<|T'.mm<|T'.M.frz P:=⟨⟨x.ext.sh,x.ext.keep,x.ext.al,λa f=>.inl<|x.ext.F a f,λa f=>f.elim (x.ext.fnew a) λp=>.inr<|.inr (c a p).2.2,x.ext.wnew,x.ext.ad⟩,x.mono.trans<|.frz P,x.inv.frz λa p=>⟨(c a p).1,(c a p).2.1⟩⟩
noncomputable def Mm.new(M:Mm)(a:Addr)(g:List Addr):Mm:={M with ad:=M.ad++[a],gp:=M.gp++[g]}
def Mm.new_W{M:Mm}{a b:Addr}{g:List Addr}:(M.new a g).W b↔M.W b\/b∈g:=by simp only [Mm.W,Mm.new,List.flatten_append,List.flatten_cons,List.flatten_nil,BJ,BE]
theorem Mono.new(a:Addr)(g:List Addr):Mono T<|T.mm<|T.M.new a g:=⟨λ_ f=>f,λ_ _ _ e=>e,List.prefix_append _ _⟩
def getElem?_snoc{c:Type}{l:List c}{x y:c}{n k:Nat}(d:l.length=k)(h:(l++[x])[n]?=some y):(n<k/\l[n]?=some y)\/(n=k/\x=y):=by subst d;by_cases a:n<l.length;exact .inl ⟨a,(List.getElem?_append_left a).symm.trans h⟩;rw[List.getElem?_append_right<|Nat.not_lt.mp a] at h;cases e:n-l.length with|zero=>rw[e] at h;obtain rfl:=Option.some.inj h;exact .inr ⟨Nat.le_antisymm (Nat.sub_eq_zero_iff_le.mp e)<|Nat.not_lt.mp a,rfl⟩|succ m=>rw[e] at h;exact Ae h
theorem Mid.new(x:Mid X E T){a:Addr}{g:List Addr}{c:Cell}(i:∀b∈g,¬T.M.F b/\¬T.M.W b)(k:g.Nodup)(m:EM X (T.mm<|T.M.new a g) a g c):Mid X (E++[c]) (T.mm<|T.M.new a g) where
 top:=x.top
 base:=x.base
 fal:=x.fal
 fw b f q:=(Mm.new_W.mp q).elim (x.fw b f) λq=>(i b q).1 f
 la:=by show(T.M.ad++[a]).length=_;rw[A9,A9,x.la];rfl
 lg:=by show(T.M.gp++[g]).length=_;rw[A9,A9,x.lg];rfl
 nod:=by
  show(T.M.gp++[g]).flatten.Nodup
  rw[List.flatten_append,List.flatten_cons,List.flatten_nil,BJ]
  exact List.nodup_append.mpr ⟨x.nod,k,λb n p d e=>(i p d).2<|e▸n⟩
 cell l c' e:=(getElem?_snoc rfl e).elim
  (λw=>(x.cell l c' w.2).imp λs q=>q.imp λr q=>⟨(List.getElem?_append_left<|x.la▸w.1).trans q.1,(List.getElem?_append_left<|x.lg▸w.1).trans q.2.1,q.2.2.mono (.new a g) λb o _ e=>e⟩)
  λw=>⟨a,g,by rw[w.1,<-x.la];exact List.getElem?_concat_length,by rw[w.1,<-x.lg];exact List.getElem?_concat_length,w.2▸m⟩
theorem Ext.new(x:Ext Z T T'){a:Addr}{g:List Addr}(h:∀b∈g,¬Al T.s.heap b):Ext Z T<|T'.mm<|T'.M.new a g:=⟨x.sh,x.keep,x.al,x.F,x.fnew,λb f=>(Mm.new_W.mp f).elim (x.wnew b) λq=>.inr<|h b q,x.ad.trans<|List.prefix_append _ _⟩
theorem AL.new(x:AL X F T j T'){a:Addr}{g:List Addr}{c:Cell}(d:∀b∈g,¬T'.M.F b/\¬Wa F T' b/\¬Al T.s.heap b)(i:g.Nodup)(k:EM X (T'.mm<|T'.M.new a g) a g c):AL X F T (j.add c) (T'.mm<|T'.M.new a g) where
 ext:=x.ext.new λb q=>(d b q).2.2
 mono:=x.mono.trans<|.new a g
 inv:=⟨x.inv.mid.new (λb q=>⟨(d b q).1,λw=>(d b q).2.1<|.inl w⟩) i k,λb f=>⟨(x.inv.ffa b f).1,λq=>(Mm.new_W.mp q).elim (x.inv.ffa b f).2 λq=>(d b q).2.1<|.inr f⟩,x.inv.frm.mono (.new a g) λb o _ e=>e⟩
def Z1:∀{c:List (List Addr)}{l k:Nat}{g e:List Addr}{a:Addr},c.flatten.Nodup->c[l]?=some g->c[k]?=some e->a∈g->a∈e->l=k:=by intro c;induction c with|nil=>exact λ_ h=>by exact Ae h|cons q c o=>
 intro l k g e a p d f m i;obtain⟨_,r,n⟩:=List.nodup_append.mp<|List.flatten_cons▸p;cases l with
 |zero=>cases k with|zero=>rfl|succ k=>obtain rfl:=Option.some.inj d;exact absurd rfl<|n a m a<|List.mem_flatten.mpr ⟨e,List.mem_of_getElem? f,i⟩
 |succ l=>cases k with|zero=>obtain rfl:=Option.some.inj f;exact absurd rfl (n a i a<|List.mem_flatten.mpr ⟨g,List.mem_of_getElem? d,m⟩)|succ k=>exact A3 (·+1)<|o r d f m i
def getElem?_set_some{a:Type}{l:List a}{x y:a}{n k:Nat}(h:(l.set n x)[k]?=some y):(n=k/\x=y)\/(n≠k/\l[k]?=some y):=by by_cases e:n=k;subst e;have:=(List.getElem?_eq_some_iff.mp h).1;rw[List.getElem?_set_self<|List.length_set▸this] at h;exact .inl ⟨rfl,Option.some.inj h⟩;exact .inr ⟨e,(List.getElem?_set_ne e).symm.trans h⟩
def Mid.upd(x:Mid X E T){l:Nat}{a:Addr}{g:List Addr}{c:Cell}(d:T.M.gp[l]?=some g)(r:T.M.ad[l]?=some a) (i:∀b o,b∉g->T.s.heap.get? b=some o->h.get? b=some o) (p:EM X (T.hp h tk) a g c):Mid X (E.set l c) (T.hp h tk) where
 top b o e:=i b o (λq=>x.fw b (x.base b ⟨o,e⟩)<|Mm.W_of d q)<|x.top b o e;base:=x.base;fal b f:=(x.fal b f).imp λo e=>i b o (λq=>x.fw b f<|Mm.W_of d q) e;fw:=x.fw;la:=x.la.trans List.length_set.symm;lg:=x.lg.trans List.length_set.symm;nod:=x.nod;cell k c' e:=(getElem?_set_some e).elim (λw=>⟨a,g,w.1▸r,w.1▸d,w.2▸p⟩) λw=>(x.cell k c' w.2).imp λu q=>q.imp λt q=>⟨q.1,q.2.1,EM.mono (T:=T) (T':=T.hp h tk) ⟨λ_ f=>f,λb o f=>i b o λq=>x.fw b f<|Mm.W_of d q,CG _⟩ (λb o m=>i b o λn=>w.1<|Z1 x.nod d q.2.1 n m) q.2.2⟩
theorem AL.upd(x:Inv X F j T){l:Nat}{a:Addr}{g:List Addr}{c:Cell}(i:T.M.gp[l]?=some g)(p:T.M.ad[l]?=some a) (d:∀b o,b∉g->T.s.heap.get? b=some o->h.get? b=some o) (k:∀b∈g,Al h b) (m:EM X (T.hp h tk) a g c):AL X F T (j.put l c) (T.hp h tk) where
 ext:=⟨⟨h,tk,rfl⟩,λb o e n=>d b o (λq=>n<|Mm.W_of i q) e,λb q=>(Classical.em<|b∈g).elim (k b) λz=>q.imp λo e=>d b o z e,λ_ f=>f,λ_ f=>.inl f,λ_ f=>.inl f,CG _⟩;mono:=⟨λ_ f=>f,λb o f=>d b o λq=>x.mid.fw b f<|Mm.W_of i q,CG _⟩;inv:=⟨x.mid.upd i p d m,x.ffa,x.frm.mono ⟨λ_ f=>f,λb o f=>d b o λq=>x.mid.fw b f<|Mm.W_of i q,CG _⟩ λb o f=>d b o λq=>(x.ffa b f).2<|Mm.W_of i q⟩
def S8{c:Type}{x y:Str}{v:c}(l:List<|Str×c):AJ y (AS x v l)=if y=x then some v else AJ y l:=by induction l with|nil=>rfl|cons p l d=>show AJ y (if x=p.1 then(x,v)::l else p::AS x v l)=if y=x then some v else if y=p.1 then some p.2 else AJ y l;by_cases h:x=p.1;rw[A5 h];show(if y=x then some v else AJ y l)=_;by_cases a:y=x;rw[A5 a,A5 a];rw[A1 a,A1 a,A1<|h▸a];rw[A1 h];show(if y=p.1 then some p.2 else AJ y (AS x v l))=_;by_cases a:y=p.1;rw[A5 a,A1<|a▸Ne.symm h,A5 a];rw[A1 a,A1 a,d]
def Z2{L:Addr}{m c:Str->Option Value}(a:h.Ns L m)(b:h.Ns L c):m=c:=by obtain⟨r,e,g,p,o,t,n⟩:=a;obtain⟨q,d,f,l,k,s,i⟩:=b;cases p.symm.trans l;cases o.symm.trans k;exact funext λz=>(n z).symm.trans<|i z
def AftS.name(x:Inv X F j T){c:Addr}(a:FS F c)(hs:Heap.SameBut c T.s.heap h)(g:Al h c){y:Str}{v:V}(l:Frm X.I F (AS y v j.vars)<|T.hp h tk):AftS X F T (j.set y v)<|T.hp h tk:=by have k:=a.fa;have d:∀b,T.M.F b\/T.M.W b->b≠c:=λb f q=>f.elim (x.ffa c k |>.1 <|q▸·) (x.ffa c k |>.2 <|q▸·);have i:∀b o,T.M.F b\/T.M.W b->T.s.heap.get? b=some o->h.get? b=some o:=λb o q e=>(hs.2 b<|d b q).trans e;exact⟨⟨⟨h,tk,rfl⟩,λb o e n=>(hs.2 b λq=>n<|.inr<|q▸a).trans e,λb q=>(Classical.em<|b=c).elim (λz=>z▸g) λz=>q.imp λo e=>(hs.2 b z).trans e,λ_ f=>f,λ_ f=>.inl f,λ_ f=>.inl f,CG _⟩,⟨λ_ f=>f,λb o f=>i b o<|.inl f,CG _⟩,⟨x.mid.hp i,x.ffa,l⟩⟩
def Frm.set{m cm m' cm':Str->Option Value}(x:Inv X F j T){y:Str}{v:V}{u:Value}{c:Addr}(t:FA F.env c)(hs:Heap.SameBut c T.s.heap h)(p:AE X.I T v u) (r:h.Ns F.env.locals m') (i:∀z d,F.env.cells.lookup z=some d->h.IsCell d (cm' z)) (n:(F.env.kindOf y=some .local/\m' y=some u)\/((F.env.kindOf y=some .cell\/F.env.kindOf y=some .free)/\cm' y=some u)) (l:∀z,z≠y->m' z=m z/\cm' z=cm z) (g:∀z v,AJ z j.vars=some v->∃u,AE X.I T v u/\((F.env.kindOf z=some .local/\m z=some u)\/((F.env.kindOf z=some .cell\/F.env.kindOf z=some .free)/\cm z=some u))):Frm X.I F (AS y v j.vars)<|T.hp h tk:=by have k:Mono T<|T.hp h tk:=⟨λ_ f=>f,λb o f e=>(hs.2 b λq=>(x.ffa c t).1<|q▸f).trans e,CG _⟩;refine {x.frm with has:=⟨m',cm',r,i,λz w a=>?_⟩};rw[S8] at a;by_cases e:z=y;rw[A5 e] at a;obtain rfl:=Option.some.inj a;exact⟨u,p.mono k,e▸n⟩;rw[A1 e] at a;rw[(l z e).1,(l z e).2];exact(g z w a).imp λu q=>⟨q.1.mono k,q.2⟩
def AftS.setLocal(x:Inv X F j T){y:Str}{v:V}{u:Value}{m:Str->Option Value}(k:F.fn.names.lookup y=some .local) (i:T.s.heap.Ns F.env.locals m) (f:h.Ns F.env.locals λz=>if z=y then some u else m z) (hs:Heap.SameBut F.env.locals T.s.heap h) (g:AE X.I T v u):AftS X F T (j.set y v)<|T.hp h tk:=by obtain⟨n,cm,e,l,d⟩:=x.frm.has;cases Z2 e i;exact .name x (.inl rfl) hs (f.imp λo q=>q.elim λ_ q=>q.elim λ_ q=>q.1)<|Frm.set (m:=m) (cm:=cm) x (.inl rfl) hs g f (λz c a=>(l z c a).sameBut hs<|x.frm.above z c a) (.inl ⟨x.frm.loc y k,A5 rfl⟩) (λz a=>⟨A1 a,rfl⟩) d
def AftS.setCell(x:Inv X F j T){y:Str}{v:V}{u:Value}{c:Addr}(l:F.fn.names.lookup y=some .cell) (f:F.env.cells.lookup y=some c) (n:h.IsCell c<|some u) (hs:Heap.SameBut c T.s.heap h) (p:AE X.I T v u):AftS X F T (j.set y v)<|T.hp h tk:=by obtain⟨m,cm,i,k,g⟩:=x.frm.has;refine .name x (.inr ⟨y,l,f⟩) hs (n.imp λo q=>q.1)<|Frm.set (m:=m) (cm:=cm) (m':=m) (cm':=λz=>if z=y then some u else cm z) x (.inr ⟨y,f⟩) hs p (i.sameBut hs<|Ne.symm<|x.frm.above y c f) (λz d a=>?_) (.inr ⟨.inl<|x.frm.cel y l,A5 rfl⟩) (λz a=>⟨rfl,A1 a⟩) g;by_cases e:z=y;subst e;cases f.symm.trans a;rw[A5 rfl];exact n;rw[A1 e];exact(k z d a).sameBut hs λq=>e<|x.frm.apart z y d a<|q▸f
end
section
variable{I:Iota}{b:Bool}{i j:Int}
def Iota.lt(h:i<j):I.f b i<I.f b j:=by cases b with|false=>exact h|true=>exact Int.add_lt_add_left h _
def Iota.lt_iff:I.f b i<I.f b j↔i<j:=⟨λh=>Int.not_le.mp λq=>(Int.le_iff_lt_or_eq.mp q).elim (λq=>Int.lt_asymm h<|Iota.lt q) λq=>Int.lt_irrefl _<|q▸h,Iota.lt⟩
def Iota.le_iff:I.f b i<=I.f b j↔i<=j:=by rw[<-Int.not_lt,<-Int.not_lt,Iota.lt_iff]
def Iota.inj(h:I.f b i=I.f b j):i=j:=Int.le_antisymm ((Iota.le_iff).mp<|Int.le_of_eq h)<|(Iota.le_iff).mp<|Int.le_of_eq h.symm
end
mutual
noncomputable def EN(I:Iota):D->PyData|.none=>.none|.bool b=>.bool b|.int i=>.int i|.key k=>.int (I.f true k)|.str s=>.str s|.tup l=>.tuple (Ec I l)|.lst l=>.list<|Ec I l
noncomputable def Ec(I:Iota):List D->List PyData|[]=>[]|d::r=>EN I d::Ec I r
end
structure Lk(h:Heap)(v:Value)(p:PyData)(n:Nat):Prop where
 reads:∃as,Reads h v p as
 lay:p.canLay0=true
 dep:p.depth<=n
structure Lks(h:Heap)(v:List Value)(p:List PyData)(n:Nat):Prop where
 reads:∃as,ReadsAll h v p as
 lay:PyData.canLayAll0 p=true
 dep:PyData.depthAll p<=n
section
variable{I:Iota}{T:Sm}
def S9{l:List D}{d:D}{n:Nat}{c:List Value}(p:∀v,AZ I T d v->Bj d n=true->Lk T.s.heap v (EN I d) n)(q:∀a,EB I T l a->Du l n=true->Lks T.s.heap a (Ec I l) n)(x:EB I T (d::l) c)(h:Du (d::l) n=true):Lks T.s.heap c (Ec I<|d::l) n:=by obtain⟨v,a,rfl,x,r⟩:=x;have e:=CN.mp<|show(Bj d n&&Du l n)=true from h;have p:=p v x e.1;have q:=q a r e.2;exact⟨p.reads.elim λg x=>q.reads.elim λf y=>⟨_,.cons x y⟩,CN.mpr ⟨p.lay,q.lay⟩,Nat.max_le.mpr ⟨p.dep,q.dep⟩⟩
def AZ.lk{d:D}{v:Value}{n:Nat}(x:AZ I T d v)(h:Bj d n=true):Lk T.s.heap v (EN I d) n:=by
 refine D.rec (motive_1:=λd=>∀n v,AZ I T d v->Bj d n=true->Lk T.s.heap v (EN I d) n) (motive_2:=λl=>∀n c,EB I T l c->Du l n=true->Lks T.s.heap c (Ec I l) n) ?_ ?_ ?_ ?_ ?_ ?_ ?_ ?_ ?_ d n v x h<;>clear x h;intro n v e _;subst e;exact⟨⟨_,.none⟩,rfl,Bm _⟩;intro _ n v _ h;exact Bw h;intro i n v e _;obtain⟨t,rfl⟩:=e;exact⟨⟨_,.int _ t⟩,rfl,Bm _⟩;intro i n v e _;obtain⟨t,rfl⟩:=e;exact⟨⟨_,.int _ t⟩,rfl,Bm _⟩;intro i n v e _;obtain⟨t,rfl,k⟩:=e;exact⟨⟨_,.str _ t⟩,k,Bm _⟩;intro l g n v e h;cases n with|zero=>exact Bw h|succ n=>obtain⟨a,f,rfl,_,⟨m,o⟩,_,r⟩:=e;have q:=g n f r h;exact⟨q.reads.elim λj x=>⟨j,reads_tuple_at o rfl rfl x⟩,q.lay,by show PyData.depthAll _+1<=n+1;exact CV q.dep⟩
 intro l g n v e h;cases n with|zero=>exact Bw h|succ n=>obtain⟨a,f,rfl,_,⟨m,o⟩,_,r⟩:=e;have q:=g n f r h;exact⟨q.reads.elim λj x=>⟨_,reads_list_at o rfl rfl x⟩,q.lay,by show PyData.depthAll _+1<=n+1;exact CV q.dep⟩
 intro n c e _;subst e;exact⟨⟨_,.nil⟩,rfl,Bm _⟩;exact λd l p q n c=>S9 (p n)<|q n
def EB.lks{l:List D}{a:List Value}{n:Nat}:EB I T l a->Du l n=true->Lks T.s.heap a (Ec I l) n:=by induction l generalizing a with|nil=>intro e _;subst e;exact⟨⟨_,.nil⟩,rfl,Bm _⟩|cons d l c=>exact S9 (λv=>AZ.lk) λf=>c
end
theorem Lk.shaped{h:Heap}{v:Value}{p:PyData}(k:Lk h v p 30):SeqAt.shaped p=true:=CN.mpr ⟨k.lay,Ac<|AB k.dep<|by decide⟩
def SC{I:Iota}{a b:D}{c:Bool}(h:DV a b=some c):PyData.eqv (EN I a) (EN I b)=c:=by
 refine D.rec (motive_1:=λa=>∀b c,DV a b=some c->PyData.eqv (EN I a) (EN I b)=c) (motive_2:=λa=>∀b c,FK a b=some c->PyData.eqvAll (Ec I a) (Ec I b)=c) ?_ ?_ ?_ ?_ ?_ ?_ ?_ ?_ ?_ a b c h<;>clear h;intro b c h;cases b<;>obtain rfl:=Option.some.inj h<;>rfl;intro _ b c h;exact Ae h;intro i b c h;cases b<;>(first|obtain rfl:=Option.some.inj h|exact Ae h)<;>rfl;intro i b c h;cases b with|key j=>obtain rfl:=Option.some.inj h;show decide (I.f true i=I.f true j)=decide (i=j);exact decide_eq_decide.mpr ⟨Iota.inj,A3 _⟩|_=>(first|obtain rfl:=Option.some.inj h|exact Ae h)<;>rfl
 intro i b c h;cases b with|str j=>obtain rfl:=Option.some.inj h;show(i==j)=decide (i=j);exact Bool.eq_iff_iff.mpr (by rw[beq_iff_eq,decide_eq_true_eq])|_=>obtain rfl:=Option.some.inj h<;>rfl
 intro l m b c h;cases b with|tup k=>exact m k c h|_=>obtain rfl:=Option.some.inj h<;>rfl
 intro l m b c h;cases b with|lst k=>exact m k c h|_=>obtain rfl:=Option.some.inj h<;>rfl
 intro b c h;cases b<;>obtain rfl:=Option.some.inj h<;>rfl;intro d l p q b c h;cases b with|nil=>obtain rfl:=Option.some.inj h;rfl|cons e k=>cases x:DV d e with|none=>have g:=(A3 (Option.bind · _) x).symm.trans h;exact Ae g|some b=>have g:=(A3 (Option.bind · _) x).symm.trans h;show(PyData.eqv (EN I d) (EN I e)&&PyData.eqvAll (Ec I l) (Ec I k))=c;rw[p e b x];cases b with|true=>exact q k c g|false=>exact Option.some.inj g
open PySem.Calls
section
variable{e d:Type}{x:Option e}{y:d}{P:Prop}{C:d->Prop}
def nK(h:(Option.none:Option d)=some y):P:=by exact Ae h
def Ew{e:Type}{a:e}(h:a∈([]:List e)):P:=absurd h Ax
def bK{f:e->Option d}(h:x.bind f=some y)(k:∀a,x=some a->f a=some y->P):P:=by cases x with|none=>exact Ae h|some a=>exact k a rfl h
def mQ{f:e->d}(h:x.map f=some y)(k:C y)(c:∀a,x=some a->C (f a)->P):P:=by cases x with|none=>exact Ae h|some a=>obtain rfl:=Option.some.inj h;exact c a rfl k
def mK{f:e->d}(h:x.map f=some y)(c:∀a,x=some a->C (f a)):C y:=by cases x with|none=>exact Ae h|some a=>obtain rfl:=Option.some.inj h;exact c a rfl
def sQ{z:d}(h:some z=some y)(k:C y):C z:=by obtain rfl:=Option.some.inj h;exact k
def iK{b:Bool}{z:Option d}(h:(if b=true then z else .none)=some y)(k:b=true->z=some y->P):P:=by cases b with|true=>exact k rfl h|false=>exact Ae h
def pK{c:Prop}[Decidable c]{z:Option d}(h:(if c then z else .none)=some y)(k:c->z=some y->P):P:=(Decidable.em c).elim (λa=>k a<|(A5 a).symm.trans h) λa=>nK<|(A1 a).symm.trans h
def eK{c:Prop}[Decidable c]{z f:Option d}(h:(if c then z else f)=some y)(k:c->z=some y->P)(g:f=some y->P):P:=(Decidable.em c).elim (λa=>k a<|(A5 a).symm.trans h) λa=>g<|(A1 a).symm.trans h
def oK{f:e->Option d}{b:Option d}(h:BK x f b=some y)(k:∀a,x=some a->f a=some y->P)(c:x=.none->b=some y->P):P:=by cases x with|none=>exact c rfl h|some a=>exact k a rfl h
def cK{b:Bool}{z a:Option d}(h:cond b z a=some y)(k:b=true->z=some y->P)(c:b=false->a=some y->P):P:=by cases b with|true=>exact k rfl h|false=>exact c rfl h
def Aq{a b:Bool}(h:(a&&b)=true)(k:a=true->b=true->P):P:=k (CN.mp h).1 (CN.mp h).2
def Bn{c:Prop}[Decidable c](h:decide c=true):c:=D2 h
end
noncomputable def HV:List<|Str×Value:=[("len",.builtin "len"),("list",.type "list"),("tuple",.type "tuple"),("sorted",.builtin "sorted"),("max",.builtin "max"),("min",.builtin "min"),("sum",.builtin "sum"),("type",.type "type"),("int",.type "int"),("dict",.type "dict"),("range",.type "range"),("enumerate",.type "enumerate"),("zip",.type "zip"),("set",.type "set")]
structure FnAt(h:Heap)(a:Addr)(f:Fn)(o:Obj)(fd:FuncData):Prop where
 at_:h.get? a=some o
 dat:o.data=.func fd
 body:fd.body=.stmts f.body
 names:fd.scope.names=f.names
 kind:fd.scope.kind=.function
 dbg:f.names.lookup ("__debug__" : Str)=.none/\f.names.lookup ("__classdict__" : Str)=.none
 co:fd.scope.isCoroutine=false
 gen:fd.scope.isGenerator=false
 clo:fd.closure=[]
 glb:fd.globals=mainGlobals
 blt:fd.builtins=builtinsNs
 code:h.CodeRec fd.code fd.qualname
 bind:∀vs:List Value,vs.length=f.params.length->bindArgs fd ⟨vs,[]⟩=pure (f.params.zip vs)
 kinds:f.params.all (λx=>f.names.lookup x==some .local||f.names.lookup x==some .cell)=true
 cells:(f.names.map (·.1)).Nodup
 free:f.names.all (λx=>!(x.2 == .free))=true
 pnod:f.params.Nodup
structure Top(X:Cx):Prop where
 nolim:X.hB.NoLimit
 g:X.hB.Ns mainGlobals X.mg
 b:X.hB.Ns builtinsNs X.mb
 tabs:∀x d,AJ x X.G.tabs=some d->∃v,X.mg x=some v/\∀{T:Sm},(∀b o,X.hB.get? b=some o->T.s.heap.get? b=some o)->(∀a,Al X.hB a->T.M.F a)->AZ X.I T d v
 fns:∀x f,AJ x X.G.fns=some f->∃a o fd,X.mg x=some (.ref a)/\FnAt X.hB a f o fd
 blt:∀x v,HV.lookup x=some v->AJ x X.G.fns=.none->AJ x X.G.tabs=.none->x≠X.G.cls->X.mg x=.none/\X.mb x=some v
 sysm:Al X.hB sysModules
structure AW(A:Around)(n:Nat):Prop where
 h:A.handled=.none
 d:A.depth+n<recursionLimit
 u:A.units+8*n+300<cLine
def AW.less{A:Around}{n m:Nat}(h:AW A n)(a:m<=n):AW A m:=⟨h.h,AO (BW a _) h.d,AO (Ds (BW (Nat.mul_le_mul_left 8 a) _) _) h.u⟩
structure Own(X:Cx)(F:Fx)(T T':Sm)(a:Addr)(l:List V)(us:List Value):Prop where
 new:¬Al T.s.heap a
 nf:¬T'.M.F a
 nw:¬Wa F T' a
 obj:T'.seq "list" a us
 rep:AC (AE X.I T') l us
 len:l.length<=lim
noncomputable def RR(X:Cx)(F:Fx)(T c:Sm):R->Value->Prop|.val v,u=>AE X.I c v u|.fresh l,u=>∃a d,u=.ref a/\Own X F T c a l d
def KR(X:Cx)(F:Fx)(T:Sm)(Q:Value->Shared->Prop)(p:R×St):Prop:=∀u T',AL X F T p.2 T'->RR X F T T' p.1 u->Q u T'.s
def KV(X:Cx)(F:Fx)(T:Sm)(Q:Value->Shared->Prop)(p:V×St):Prop:=∀u T',AL X F T p.2 T'->AE X.I T' p.1 u->Q u T'.s
def KT(X:Cx)(F:Fx)(T:Sm)(Q:Bool->Shared->Prop)(p:Bool×St):Prop:=∀T',AL X F T p.2 T'->Q p.1 T'.s
def KU(X:Cx)(F:Fx)(T:Sm)(Q:Unit->Shared->Prop)(st:St):Prop:=∀T',AftS X F T st T'->Q () T'.s
noncomputable def SD(X:Cx)(F:Fx)(T a:Sm):Fl->Flow->Prop|.next,f=>f=.next|.ret r,f=>∃u,f=.ret u/\RR X F T a r u
def KX(X:Cx)(F:Fx)(T:Sm)(Q:Flow->Shared->Prop)(p:Fl×St):Prop:=∀fl T',AftS X F T p.2 T'->SD X F T T' p.1 fl->Q fl T'.s
def WP(X:Cx)(A:Around){a:Type}(c:Sem a)(Q:a->Shared->Prop)(E:Value->Shared->Prop)(T:Sm):Prop:=wpAny (model X.prog X.w) A c Q E T.s
structure OwnC(X:Cx)(T T':Sm)(a:Addr)(l:List V)(us:List Value):Prop where
 new:¬Al T.s.heap a
 nf:¬T'.M.F a
 nw:¬T'.M.W a
 obj:T'.seq "list" a us
 rep:AC (AE X.I T') l us
 len:l.length<=lim
noncomputable def RC(X:Cx)(T c:Sm):R->Value->Prop|.val v,u=>AE X.I c v u|.fresh l,u=>∃a d,u=.ref a/\OwnC X T c a l d
structure AftC(X:Cx)(T:Sm)(σ:List Cell)(T':Sm):Prop where
 ext:Ext T.M.W T T'
 mid:Mid X σ T'
def KC(X:Cx)(T:Sm)(Q:Result->Shared->Prop)(p:R×List Cell):Prop:=∀u T',AftC X T p.2 T'->RC X T T' p.1 u->Q (.ok<|.ret u) T'.s
def Z3(X:Cx)(o:Ops)(n:Nat):Prop:=∀{F:Fx}{e:Expr}{st:St}{p:R×St}{A:Around}{T:Sm}{Q:Value->Shared->Prop}{E:Value->Shared->Prop},AW A n->o.ev F.fn e st=some p->Inv X F st T->KR X F T Q p->WP X A (eval e F.env) Q E T
def Z4(X:Cx)(o:Ops)(n:Nat):Prop:=∀{F:Fx}{e:Expr}{st:St}{p:Bool×St}{A:Around}{T:Sm}{Q:Bool->Shared->Prop}{E:Value->Shared->Prop},AW A n->o.tt F.fn e st=some p->Inv X F st T->KT X F T Q p->WP X A (isTrue e F.env<|eval e F.env) Q E T
def Z6(X:Cx)(o:Ops)(n:Nat):Prop:=∀{F:Fx}{a:List Stmt}{st:St}{p:Fl×St}{A:Around}{T:Sm}{Q:Flow->Shared->Prop}{E:Value->Shared->Prop},AW A n->o.ex F.fn a st=some p->Inv X F st T->KX X F T Q p->WP X A (execs a F.env) Q E T
def Z7(X:Cx)(o:Ops)(n:Nat):Prop:=∀{f:Fn}{a:Addr}{c:Obj}{fd:FuncData}{vs:List V}{us:List Value}{σ:List Cell}{p:R×List Cell}{A:Around}{T:Sm}{Q:Result->Shared->Prop},AW A n->o.call f vs σ=some p->FnAt T.s.heap a f c fd->Mid X σ T->AC (AE X.I T) vs us->KC X T Q p->codeAny (model X.prog X.w) A (.call (.ref a) ⟨us,[]⟩) Q T.s
structure Snd(X:Cx)(o:Ops)(n:Nat):Prop where
 star:∀fn v p st,o.ev fn (.Starred v p) st=.none
 set:∀fn es k p st,o.ev fn (.Set es k p) st=.none
 setc:∀fn e gs sc p st,o.ev fn (.SetComp e gs sc p) st=.none
 dctc:∀fn e f gs sc p st,o.ev fn (.DictComp e f gs sc p) st=.none
 ev:Z3 X o n
 tt:Z4 X o n
 ex:Z6 X o n
 call:Z7 X o n
section
variable{X:Cx}{F:Fx}{o:Ops}{n:Nat}{s w:St}{A:Around}{T T' m:Sm}{Q:Value->Shared->Prop}{E:Value->Shared->Prop}{e:Expr}{r:R}{u:Value}{v:V}
theorem RR.mono(x:RR X F T T' r u)(a:AL X F T' s m):RR X F T m r u:=by cases r with|val v=>exact AE.mono a.mono x|fresh l=>exact x.imp λb q=>q.imp λd q=>⟨q.1,q.2.new,λf=>(a.ext.fnew b f).elim q.2.nf λf=>f.elim (λf=>q.2.nw<|.inl f) λf=>f<|q.2.obj.elim λ_ e=>⟨_,e⟩, λf=>f.elim (λf=>(a.ext.wnew b f).elim (λf=>q.2.nw<|.inl f) λf=>f<|q.2.obj.elim λ_ e=>⟨_,e⟩) λf=>q.2.nw<|.inr f,q.2.obj.imp λn e=>a.ext.keep b _ e λc=>q.2.nw<|.inl c,q.2.rep.mono a.mono,q.2.len⟩
def RR.older(x:RR X F T' m r u)(a:∀b,Al T.s.heap b->Al T'.s.heap b):RR X F T m r u:=by cases r with|val v=>exact x|fresh l=>exact x.imp λb q=>q.imp λc q=>⟨q.1,{q.2 with new:=λf=>q.2.new (a b f)}⟩
def KR.then{p:R×St}(k:KR X F T Q p)(a:AL X F T s T'):KR X F T' Q p:=λu m b q=>k u m (a.trans b)<|q.older a.ext.al
def KT.then{p:Bool×St}{Q:Bool->Shared->Prop}(k:KT X F T Q p)(a:AL X F T s T'):KT X F T' Q p:=λm b=>k m<|a.trans b
def KU.then{Q:Unit->Shared->Prop}(k:KU X F T Q w)(a:AftS X F T s T'):KU X F T' Q w:=λm b=>k m<|a.trans b
def KX.then{p:Fl×St}{Q:Flow->Shared->Prop}(k:KX X F T Q p)(a:AftS X F T s T'):KX X F T' Q p:=λf m b q=>k f m (a.trans b)<|by cases p with|mk p s=>cases p with|next=>exact q|ret r=>exact q.imp λu q=>⟨q.1,q.2.older a.ext.al⟩
def AL.own_frz(x:AL X F T s T'){a:Addr}{c:List D}{g:List Value}(q:Own X F T T' a (c.map .d) g):AL X F T s (T'.mm<|T'.M.frz (·=a))/\AE X.I (T'.mm<|T'.M.frz (·=a)) (.d<|.lst c) (.ref a):=⟨x.frz λb e=>e▸⟨q.obj.elim λ_ e=>⟨_,e⟩,q.nw,q.new⟩,a,g,rfl,.inr rfl,q.obj,(A4 (as:=c) V.d)▸q.len,Gb.mpr<|AC.map (f:=V.d) (P:=AE X.I<|T'.mm<|T'.M.frz (·=a)) |>.mp (q.rep.mono<|.frz _)⟩
def AL.own_new(x:AL X F T s T'){a:Addr}{l:List V}{c:List Value}(q:Own X F T T' a l c):AL X F T (s.add<|.lst l) (T'.mm<|T'.M.new a [a])/\AE X.I (T'.mm<|T'.M.new a [a]) (.loc s.store.length) (.ref a):=⟨x.new (λb e=>Ao.mp e▸⟨q.nf,q.nw,q.new⟩) (Bi.mpr ⟨Ax,List.nodup_nil⟩) ⟨rfl,c,q.obj,q.rep.mono<|.new _ _,q.len⟩,a,by rw[<-x.inv.mid.la];exact List.getElem?_concat_length,rfl⟩
def SE{b:Bool}{p:R×St}{q:V×St}{P:Prop}(a:AL X F T p.2 T')(f:RR X F T T' p.1 u)(g:O8 b p.1 p.2=some q)(k:∀m,m.s=T'.s->(∀c,u≠.ref c->(m.M.F c->T'.M.F c)/\(m.M.W c->T'.M.W c))->AL X F T q.2 m->AE X.I m q.1 u->P):P:=by obtain⟨r,s⟩:=p;cases r with|val v=>obtain rfl:=Option.some.inj g;exact k T' rfl (λ_ _=>⟨id,id⟩) a f|fresh l=>obtain⟨c,i,rfl,f⟩:=f;refine cK g (λ_ g=>?_) λ_ g=>?_;obtain rfl:=Option.some.inj g;exact k (T'.mm<|T'.M.new c [c]) rfl (λd h=>⟨id,λq=>(Mm.new_W.mp q).elim id λq=>absurd (by rw[Ao.mp q]) h⟩) (a.own_new f).1 (a.own_new f).2;refine mQ (C:=λq=>∀m,m.s=T'.s->(∀d,Value.ref c≠.ref d->(m.M.F d->T'.M.F d)/\(m.M.W d->T'.M.W d))->AL X F T q.2 m->AE X.I m q.1 (.ref c)->P) g k λj h k=>?_;refine Gc (P:=λl=>Own X F T T' c l i->P) h (λf=>?_) f;exact k (T'.mm<|T'.M.frz (·=c)) rfl (λd h=>⟨λq=>q.elim id λq=>absurd (by rw[show d=c from q]) h,id⟩) (a.own_frz f).1 (a.own_frz f).2
def FP{d:Type}{f:R×St->Option d}{y:d}(H:Snd X o n)(g:AW A n)(i:Inv X F s T)(c:(o.ev F.fn e s).bind f=some y) (k:∀p u T',AL X F T p.2 T'->RR X F T T' p.1 u->f p=some y->Q u T'.s):WP X A (eval e F.env) Q E T:=bK c λp h c=>H.ev g h i λu T' a q=>k p u T' a q c
def JA{b:Bool}{p:V×St}(H:Snd X o n)(d:AW A n)(i:Inv X F s T)(c:En o b F.fn e s=some p)(k:KV X F T Q p):WP X A (eval e F.env) Q E T:=FP H d i c λp u T' a q c=>SE a q c λm e _ a q=>e▸k u m a q
def JB{q:Bool×Int}{P:V->Prop}(h:Lq v=some q)(k:P<|.d<|Eo q):P v:=by
 cases v with
 |d x=>cases x<;>first|((first|obtain rfl:=Option.some.inj h|exact Ae h);exact k)|exact Ae h
 |_=>exact Ae h
def Z8{q:Bool×Int}{P:R->Prop}(h:I6 r=some q)(k:P<|.val<|.d<|Eo q):P r:=by cases r with|val v=>exact JB (P:=λv=>P<|.val v) h k|_=>exact Ae h
theorem RR.num_k{q:Bool×Int}{P:Value->Prop}(a:RR X F T T' r u)(h:I6 r=some q)(k:∀t,P<|.int (X.I.f q.1 q.2) t):P u:=Z8 (P:=λr=>RR X F T T' r u->P u) h (λa=>AZ.num_k a k) a
def JC{g:Type}{f:(Bool×Int)×St->Option g}{y:g}(H:Snd X o n)(j:AW A n)(i:Inv X F s T)(d:(I8 o F.fn e s).bind f=some y) (k:∀q t T',AL X F T q.2 T'->f q=some y->Q (.int (X.I.f q.1.1 q.1.2) t) T'.s):WP X A (eval e F.env) Q E T:=bK d λq x d=>FP H j i x λp u T' a r l=>mQ (C:=λq=>(∀t T',AL X F T q.2 T'->f q=some y->Q (.int (X.I.f q.1.1 q.1.2) t) T'.s)/\f q=some y) l ⟨k q,d⟩ λc h k=>r.num_k (P:=λu=>Q u T'.s) h λt=>k.1 t T' a k.2
def Gd{q:Bool×Int}{j:Int}{P:Bool×Int->Prop}(h:plain q=some j)(k:P (false,j)):P q:=by obtain⟨b,i⟩:=q;cases b<;>(first|obtain rfl:=Option.some.inj h|exact Ae h);exact k
def Kf{g:Type}{f:Int×St->Option g}{y:g}(H:Snd X o n)(j:AW A n)(i:Inv X F s T)(d:(G8 o F.fn e s).bind f=some y) (k:∀q t T',AL X F T q.2 T'->f q=some y->Q (.int q.1 t) T'.s):WP X A (eval e F.env) Q E T:=bK d λq x d=>JC H j i x λp t T' a l=>mQ (C:=λq=>(∀t T',AL X F T q.2 T'->f q=some y->Q (.int q.1 t) T'.s)/\f q=some y) l ⟨k q,d⟩ λc h k=>Gd (P:=λq=>Q (.int (X.I.f q.1 q.2) t) T'.s) h<|k.1 t T' a k.2
def OP{d:Type}{f:Int×St->d}{y:d}(H:Snd X o n)(h:AW A n)(i:Inv X F s T)(g:(G8 o F.fn e s).map f=some y){C:d->Prop}(c:C y) (k:∀q t T',AL X F T q.2 T'->C (f q)->Q (.int q.1 t) T'.s):WP X A (eval e F.env) Q E T:=mQ g c λq j c=>Kf H h i (f:=some) (y:=q) (A3 (Option.bind · some) j) λl t T' a e=>by obtain rfl:=(Option.some.inj e).symm;exact k q t T' a c
noncomputable def Vw.Is(e:Expr):Vw->Prop|.name x=>∃p,e=.Name x p|.tup g=>∃c p,e=.Tuple g c p|.sub b i=>∃p,e=.Subscript b i p|.slc a b=>∃p,e=.Slice a b .none p|.call f h=>∃p q,e=.Call (.Name f p) h [] q|.no=>∃k p,e=.Constant .none k p|.lc=>∃a b c d,e=.ListComp a b c d|.other=>True
def IL(e:Expr):(EA e).Is e:=by
 cases e with
 |Name x p=>exact⟨p,rfl⟩|Tuple j c p=>exact⟨c,p,rfl⟩|Subscript b i p=>exact⟨p,rfl⟩|Slice a b c p=>cases c with|none=>exact⟨p,rfl⟩|some _=>exact trivial
 |Call f l h q=>cases h with
  |nil=>cases f with|Name g p=>exact⟨p,q,rfl⟩|_=>exact trivial
  |cons _ _=>exact trivial
 |Constant c k p=>cases c with|none=>exact⟨k,p,rfl⟩|_=>exact trivial
 |ListComp a b c d=>exact⟨a,b,c,d,rfl⟩|_=>exact trivial
def Z9{a:Option Expr×Option Expr}{C:Expr->Prop}(h:J4 e=some a)(k:∀p,C<|.Slice a.1 a.2 .none p):C e:=by
 have q:=IL e;revert h q;unfold J4;generalize EA e=z;intro h q;cases z<;>first|exact nK h|obtain rfl:=Option.some.inj h
 obtain⟨p,rfl⟩:=q;exact k p
def OQ{a:Str×List Expr}{C:Expr->Prop}(h:IF e=some a)(k:∀p q,C<|.Call (.Name a.1 p) a.2 [] q):C e:=by
 have q:=IL e;revert h q;unfold IF;generalize EA e=z;intro h q;cases z<;>first|exact nK h|obtain rfl:=Option.some.inj h
 obtain⟨p,q,rfl⟩:=q;exact k p q
def JD{x:Str}{C:Expr->Prop}(h:FM e=some x)(k:∀p,C<|.Name x p):C e:=by
 have q:=IL e;revert h q;unfold FM;generalize EA e=z;intro h q;cases z<;>first|exact nK h|obtain rfl:=Option.some.inj h
 obtain⟨p,rfl⟩:=q;exact k p
def OR{a:List Expr}{C:Expr->Prop}(h:HP e=some a)(k:∀c p,C<|.Tuple a c p):C e:=by
 have q:=IL e;revert h q;unfold HP;generalize EA e=z;intro h q;cases z<;>first|exact nK h|obtain rfl:=Option.some.inj h
 obtain⟨c,p,rfl⟩:=q;exact k c p
def ZA{b:Expr×Expr}{C:Expr->Prop}(h:OB e=some b)(k:∀p,C<|.Subscript b.1 b.2 p):C e:=by
 have q:=IL e;revert h q;unfold OB;generalize EA e=z;intro h q;cases z<;>first|exact nK h|obtain rfl:=Option.some.inj h
 obtain⟨p,rfl⟩:=q;exact k p
def ZB{C:Expr->Prop}(h:KP e=true)(k:∀c p,C<|.Constant .none c p):C e:=by have q:=IL e;revert h q;unfold KP;generalize EA e=z;intro h q;cases z<;>(first|exact Bw h|cases h);obtain⟨c,p,rfl⟩:=q;exact k c p
def ZC{C:Expr->Prop}(h:GY e=true)(k:∀a b c d,C<|.ListComp a b c d):C e:=by have q:=IL e;revert h q;unfold GY;generalize EA e=z;intro h q;cases z<;>(first|exact Bw h|cases h);obtain⟨a,b,c,d,rfl⟩:=q;exact k a b c d
def FQ{a:Type}{l:List a}{x:a}{C:List a->Prop}(h:one l=some x)(k:C [x]):C l:=by cases l with|nil=>exact Ae h|cons y l=>cases l<;>(first|obtain rfl:=Option.some.inj h|exact Ae h);exact k
def HW{a:Type}{l:List a}{x:a×a}{C:List a->Prop}(h:GZ l=some x)(k:C [x.1,x.2]):C l:=by cases l with|nil=>exact Ae h|cons y l=>cases l with|nil=>exact Ae h|cons z l=>cases l<;>(first|obtain rfl:=Option.some.inj h|exact Ae h);exact k
def Ge{a:Type}{l:List a}{C:List a->Prop}(h:l.isEmpty=true)(k:C []):C l:=by cases l with|nil=>exact k|cons _ _=>exact Bw h
def OS{l:Nat}{P:V->Prop}(h:Lr v=some l)(k:P<|.loc l):P v:=by cases v<;>(first|obtain rfl:=Option.some.inj h|exact Ae h);exact k
def ZD{l:Nat}{P:R->Prop}(h:J1 r=some l)(k:P<|.val<|.loc l):P r:=by cases r with|val v=>exact OS (P:=λv=>P<|.val v) h k|_=>exact Ae h
theorem RR.loc_k{l:Nat}{P:Value->Prop}(c:RR X F T T' r u)(h:J1 r=some l)(k:∀a,T'.M.ad[l]?=some a->P (.ref a)):P u:=ZD (P:=λr=>RR X F T T' r u->P u) h (λc=>AE.loc_k (I:=X.I) c k) c
def Kg{g:Type}{f:Nat×St->Option g}{y:g}(H:Snd X o n)(j:AW A n)(i:Inv X F s T)(d:(I9 o F.fn e s).bind f=some y) (k:∀q a T',AL X F T q.2 T'->T'.M.ad[q.1]?=some a->f q=some y->Q (.ref a) T'.s):WP X A (eval e F.env) Q E T:=bK d λq t d=>FP H j i t λp u T' a r l=>mQ (C:=λq=>(∀b T',AL X F T q.2 T'->T'.M.ad[q.1]?=some b->f q=some y->Q (.ref b) T'.s)/\f q=some y) l ⟨k q,d⟩ λc h k=>r.loc_k (P:=λu=>Q u T'.s) h λb e=>k.1 b T' a e k.2
def Fo(H:Snd X o n){p:R×St}{c:Pos}{d:List Expr}{a:Env}{f:Fn}(h:o.ev f e s=some p):backTo c (starEach (e::d) a)=(false,eval e a)::backTo c (starEach d a):=by cases e with|Starred v p=>exact nK ((H.star _ _ _ _).symm.trans h)|_=>rfl
def JE(X:Cx)(F:Fx)(T:Sm)(Q:List Value->Shared->Prop)(p:List V×St):Prop:=∀us T',AL X F T p.2 T'->AC (AE X.I T') p.1 us->Q us T'.s
def OT(H:Snd X o n){pos:Pos}(G:AW A n){f:List Expr}:∀{s:St}{T:Sm}{p:List V×St}{Q:List Value->Shared->Prop},Dt o F.fn f s=some p->Inv X F s T->JE X F T Q p->WP X A (spliced<|backTo pos<|starEach f F.env) Q E T:=by induction f with|nil=>exact λl i k=>spliced_nil (sQ (C:=JE X F _ _) l k [] _ (.refl i) rfl)|cons e f z=>intro s T p Q l i k;refine bK l λa t l=>?_;have B:backTo pos (starEach (e::f) F.env)=(false,eval e F.env)::backTo pos (starEach f F.env):=bK t λ_ h _=>Fo H h;unfold WP;rw[B];exact spliced_cons<|JA H G i t λu x d j=>mQ l k λb I k=>z I d.inv λy q c g=>k (u::y) q (d.trans c)<|.cons (j.mono c.mono) g
def SF{h:Fn}{d:List Expr}:∀{s:St}{p:List V×St},Dt o h d s=some p->p.1.length=d.length:=by induction d with|nil=>intro s p c;obtain rfl:=Option.some.inj c;rfl|cons e d f=>exact λc=>bK c λa _ c=>mK (C:=λp=>p.1.length=d.length+1) c λb g=>A3 (·+1)<|f g
end
section
variable{X:Cx}{F:Fx}{o:Ops}{n:Nat}{s L:St}{A:Around}{T G K:Sm}{Q:Value->Shared->Prop}{E:Value->Shared->Prop}{e:Expr}{r:R}{u:Value}{v:V}{J:List Cell}{a:Addr}{l:List V}{us:List Value}{P:Prop}
def JF:lim<=sizeLine:=by decide
def MA:(lim:Int)<2^63:=by decide
def Dw(h:Heap)(o:Obj):∀b x,h.get? b=some x->(h.push o).get? b=some x:=λ_ _ e=>E1 _ e
theorem AC.lim{P:V->Value->Prop}(h:AC P l us)(z:l.length<=lim):us.length<=sizeLine:=h.length▸AB z JF
def MB(f:T.M.F a)(o:T.seq "tuple" a us)(r:AC (AE X.I T) l us)(z:l.length<=lim):AE X.I T (EJ l)<|.ref a:=by unfold EJ;cases e:Cn l with|none=>exact⟨a,us,rfl,f,o,z,S7.mpr r⟩|some c=>exact Gc (P:=λl=>AC (AE X.I T) l us->l.length<=lim->AE X.I T (.d<|.tup c) (.ref a)) e (λr z=>⟨a,us,rfl,f,o,(A4 (as:=c) V.d)▸z,Gb.mpr<|AC.map (f:=V.d) (P:=AE X.I T) |>.mp r⟩) r z
noncomputable def Sm.new(T:Sm)(h:Heap)(c:Nat)(a:Addr):Sm:=(T.hp h c).mm<|T.M.frz (·=a)
def SG(i:Inv X F s T)(c:AC (AE X.I T) l us)(d:l.length<=lim)(tk:Nat):AL X F T s (T.new (T.s.heap.push<|seqObj "tuple" us.toArray 0) tk T.s.heap.objs.size)/\AE X.I (T.new (T.s.heap.push<|seqObj "tuple" us.toArray 0) tk T.s.heap.objs.size) (EJ l) (.ref T.s.heap.objs.size):=by have a:AL X F T s<|T.new (T.s.heap.push<|seqObj "tuple" us.toArray 0) tk T.s.heap.objs.size:=(AL.grow i (tk:=tk)<|Dw _ _).frz λb e=>e▸⟨⟨_,De _ rfl⟩,λq=>Eu _<|q.elim i.wal i.faal,Eu _⟩;exact⟨a,MB (.inr rfl) ⟨0,De _ rfl⟩ (c.mono a.mono) d⟩
def OU(i:Inv X F s T)(d:AC (AE X.I T) l us)(g:l.length<=lim){h:Heap}{tk m:Nat}(c:¬Al T.s.heap a)(hs:h.get? a=some (seqObj "list" us.toArray m))(j:∀b x,T.s.heap.get? b=some x->h.get? b=some x):AL X F T s (T.hp h tk)/\RR X F T (T.hp h tk) (.fresh l) (.ref a):=have x:AL X F T s<|T.hp h tk:=.grow i j;⟨x,a,us,rfl,c,λf=>c<|i.mid.fal _ f,λq=>c<|q.elim i.wal i.faal,⟨m,hs⟩,d.mono x.mono,g⟩
def push_lst'(i:Inv X F s T)(c:AC (AE X.I T) l us)(d:l.length<=lim)(k:KR X F T Q (.fresh l,s)):Q (.ref T.s.heap.objs.size) {T.s with heap:=T.s.heap.push (seqObj "list" us.toArray 0)}:=have x:=OU i c d (tk:=T.s.toks) (m:=0) (Eu _) (De _ rfl)<|Dw T.s.heap<|seqObj "list" us.toArray 0;k _ _ x.1 x.2
def push_tup'(i:Inv X F s T)(c:AC (AE X.I T) l us)(d:l.length<=lim)(k:KR X F T Q (.val<|EJ l,s)):Q (.ref T.s.heap.objs.size) {T.s with heap:=T.s.heap.push (seqObj "tuple" us.toArray 0)}:=k _ _ (SG i c d T.s.toks).1 (SG i c d T.s.toks).2
def Mid.cell_k(m:Mid X J T){j:Nat}{c:Cell}(f:T.M.ad[j]?=some a)(d:J[j]?=some c)(k:∀g,T.M.gp[j]?=some g->EM X T a g c->P):P:=by obtain⟨b,g,p,q,r⟩:=m.cell j c d;cases f.symm.trans p;exact k g q r
def OV(m:Mid X J T){j:Nat}(i:T.M.ad[j]?=some a)(h:EZ J[j]?=some l)(k:∀us,T.seq "list" a us->AC (AE X.I T) l us->l.length<=lim->P):P:=by cases hc:J[j]? with|none=>rw[hc] at h;exact Ae h|some c=>rw[hc] at h;cases c with|lst l=>obtain rfl:=Option.some.inj h;exact m.cell_k i hc λg _ q=>q.2.elim λus q=>k us q.1 q.2.1 q.2.2|froz p=>obtain rfl:=Option.some.inj h;exact m.cell_k i hc λg _ q=>AZ.lst_k (P:=λu=>u=.ref a->P) q.2 (λb us f o z r e=>by obtain rfl:=Value.ref.inj e;exact k us o (AC.map.mpr r)<|A4 (as:=p) V.d▸z) rfl|_=>exact Ae h
theorem lst_k{C:Value->Prop}(m:Mid X J G)(c:RR X F T G r u)(h:Ch J r=some l)(k:∀a us,G.seq "list" a us->AC (AE X.I G) l us->l.length<=lim->C (.ref a)):C u:=by cases r with|fresh l=>obtain rfl:=Option.some.inj h;obtain⟨a,us,rfl,q⟩:=c;exact k a us q.obj q.rep q.len|val v=>
 cases v with
 |d x=>cases x with|lst i=>obtain rfl:=Option.some.inj h;exact AZ.lst_k c λa us f o z r=>k a us o (AC.map.mpr r) (A4 (as:=i) V.d▸z)|_=>exact Ae h
 |loc j=>exact AE.loc_k (I:=X.I) c λa g=>OV m g h (k a)|tup _=>exact Ae h
def OW{C:Value->Prop}(c:AE X.I T v u)(h:I5 v=some l)(k:∀a us,T.M.F a->T.seq "tuple" a us->AC (AE X.I T) l us->l.length<=lim->C (.ref a)):C u:=by
 cases v with
 |d x=>cases x with|tup g=>obtain rfl:=Option.some.inj h;exact AZ.tup_k c λa us f o z r=>k a us f o (AC.map.mpr r) (A4 (as:=g) V.d▸z)|_=>exact Ae h
 |tup l=>obtain rfl:=Option.some.inj h;exact AE.tup_k c λa us f o z r=>k a us f o r z|loc _=>exact Ae h
def tup_k{C:Value->Prop}(c:RR X F T G r u)(h:HM r=some l)(k:∀a us,G.M.F a->G.seq "tuple" a us->AC (AE X.I G) l us->l.length<=lim->C (.ref a)):C u:=by cases r with|val v=>exact OW c h k|fresh _=>exact Ae h
def Kh{C:Value->Prop}(m:Mid X J G)(d:RR X F T G r u)(h:GT J r=some l)(k:∀c a us,c ="list"\/c ="tuple"->G.seq c a us->AC (AE X.I G) l us->l.length<=lim->C (.ref a)):C u:=oK h (λa g f=>lst_k m d (g.trans f) λa us=>k _ a us<|.inl rfl) λ_ h=>tup_k d h λa us _=>k _ a us<|.inr rfl
structure DctAt(X:Cx)(T:Sm)(j:Nat)(a:Addr)(b:Bool)(es:List (Int×V))(kvs:List (Int×Value)):Prop where
 ad:T.M.ad[j]?=some a
 wf:T.M.gp[j]?=some [a]\/(a==sysModules)=false
 obj:T.s.heap.DictOf (intKind X.prog X.w) a kvs
 rep:Bf X.I T b es kvs
 len:es.length<=lim
def SH{d:Bool×List (Int×V)}(m:Mid X J T){j:Nat}(i:T.M.ad[j]?=some a)(h:KE J[j]?=some d)(k:∀f,DctAt X T j a d.1 d.2 f->P):P:=by cases hc:J[j]? with|none=>rw[hc] at h;exact Ae h|some c=>rw[hc] at h;cases c with|dct b t=>obtain rfl:=Option.some.inj h;exact m.cell_k i hc λg p q=>q.2.elim λf w=>k f ⟨i,.inl<|q.1▸p,w.1,w.2.1,w.2.2⟩|_=>exact Ae h
def Ki{C:Value->Prop}{d:Bool×List (Int×V)}(m:Mid X J G)(f:RR X F T G r u)(h:Ep J r=some d)(k:∀j a c,DctAt X G j a d.1 d.2 c->C (.ref a)):C u:=bK h λj g h=>f.loc_k g λa i=>SH m i h<|k j a
def Kj{x y:Str}(d:F.fn.names.lookup y=.none){k:NameKind}(c:F.fn.names.lookup x=some k):(x==y)=false:=by rw[beq_eq_false_iff_ne];intro e;subst e;cases d.symm.trans c
def OX{x:Str}{h:Pos}{k:NameKind}{p:R×St}(w:F.fn.names.lookup x=some k)(C:(AJ x s.vars).map (λv=>(R.val v,s))=some p)(i:Inv X F s T)(j:KR X F T Q p):WP X A (eval (.Name x h) F.env) Q E T:=by refine mQ C j λv y j=>?_;obtain⟨m,I,B,H,t⟩:=i.frm.has;obtain⟨u,z,q⟩:=t x v y;have g:=j u T (.refl i) z;refine wpAny_Name (q.elim (λq=>wpAny_loadName_local i.frm.kind q.1 B q.2 g) λq=>?_)<|Kj i.frm.dbg.1 w;obtain⟨c,f⟩:=i.frm.cells x q.1;have d:=H x c f;rw[q.2] at d;exact q.1.elim (λq=>wpAny_loadName_cell i.frm.kind q f d g) λq=>wpAny_loadName_free i.frm.kind q f d g<|Kj i.frm.dbg.2 w
def ZE(H:Top X){x:Str}{c:Pos}{p:R×St}(f:F.fn.names.lookup x=some .globalImplicit)(q:(AJ x X.G.tabs).map (λd=>(R.val<|.d d,s))=some p)(i:Inv X F s T)(k:KR X F T Q p):WP X A (eval (.Name x c) F.env) Q E T:=by refine mQ q k λd h k=>?_;obtain⟨v,m,j⟩:=H.tabs x d h;exact Name_function_global i.frm.kind (i.frm.glo x f) (loadGlobal_global (mg:=X.mg) (by rw[i.frm.glb];exact H.g.keeps i.mid.top) m<|k v T (.refl i)<|j i.mid.top i.mid.base)<|Kj i.frm.dbg.1 f
def ZF(H:Top X){x:Str}{f:Pos}{p:R×St}(d:ID X.G F.fn x s=some p)(i:Inv X F s T)(k:KR X F T Q p):WP X A (eval (.Name x f) F.env) Q E T:=by unfold ID at d;cases hk:F.fn.names.lookup x with|none=>rw[hk] at d;exact Ae d|some c=>rw[hk] at d;cases c with|globalImplicit=>exact ZE H hk d i k|«local»=>exact OX hk d i k|cell=>exact OX hk d i k|free=>exact OX hk d i k|_=>exact Ae d
def ZG{c:Const}{g:Nat}{f:Pos}{p:R×St}(d:Rs s c=some p)(i:Inv X F s T)(k:KR X F T Q p):WP X A (eval (.Constant c g f) F.env) Q E T:=by cases c with|none=>exact wpAny_Constant_none (sQ d k _ T (.refl i) rfl)|bool b=>exact wpAny_Constant_bool (sQ d k _ T (.refl i) rfl)|int j=>exact wpAny_Constant_int (sQ d k _ _ (.tok i _) ⟨_,rfl⟩)|str x=>exact iK d λh d=>Constant_str (sQ d k _ _ (.tok i _) ⟨_,rfl,h⟩)|_=>exact Ae d
def ZH(H:Snd X o n){h:List Expr}{f:Pos}{p:R×St}(w:AW A n)(g:(if h.length<=lim then(Dt o F.fn h s).map λp=>(R.fresh p.1,p.2) else .none)=some p)(i:Inv X F s T)(k:KR X F T Q p):WP X A (eval (.List h f) F.env) Q E T:=pK g λt g=>mQ g k λq j k=>List_ (OT H w j i λus m d c=>have z:q.1.length<=lim:=SF j▸t;wpAny_newList (push_lst' d.inv c z<|k.then d) (c.lim z))
def ZI(H:Snd X o n){h:List Expr}{t:Nat}{f:Pos}{p:R×St}(x:AW A n)(g:(if h.length<=lim then(Dt o F.fn h s).map λp=>(R.val<|EJ p.1,p.2) else .none)=some p)(i:Inv X F s T)(k:KR X F T Q p):WP X A (eval (.Tuple h t f) F.env) Q E T:=pK g λw g=>mQ g k λq j k=>Tuple_ (OT H x j i λus m d c=>have z:q.1.length<=lim:=SF j▸w;wpAny_newTuple (push_tup' d.inv c z<|k.then d) (c.lim z))
def ZJ{a b:Int}(c:small a=true):IntMulOk a b:=by
 refine IntMulOk.of_left ?_;unfold Builtin.Int.intBits;split;exact(by decide:0<=34) |> λh=>by omega
 rename_i h;have f:a.natAbs≠0:=λe=>h (by simp at e ⊢;exact e);have d:a.natAbs<=4294967296:=D2 c;have:a.natAbs.log2<34:=(Nat.log2_lt f).mpr (AO d<|by decide);omega
def ZK{a b:Int}(h:0<b):Int.fmod a b=a%b:=Int.fmod_eq_emod_of_nonneg _<|Int.le_of_lt h
def Kk(I:Iota)(z:Int)(d:D):Prop:=∀T t,AZ I T d<|.int z t
theorem Kk.int{I:Iota}(z:Int):Kk I z<|.int z:=λ_ t=>⟨t,rfl⟩
theorem Kk.key{I:Iota}{z k:Int}(h:I.f true k=z):Kk I z<|.key k:=λ_ t=>⟨t,by rw[h]⟩
def JG{z:Int}{d:D}(i:Inv X F s T)(k:KR X F T Q (.val<|.d d,s))(h:Kk X.I z d):Q (.int z T.s.toks) {T.s with toks:=T.s.toks+1}:=k _ _ (.tok i _)<|h _ _
def ZL(H:Top X){f:Operator}{j:Int}{t:Tok}{x d:D}(i:Inv X F s T)(g:AZ X.I T x u)(c:KK f j x=some d)(k:KR X F T Q (.val<|.d d,s)):WP X A (binaryOp f u<|.int j t) Q E T:=by
 cases x with
 |int p=>obtain⟨h,rfl⟩:=g;cases f with|Add=>exact wpAny_add_int (JG i k<|Option.some.inj c▸.int _)|Sub=>exact sub_int (JG i k<|Option.some.inj c▸.int _)|Mult=>exact iK c λhs c=>mul_int (JG i k<|Option.some.inj c▸.int _) (ZJ (CN.mp hs).1)|Mod=>exact pK c λhs c=>mod_int (Int.ne_of_gt hs) (by rw[ZK hs];exact JG i k<|Option.some.inj c▸.int _)|_=>exact Ae c
 |key p=>obtain⟨h,rfl⟩:=g;cases f with|Add=>exact wpAny_add_int (JG i k<|Option.some.inj c▸.key (Int.add_assoc _ _ _).symm)|Sub=>exact sub_int (JG i k<|Option.some.inj c▸.key (Int.add_sub_assoc _ _ _).symm)|_=>exact Ae c
 |_=>exact Ae c
def ZM{a b:R}{x:R}{f c:Value}(i:Inv X F s T)(N:RR X F G T a f)(M:RR X F K T b c){l m:List V}(I:Ch s.store a=some l)(H:Ch s.store b=some m)(B:l.length+m.length<=lim)(k:KR X F T Q (.fresh<|l++m,s)):WP X A (binaryOp .Add f c) Q E T:=lst_k (C:=λf=>WP X A (binaryOp .Add f c) Q E T) i.mid N I λj us ⟨y,h⟩ t S=>lst_k (C:=λc=>WP X A (binaryOp .Add (.ref j) c) Q E T) i.mid M H λz p ⟨w,g⟩ q O=>by have d:(l++m).length<=lim:=A9▸B;have r:=t.append q;refine concat_meets ⟨_,h,rfl⟩ ⟨_,g,rfl⟩ noFill_list_add seq_list_add PySem.F.slot_list_add PySem.F.entry_list_add (PySem.F.args_list_add_2 _ _) (list_addW j z us.toArray p.toArray y w none none #[] #[] (by rw[<-Array.size_append,List.append_toArray];exact r.lim d)) ⟨h,g,?_⟩;rw[List.append_toArray];exact push_lst' i r d k
def ZN{a b:R}{x:R}{t p:Value}(i:Inv X F s T)(Y:RR X F G T a t)(S:RR X F K T b p){l m:List V}(O:HM a=some l)(N:HM b=some m)(M:l.length+m.length<=lim)(k:KR X F T Q (.val<|EJ<|l++m,s)):WP X A (binaryOp .Add t p) Q E T:=tup_k (C:=λt=>WP X A (binaryOp .Add t p) Q E T) Y O λz us f1 ⟨y,j⟩ I z1=>tup_k (C:=λp=>WP X A (binaryOp .Add (.ref z) p) Q E T) S N λB q Z ⟨w,g⟩ H z2=>by have f:(l++m).length<=lim:=A9▸M;have r:=I.append H;cases us with|nil=>refine concat_meets ⟨_,j,rfl⟩ ⟨_,g,rfl⟩ noFill_tuple_add seq_tuple_add PySem.F.slot_tuple_add PySem.F.entry_tuple_add (PySem.F.args_tuple_add_2 _ _) (tuple_addW0 z B (List.toArray []) q.toArray y w none none #[] #[] rfl) ⟨j,g,?_⟩;exact k _ _ (.refl i) (MB Z ⟨w,g⟩ r f)|cons c us=>cases q with|nil=>refine concat_meets ⟨_,j,rfl⟩ ⟨_,g,rfl⟩ noFill_tuple_add seq_tuple_add PySem.F.slot_tuple_add PySem.F.entry_tuple_add (PySem.F.args_tuple_add_2 _ _) (tuple_addW1 z B (List.toArray<|c::us) (List.toArray []) y w none none #[] #[] (λh=>by exact Bw h) rfl) ⟨j,g,?_⟩;exact k _ _ (.refl i) (MB f1 ⟨y,j⟩ (BJ (c::us)▸r) f)|cons d q=>refine concat_meets ⟨_,j,rfl⟩ ⟨_,g,rfl⟩ noFill_tuple_add seq_tuple_add PySem.F.slot_tuple_add PySem.F.entry_tuple_add (PySem.F.args_tuple_add_2 _ _) (tuple_addW2 z B (List.toArray<|c::us) (List.toArray<|d::q) y w none none #[] #[] (λh=>by exact Bw h) (λh=>by exact Bw h) (by rw[<-Array.size_append,List.append_toArray];exact r.lim f)) ⟨j,g,?_⟩;rw[List.append_toArray];exact push_tup' i r f k
def ZO(H:Top X){h:Operator}{a b x:R}{g w:Value}(i:Inv X F s T)(p:RR X F G T a g)(O:RR X F K T b w)(c:Er s.store h a b=some x)(k:KR X F T Q (x,s)):WP X A (binaryOp h g w) Q E T:=oK c (λj N c=>bK N λq Y N=>O.num_k (P:=λw=>WP X A (binaryOp h g w) Q E T) Y λt=>Gd (P:=λq=>WP X A (binaryOp h g<|.int (X.I.f q.1 q.2) t) Q E T) N<|bK c λy S c=>mQ (C:=λx=>KR X F T Q (x,s)) c k λd Z k=>by cases a with|val v=>exact J9 (P:=λv=>AE X.I T v g->WP X A (binaryOp h g<|.int j t) Q E T) S (λp=>ZL H i p Z k) p|fresh _=>exact Ae S) λ_ c=>by cases h with|Add=>exact oK c (λl M c=>bK c λm B c=>pK c λz c=>ZM (x:=x) i p O M B z<|sQ (C:=λx=>KR X F T Q (x,s)) c k) λ_ c=>bK c λl M c=>bK c λm B c=>pK c λz c=>ZN (x:=x) i p O M B z (sQ (C:=λx=>KR X F T Q (x,s)) c k)|_=>exact Ae c
end
def SI{n:Nat}{v:Int}(h:0<=v):((E2 n v:Nat):Int)=min v n:=by unfold E2;rw[A5 h];cases Nat.le_total v.toNat n with|inl q=>rw[Nat.min_eq_left q,Int.toNat_of_nonneg h,Int.min_eq_left<|Int.toNat_le.mp q]|inr q=>rw[Nat.min_eq_right q,Int.min_eq_right<|Int.toNat_of_nonneg h▸Int.ofNat_le.mpr q]
def SJ{n:Nat}{v:Int}(h:¬0<=v):((E2 n v:Nat):Int)=max (v+n) 0:=by unfold E2;rw[A1 h,Int.ofNat_toNat]
def MC(n:Nat)(v:Int):(if v<0 then max (v+(n:Int)) 0 else min v (n:Int))=((E2 n v:Nat):Int):=by by_cases h:v<0;rw[A5 h,SJ<|Int.not_le.mpr h];rw[A1 h,SI<|Int.not_lt.mp h]
def clip_eq'(n:Nat)(v:Int):max 0 (min (if v<0 then v+(n:Int) else v) (n:Int))=((E2 n v:Nat):Int):=by by_cases h:v<0;rw[A5 h,SJ<|Int.not_le.mpr h,Int.min_eq_left<|Int.add_le_of_le_sub_right<|by rw[Int.sub_self];exact Int.le_of_lt h,Int.max_comm];rw[A1 h,SI<|Int.not_lt.mp h,Int.max_eq_right<|Int.le_min.mpr ⟨Int.not_lt.mp h,Int.natCast_nonneg n⟩]
def ZP(a b:Option Int)(n:Nat):Builtin.Slice.sliceAdjust a b 1 (n:Int)=(((EK n a:Nat):Int),((G7 n b:Nat):Int)):=by
 cases a with
 |none=>cases b with|none=>rfl|some b=>exact A3 (Prod.mk _)<|MC n b
 |some a=>cases b with|none=>exact A3 (Prod.mk · _) (MC n a)|some b=>exact(A3 (Prod.mk · _)<|MC n a).trans<|A3 (Prod.mk _)<|MC n b
def ZQ(a b:Option Int)(n:Nat):sliceBounds a b none n=(((EK n a:Nat):Int),((G7 n b:Nat):Int),1):=by
 cases a with
 |none=>cases b with|none=>rfl|some b=>exact A3 (λx=>((0:Int),x,(1:Int)))<|clip_eq' n b
 |some a=>cases b with|none=>exact A3 (λx=>(x,(n:Int),(1:Int))) (clip_eq' n a)|some b=>exact congr (A3 (λ(x y:Int)=>(x,y,(1:Int)))<|clip_eq' n a)<|clip_eq' n b
def SK(a b:Nat)(f:Int->Int)(c:∀x,f x=x):(if (a:Int)<(b:Int) then f ((b:Int)-(a:Int)) else 0).toNat=b-a:=by by_cases h:(a:Int)<(b:Int);rw[A5 h,c,<-Int.ofNat_sub<|BS<|Bc.mp h];rfl;rw[A1 h,Nat.sub_eq_zero_of_le<|Int.ofNat_le.mp<|Int.not_lt.mp h];rfl
def ZR(a b:Nat):Builtin.Slice.slicePlaces (a:Int) (b:Int) 1=b-a:=by unfold Builtin.Slice.slicePlaces;rw[A5<|by decide];exact SK a b (λx=>(x-1)/1+1) λx=>by rw[Int.ediv_one,Int.sub_add_cancel]
def SL(c:List Value)(a b:Nat):(List.range<|b-a).filterMap (λ(k:Nat)=>c.toArray[((a:Int)+(k:Int)*1).toNat]?)=(c.take b).drop a:=by
 have e:(λ(k:Nat)=>c.toArray[((a:Int)+(k:Int)*1).toNat]?)=(λx=>c.toArray[x]?) ∘ λx=>a+x:=by funext k;rw[Int.mul_one];rfl
 rw[e,<-List.filterMap_map,pick_run,List.drop_take]
def ZS(a b:Nat):sliceRange (a:Int) (b:Int) 1=(List.range<|b-a).map λ(k:Nat)=>((a:Int)+1*(k:Int)).toNat:=by unfold sliceRange;rw[A5<|by decide];exact A3 (λn=>(List.range n).map λ(k:Nat)=>((a:Int)+1*(k:Int)).toNat)<|SK a b (λx=>(x+1-1)/1) λx=>by rw[Int.ediv_one,Int.add_sub_cancel]
def ZT(c:List Value)(a b:Option Int):slicePick c.toArray a b none=List.toArray (slc c a b):=by unfold slicePick;rw[List.size_toArray,ZQ];refine A3 List.toArray ?_;show(sliceRange _ _ 1).filterMap _=_;rw[ZS,List.filterMap_map];refine Eq.trans (A3 (λf=>List.filterMap f _) ?_)<|SL c (EK c.length a)<|G7 c.length b;funext k;show c.toArray[((EK c.length a:Int)+1*(k:Int)).toNat]?=_;rw[Int.one_mul,Int.mul_one]
section
variable{X:Cx}{F:Fx}{o:Ops}{n:Nat}{y g:St}{A:Around}{T z j:Sm}{Q:Value->Shared->Prop}{E:Value->Shared->Prop}{e:Expr}{r:R}{u:Value}{v:V}{q:List Cell}{a:Addr}{l:List V}{d:List Value}{P:Prop}{s:Shared}{f:Program}{w:World}
def ZU(slice:Expr)(o i:Value):∃Br,subscripted slice false o i=operate Br (getItem o i):=by cases slice with|Slice a b c p=>cases c<;>exact⟨_,rfl⟩|_=>exact⟨_,rfl⟩
def Kl{c slice:Expr}{o i:Value}{h id:String}(p:s.TypeIs o h)(k:typeLookup (.type h) "__getitem__" = pure (some<|.builtin id))(m:wpAny (model f w) A (getItem o i) Q E s):wpAny (model f w) A (subscriptTail c slice o i) Q E s:=(ZU slice o i).elim λ_ hs=>tail_any p k m hs
def SM{v:Value}{k:Option Int}{Q:Option Int->Shared->Prop}(h:IsPart v k)(c:Q k s):wpAny (model f w) A (Builtin.Slice.slicePartIndex v) Q E s:=by cases h with|none=>exact slicePart_none c|int i t=>exact slicePart_int c
def ZV{m:Type}(d:List m){c h:Option Int}(p:((((EK d.length c:Nat):Int)==0)&&((1:Int)==1)&&((G7 d.length h-EK d.length c)==d.length))=true):slc d c h=d:=by obtain⟨x,t⟩:=CN.mp p;have k:EK d.length c=0:=Int.ofNat_inj.mp<|beq_iff_eq.mp (CN.mp x).1;have i:=beq_iff_eq.mp t;rw[k] at i;unfold slc;rw[k,show G7 d.length h=d.length from i,List.take_length];rfl
def ZW{t K:Addr}{d:List Value}{m:Nat}{H G:Value}{c p:Option Int}(Y:s.heap.get? t=some (seqObj "tuple" d.toArray m))(hs:s.heap.IsSliceOf K H G .none)(M:IsPart H c)(L:IsPart G p)(O:d.length<=sizeLine) (S:slc d c p=d->Q (.ref t) s) (h:Q (.ref s.heap.objs.size) {s with heap:=s.heap.push (seqObj "tuple" (List.toArray<|slc d c p) 0)}):wpAny (model f w) A (getItem (.ref t)<|.ref K) Q E s:=by have i:IsTup s.heap t d.toArray:=⟨_,Y,rfl,m,rfl⟩;obtain⟨N,B,I,C⟩:=id hs;unfold getItem;refine wpAny_holding ?_;refine A7 (wpAny_sequenceKey i.typeIs (by decide) ?_);refine A7<|wpAny_callSpecial?_slot (name:=Str.ofString "__getitem__") i.typeIs slot_tuple_getitem<|wpAny_call_entry slot_tuple_getitem i.typeIs entry_tuple_getitem ?_<|args_tuple_getitem _ _;show wpAny _ _ (Builtin.Tuple.tupleItemsOf (.ref t) >>= _) _ _ s;refine A7<|tupleItemsOf_ i<|A7<|wpAny_typeOf ⟨N,B,I⟩ ?_;rw[A5<|by decide];refine A7<|A7<|A7<|wpAny_field B C (x:=H) rfl<|A7<|wpAny_field B C (x:=G) rfl<|A7<|wpAny_field B C (x:=.none) rfl<|AR<|A7<|slicePart_none ?_;refine A7<|SM M<|A7<|SM L<|A7<|AR ?_;show wpAny _ _ (match Builtin.Slice.sliceAdjust c p 1 (d.toArray.size:Int) with|(c,p)=>pure (c,(1:Int),Builtin.Slice.slicePlaces c p 1)) _ _ s;rw[List.size_toArray,ZP];refine AR ?_;show wpAny _ _ (if (((EK d.length c:Nat):Int)==0&&(1:Int)==1&&(Builtin.Slice.slicePlaces (EK d.length c:Int) (G7 d.length p:Int) 1)==d.length)=true then _ else _) _ _ s;rw[ZR];by_cases J:((((EK d.length c:Nat):Int)==0)&&((1:Int)==1)&&((G7 d.length p-EK d.length c)==d.length))=true;rw[A5 J];refine A7<|A7<|wpAny_typeOf i.typeIs<|AR ?_;rw[A5<|by decide];exact A7<|wpAny_rule<|AR ⟨_,rfl,AR<|S<|ZV d J⟩;rw[A1 J];show wpAny _ _ (Builtin.Tuple.tupleExact (List.toArray<|(List.range<|G7 d.length p-EK d.length c).filterMap λ(k:Nat)=>d.toArray[(((EK d.length c:Nat):Int)+(k:Int)*1).toNat]?) >>= _) _ _ s;rw[SL];exact A7 (m:=Builtin.Tuple.tupleExact _)<|wpAny_newObj_type (AR ⟨_,rfl,AR h⟩)<|show(List.toArray<|slc d c p).size<=sizeLine by rw[List.size_toArray];exact AB (AB (List.length_drop▸Nat.sub_le _ _)<|List.length_take▸Nat.min_le_right _ _) O
end
section
variable{X:Cx}{F:Fx}{o:Ops}{n:Nat}{G M:St}{A:Around}{T J K:Sm}{Q:Value->Shared->Prop}{E:Value->Shared->Prop}{e:Expr}{r:R}{u:Value}{v:V}{N:List Cell}{a:Addr}{l:List V}{us:List Value}{P:Prop}{s:Shared}{L:Program}{w:World}{I:Iota}{b:Bool}{B:List (Int×V)}{g:List (Int×Value)}
def Km{i:Int}{m j:Nat}(h:seqIndex? i m=some j)(f:0<=i->i<m->i.toNat=j->P)(k:i<0->-(m:Int)<=i->(i+m).toNat=j->P):P:=by unfold seqIndex? at h;refine iK h λd h=>?_;obtain rfl:=Option.some.inj h;by_cases c:i<0;rw[A5 c] at d;exact k c (by have:=Bn (CN.mp d).1;omega) (by rw[A5 c]);rw[A1 c] at d;exact f (Int.not_lt.mp c) (Bn (CN.mp d).2)<|by rw[A1 c]
def Bf.look(k:Int):∀{g:List (Int×Value)},Bf I T b B g->(∀v,AX k B=some v->∃u,valueAt g (I.f b k)=some u/\AE I T v u)/\(AX k B=.none->valueAt g (I.f b k)=.none):=by induction B with|nil=>intro g h;subst h;exact⟨λ_ h=>nK h,λ_=>rfl⟩|cons p B j=>
 intro g h;obtain⟨u,i,rfl,q,r⟩:=h;have e:valueAt ((I.f b p.1,u)::i) (I.f b k)=if k=p.1 then some u else valueAt i (I.f b k):=by by_cases c:k=p.1;rw[A5 c,<-c];unfold valueAt;exact A3 (Option.map _)<|List.find?_cons_of_pos (p:=λd:Int×Value=>decide (d.1=I.f b k))<|Ac rfl;rw[A1 c];unfold valueAt;exact A3 (Option.map _)<|List.find?_cons_of_neg (p:=λd:Int×Value=>decide (d.1=I.f b k))<|mt D2 λe=>c (Iota.inj e).symm
 rw[e];show(∀v,(if k=p.1 then some p.2 else AX k B)=some v->_)/\((if k=p.1 then some p.2 else AX k B)=.none->_);by_cases c:k=p.1;rw[A5 c,A5 c];exact⟨λv e=>⟨u,rfl,Option.some.inj e▸q⟩,λh=>by exact FO h⟩;rw[A1 c,A1 c];exact j r
def Bf.cls{q:Bool×Int}(h:Ea b B q=true)(r:Bf I T b B g):Bf I T q.1 B g:=by cases B with|nil=>exact r|cons p B=>exact(beq_iff_eq.mp h).symm▸r
def Bf.some_k{C:Prop}(r:Bf I T b B g){q:Bool×Int}(h:Ea b B q=true)(e:AX q.2 B=some v)(k:∀u,valueAt g (I.f q.1 q.2)=some u->AE I T v u->C):C:=((r.cls h).look q.2).1 v e |>.elim λu q=>k u q.1 q.2
theorem Bf.isSome(r:Bf I T b B g){q:Bool×Int}(h:Ea b B q=true):(valueAt g<|I.f q.1 q.2).isSome=(AX q.2 B).isSome:=by cases e:AX q.2 B with|none=>rw[((r.cls h).look q.2).2 e];rfl|some v=>exact r.some_k h e λu e _=>by rw[e];rfl
def ZX(H:Top X){c slice:Expr}{a b:R}{v:V}{f h:Value}{d:Bool×List (Int×V)}{q:Bool×Int}(i:Inv X F G T)(O:RR X F J T a f)(z:RR X F K T b h)(y:Ep G.store a=some d)(m:I6 b=some q)(p:Ea d.1 d.2 q=true)(x:AX q.2 d.2=some v) (k:KR X F T Q (.val v,G)):WP X A (subscriptTail c slice f h) Q E T:=z.num_k (P:=λh=>WP X A (subscriptTail c slice f h) Q E T) m λt=>Ki (C:=λf=>WP X A (subscriptTail c slice f _) Q E T) i.mid O y λj a g D=>D.rep.some_k p x λu e r=>Kl D.obj.typeIs slot_dict_getitem.lookup<|wpAny_getItem_of (intKind_is X.prog X.w _ t) D.obj.mapOf e<|k u _ (.tok i _)<|r.mono (AL.tok i _).mono
def SN{j:Int}{m:Nat}(c:m<=lim)(h:j<m):j<2^63:=Int.lt_trans (Int.lt_of_lt_of_le h<|Int.ofNat_le.mpr c) MA
def SO{j:Int}{m:Nat}(c:m<=lim)(h:-(m:Int)<=j):-(2^63)<=j:=Int.le_trans (Int.neg_le_neg<|Int.le_of_lt<|Int.lt_of_le_of_lt (Int.ofNat_le.mpr c) MA) h
def ZY{d slice:Expr}{a b:R}{v:V}{y ub:Value}{j:Int}{l:List V}(i:Inv X F G T)(ha:RR X F J T a y){t:Tok}(hl:GT G.store a=some l)(S:idx l j=some v) (k:KR X F T Q (.val v,G)):WP X A (subscriptTail d slice y<|.int j t) Q E T:=bK S λm H S=>Kh (C:=λy=>WP X A (subscriptTail d slice y _) Q E T) i.mid ha hl λty a us O ⟨c,o⟩ r z=>by obtain⟨u,Z,q⟩:=r.get S;have eu:us.toArray[m]?=some u:=List.getElem?_toArray.trans Z;have x:=k u T (.refl i) q;have f:=r.length;cases O with|inl e=>subst e;have Y:T.s.heap.IsList a us.toArray:=⟨_,o,rfl,c,rfl⟩;refine Kl Y.typeIs slot_list_getitem.lookup<|Km H (λp h e=>?_) λp h e=>?_;exact wpAny_getItem_list Y p (SN z h) (e.symm▸eu) x;exact wpAny_getItem_list_neg Y p (by rw[List.size_toArray,f];exact h) (SO z h) (by rw[List.size_toArray,f,e];exact eu) x|inr e=>subst e;have hT:IsTup T.s.heap a us.toArray:=⟨_,o,rfl,c,rfl⟩;exact Kl hT.typeIs slot_tuple_getitem.lookup<|PyProof.Rows.getItem_tuple hT (Km H (λp _ _=>Int.le_trans (by decide) p) λ_ h _=>SO z h) (Km H (λ_ h _=>SN z h) λp _ _=>Int.lt_trans p<|by decide) (by rw[List.size_toArray,f];exact H) eu x
def ZZ(H:Top X){c slice:Expr}{a b:R}{v:V}{m ub:Value}(i:Inv X F G T)(z:RR X F J T a m)(y:RR X F K T b ub)(h:Ce G.store a b=some v) (k:KR X F T Q (.val v,G)):WP X A (subscriptTail c slice m ub) Q E T:=oK h (λd S h=>bK h λq p h=>iK h λC h=>ZX H i z y S p C h k) λ_ h=>bK h λj x h=>bK h λl O h=>bK x λq p x=>y.num_k (P:=λub=>WP X A (subscriptTail c slice m ub) Q E T) p λt=>Gd (P:=λq=>WP X A (subscriptTail c slice m<|.int (X.I.f q.1 q.2) t) Q E T) x<|ZY (b:=b) (ub:=ub) i z O h k
theorem AC.slc{P:V->Value->Prop}(h:AC P l us)(c d:Option Int):AC P (slc l c d)<|slc us c d:=by unfold Mine.slc;rw[h.length];exact(h.take _).drop _
def OY{c:Type}{l:List c}{d f:Option Int}(z:l.length<=lim):(slc l d f).length<=lim:=AB (AB (List.length_drop▸Nat.sub_le _ _)<|List.length_take▸Nat.min_le_right _ _) z
def Za{d slice:Expr}{a x:R}{j O H:Value}{m p:Option Int}(i:Inv X F G T)(Z:RR X F J T a j)(Y:IsPart O m)(S:IsPart H p)(q:Eb G.store a m p=some x){t:Addr}(hs:T.s.heap.IsSliceOf t O H .none) (k:KR X F T Q (x,G)):WP X A (subscriptTail d slice j<|.ref t) Q E T:=oK q (λl y q=>lst_k (C:=λj=>WP X A (subscriptTail d slice j<|.ref t) Q E T) i.mid Z y λa us ⟨c,o⟩ r z=>by have hL:T.s.heap.IsList a us.toArray:=⟨_,o,rfl,c,rfl⟩;refine Kl hL.typeIs slot_list_getitem.lookup (wpAny_getItem_list_slice hL hs Y S .none (λh=>by exact Ae h) ?_<|r.lim z);rw[ZT];exact push_lst' i (r.slc m p) (OY z)<|sQ (C:=λx=>KR X F T Q (x,G)) q k) λ_ q=>mQ (C:=λx=>KR X F T Q (x,G)) q k λl y k=>tup_k (C:=λj=>WP X A (subscriptTail d slice j<|.ref t) Q E T) Z y λa us f ⟨c,o⟩ r z=>by refine Kl (IsTup.typeIs ⟨_,o,rfl,c,rfl⟩) slot_tuple_getitem.lookup<|ZW o hs Y S (r.lim z) (λe=>?_)<|push_tup' i (r.slc m p) (OY z) k;exact k _ _ (.refl i)<|MB f ⟨c,o⟩ (e▸r.slc m p)<|OY z
def SP(H:Snd X o n){e:Option Expr}{d:Type}{f:Option Int×St->Option d}{y:d}(h:AW A n)(c:(IE o F.fn e G).bind f=some y)(i:Inv X F G T) (k:∀p u J,AL X F T p.2 J->IsPart u p.1->f p=some y->Q u J.s):WP X A (evalPart e F.env) Q E T:=by cases e with|none=>exact wpAny_evalPart_none (k _ _ T (.refl i) .none c)|some e=>exact bK c λp j c=>wpAny_evalPart_some<|OP H h i j (C:=λp=>f p=some y) c λq t J a c=>k _ _ J a (.int q.1 t) c
def Zb(H:Snd X o n)(HT:Top X){v e:Expr}{al:Pos}{p:R×St}(hA:AW A n)(f:RW o F.fn v e G=some p)(i:Inv X F G T)(k:KR X F T Q p):WP X A (eval (.Subscript v e al) F.env) Q E T:=by refine Subscript_<|oK f (λab hs f=>?_) λ_ f=>?_;refine Z9 (C:=λe=>wpAny (model X.prog X.w) A (eval v F.env) (λo Z=>wpAny (model X.prog X.w) A (eval e F.env) (λi Y=>wpAny (model X.prog X.w) A (subscriptTail v e o i) Q E Y) E Z) E T.s) hs λps=>?_;refine FP H hA i f λa4 S af d q f=>wpAny_Slice<|SP H hA f d.inv λa3 z ad c m f=>SP H hA f c.inv λa2 O j y a1 f=>wpAny_evalPart_none<|mQ f k λx h4 k=>?_;have t:AL X F j a2.2<|j.hp (j.s.heap.push {cls:=.type "slice",data:=.fields #[z,O,.none]}) j.s.toks:=.grow y.inv<|Dw _ _;exact Za t.inv (((q.mono c).mono y).mono t) m a1 h4 (Heap.IsSliceOf.new ..)<|k.then<|((d.trans c).trans y).trans t;exact FP H hA i f λa4 S af d q f=>FP H hA d.inv f λa3 z ad c m f=>mQ f k λw h k=>ZZ HT c.inv (q.mono c) m h<|k.then<|d.trans c
end
section
variable{X:Cx}{F:Fx}{o:Ops}{n:Nat}{G Z:St}{A:Around}{T K N:Sm}{Q:Value->Shared->Prop}{E:Value->Shared->Prop}{e:Expr}{r:R}{u:Value}{v:V}{M:List Cell}{a:Addr}{l:List V}{L:List Value}{P:Prop}{s:Shared}{S:Program}{w:World}{I:Iota}{b:Bool}{Y:List (Int×V)}{O:List (Int×Value)}{B:CmpOp}{c:Bool}{J:Bool->Shared->Prop}
def OZ(m:Mid X M T)(d:RR X F K T r u):RR X F K T (KH M r) u:=by cases r with|fresh l=>exact d|val v=>
 cases v with
 |loc j=>refine AE.loc_k (I:=X.I) (P:=λu=>RR X F K T (RQ M<|.loc j) u) d λa f=>?_;have d:AE X.I T (.loc j)<|.ref a:=⟨a,f,rfl⟩;show RR X F K T (RP j M[j]?) (.ref a);cases hc:M[j]? with|none=>exact d|some c=>cases c with|froz h=>exact m.cell_k f hc λg _ q=>q.2|_=>exact d
 |_=>exact d
def Oa{d:D}(i:RR X F K T r u)(h:KG r=some d)(k:∀g,g.s=T.s->AZ X.I g d u->P):P:=by cases r with|val v=>exact J9 (P:=λv=>AE X.I T v u->P) h (k T rfl) i|fresh l=>obtain⟨a,L,rfl,q⟩:=i;refine bK h λx j h=>mK (C:=λv=>GS v=some d->P) j (λp m h=>?_) h;obtain rfl:=Option.some.inj h;exact Gc (P:=λl=>Own X F K T a l L->P) m (λq=>k (T.mm<|T.M.frz (·=a)) rfl ⟨a,L,rfl,.inr rfl,q.obj,(A4 (as:=p) V.d)▸q.len,Gb.mpr<|AC.map (f:=V.d) (P:=AE X.I<|T.mm<|T.M.frz (·=a)) |>.mp (q.rep.mono<|.frz _)⟩) q
def SQ{x y:D}{p m:Value}{g d:Sm}(hA:AW A n)(j:g.s=T.s)(i:d.s=T.s)(ha:AZ X.I g x p)(hb:AZ X.I d y m)(z:GU x y=some c)(f:Bool->Bool) (h:∀{H C:PyData}{as bs:List Addr},Reads T.s.heap p H as->Reads T.s.heap m C bs->SeqAt.shaped H=true->SeqAt.shaped C=true->A.units+64<cLine->Q (.bool<|f<|PyData.eqv H C) T.s->WP X A (compareOp B p m) Q E T) (k:Q (.bool<|f c) T.s):WP X A (compareOp B p m) Q E T:=iK z λho z=>Aq ho λo1 o2=>by have t:=ha.lk o1;have q:=hb.lk o2;rw[j] at t;rw[i] at q;obtain⟨as,ra⟩:=t.reads;obtain⟨bs,rb⟩:=q.reads;exact h ra rb t.shaped q.shaped (AO (AB (Ds (BA _<|8*n) 64)<|BW (by decide) _) hA.u)<|by rw[SC z];exact k
def Kn{d:D}{q:Bool×Int}{C:D->Prop}(h:E3 d=some q)(k:C<|Eo q):C d:=by cases d<;>first|exact nK h|(obtain rfl:=Option.some.inj h;exact k)
def Ob{p q:Bool×Int}{t d:Tok}(h:KF B p q=some c)(k:Q (.bool c) s):wpAny (model S w) A (compareOp B (.int (I.f p.1 p.2) t)<|.int (I.f q.1 q.2) d) Q E s:=iK h λg h=>by rw[<-beq_iff_eq.mp g];cases B with|Lt=>exact lt_int (by rw[decide_eq_decide.mpr<|Iota.lt_iff];exact sQ (C:=λc=>Q (.bool c) s) h k)|LtE=>exact le_int (by rw[decide_eq_decide.mpr<|Iota.le_iff];exact sQ (C:=λc=>Q (.bool c) s) h k)|Gt=>exact gt_int (by rw[decide_eq_decide.mpr<|Iota.lt_iff];exact sQ (C:=λc=>Q (.bool c) s) h k)|GtE=>exact ge_int (by rw[decide_eq_decide.mpr<|Iota.le_iff];exact sQ (C:=λc=>Q (.bool c) s) h k)|_=>exact nK h
def Zc{x y:D}{h d:Value}{g f:Sm}(m:AZ X.I g x h)(j:AZ X.I f y d)(i:((E3 x).bind λp=>(E3 y).bind λq=>KF B p q)=some c)(k:Q (.bool c) T.s):WP X A (compareOp B h d) Q E T:=bK i λp H i=>bK i λq z i=>Kn (C:=λx=>AZ X.I g x h->WP X A (compareOp B h d) Q E T) H (λm=>Kn (C:=λy=>AZ X.I f y d->WP X A (compareOp B h d) Q E T) z (λj=>AZ.num_k (P:=λh=>WP X A (compareOp B h d) Q E T) m λt=>AZ.num_k (P:=λd=>WP X A (compareOp B _ d) Q E T) j λt'=>Ob i k) j) m
def Zd(H:Top X){a b:R}{ua ub:Value}(hA:AW A n)(m:Mid X M T)(j:RR X F K T a ua)(i:RR X F N T b ub)(d:E4 B M a b=some c)(k:Q (.bool c) T.s):WP X A (compareOp B ua ub) Q E T:=bK d λx hx d=>bK d λy hy d=>Oa (OZ m j) hx λa2 g j=>Oa (OZ m i) hy λa1 f i=>by cases B with|Eq=>exact SQ hA g f j i d id (λz t q p h k=>SeqAt.compareEq_shaped z t q p h k) k|NotEq=>exact mQ (C:=λc=>Q (.bool c) T.s) d k λc' d k=>SQ hA g f j i d not (λz t q p h k=>SeqAt.compareNe_shaped z t q p h k) k|_=>exact Zc j i d k
def Ze(H:Top X)(i:Mid X M T)(d:T.M.W a):(a==sysModules)=false:=by cases h:a==sysModules with|false=>rfl|true=>exact absurd d<|beq_iff_eq.mp h▸i.fw _ (i.base _ H.sysm)
def DctAt.nosys{j:Nat}(H:Top X)(i:Mid X M T)(D:DctAt X T j a b Y O):(a==sysModules)=false:=D.wf.elim (λg=>Ze H i<|Mm.W_of g<|Dq a) id
def mem_any{d:D}{f:List D}:∀{c:Bool},KJ d f=some c->((Ec I f).any λy=>PyData.eqv y<|EN I d)=c:=by induction f with|nil=>exact λh=>Option.some.inj h|cons e f g=>exact λh=>bK h λb j h=>mK (C:=λc=>(PyData.eqv (EN I e) (EN I d)||(Ec I f).any λy=>PyData.eqv y<|EN I d)=c) h λk i=>by rw[SC j,g i]
def Zf{a b:R}{H t:Value}(hA:AW A n)(m:Mid X M T)(ha:RR X F K T a H)(hb:RR X F N T b t)(g:RS M a b=some c)(f:Bool->Bool) (h:∀{l:Bool}{cv x:Value}{i:List PyData}{d:PyData}{as bs:List Addr},Reads T.s.heap cv (cond l (.list i)<|.tuple i) as->Reads T.s.heap x d bs->PyData.canLayAll0 i=true->d.canLay0=true->A.units+1+min (PyData.depthAll i) d.depth<cLine->Q (.bool<|f<|i.any λy=>PyData.eqv y d) T.s->WP X A (compareOp B x cv) Q E T) (k:Q (.bool<|f c) T.s):WP X A (compareOp B H t) Q E T:=bK g λd hd g=>bK g λl hl g=>bK g λds a2 g=>iK g λho g=>Aq ho λo1 o2=>Oa (OZ m ha) hd λa3 p ha=>by have z:=ha.lk o1;rw[p] at z;obtain⟨as,ra⟩:=z.reads;refine Kh (C:=λt=>WP X A (compareOp B H t) Q E T) m hb hl λty v L a1 ⟨j,o⟩ r _=>?_;have q:=EB.lks (n:=30) (Gb.mpr<|Gc (P:=λl=>AC (AE X.I T) l L->AC (AZ X.I T) ds L) a2 (λr=>(AC.map (f:=V.d) (P:=AE X.I T)).mp r) r) o2;obtain⟨bs,rb⟩:=q.reads;have hu:A.units+1+min (PyData.depthAll<|Ec X.I ds) (EN X.I d).depth<cLine:=AO (AB (BW (AB (Nat.min_le_left _ _) q.dep) _)<|AB (BW (by decide:31<=300) A.units)<|Ds (BA _<|8*n) _) hA.u;cases a1 with|inl e=>subst e;exact h (l:=true) (reads_list_at o rfl rfl rb) ra q.lay z.lay hu (by rw[mem_any g];exact k)|inr e=>subst e;exact h (l:=false) (reads_tuple_at o rfl rfl rb) ra q.lay z.lay hu<|by rw[mem_any g];exact k
def Zg{l:Bool}{p x:Value}{f:List PyData}{d:PyData}{t q:List Addr}(j:Reads T.s.heap p (cond l (.list f)<|.tuple f) t)(i:Reads T.s.heap x d q)(g:PyData.canLayAll0 f=true)(m:d.canLay0=true)(k:A.units+1+min (PyData.depthAll f) d.depth<cLine)(h:Q (.bool<|id<|f.any λy=>PyData.eqv y d) T.s):WP X A (compareOp .In x p) Q E T:=by cases l with|true=>exact SeqAt.in_list_reads j i g m k h|false=>exact SeqAt.in_tuple_reads j i g m k h
def Zh{l:Bool}{p x:Value}{f:List PyData}{d:PyData}{t q:List Addr}(j:Reads T.s.heap p (cond l (.list f)<|.tuple f) t)(i:Reads T.s.heap x d q)(g:PyData.canLayAll0 f=true)(m:d.canLay0=true)(k:A.units+1+min (PyData.depthAll f) d.depth<cLine)(h:Q (.bool<|not<|f.any λy=>PyData.eqv y d) T.s):WP X A (compareOp .NotIn x p) Q E T:=by cases l with|true=>exact SeqAt.notIn_list_reads j i g m k h|false=>exact SeqAt.notIn_tuple_reads j i g m k h
def SR(H:Top X){a b:R}{ua z:Value}(hA:AW A n)(i:Inv X F G T)(ha:RR X F K T a ua)(hb:RR X F N T b z)(h:G9 G.store a b=some c)(f:Bool->Bool) (a1:∀{k:Int}{d:Addr}{a2:Value}{g:Int->Option Value},(intKind X.prog X.w).is k a2=true->(d==sysModules)=false->T.s.heap.MapOf (intKind X.prog X.w) d g->Q (.bool<|f (g k).isSome) {T.s with toks:=T.s.toks+1}->WP X A (compareOp B a2<|.ref d) Q E T) (m:∀{l:Bool}{cv x:Value}{p:List PyData}{d:PyData}{as bs:List Addr},Reads T.s.heap cv (cond l (.list p)<|.tuple p) as->Reads T.s.heap x d bs->PyData.canLayAll0 p=true->d.canLay0=true->A.units+1+min (PyData.depthAll p) d.depth<cLine->Q (.bool<|f<|p.any λy=>PyData.eqv y d) T.s->WP X A (compareOp B x cv) Q E T) (k:∀K,AL X F T G K->Q (.bool<|f c) K.s):WP X A (compareOp B ua z) Q E T:=oK h (λd hd h=>bK h λq hq h=>iK h λho h=>ha.num_k (P:=λua=>WP X A (compareOp B ua z) Q E T) hq λt=>Ki (C:=λz=>WP X A (compareOp B _ z) Q E T) i.mid hb hd λj a O D=>a1 (intKind_is X.prog X.w _ t) (D.nosys H i.mid) D.obj.mapOf<|by show Q (.bool<|f (valueAt O _).isSome) _;rw[D.rep.isSome ho];exact sQ (C:=λc=>Q (.bool<|f c) _) h<|k _<|.tok i _) λ_ h=>Zf hA i.mid ha hb h f m<|k _<|.refl i
def SS(g:RR X F K T r u):plainIs u .none=true/\(u == .none)=isNone r:=by have f:∀a:Addr,plainIs (.ref a) .none=true/\(Value.ref a == .none)=false:=λa=>⟨rfl,beq_eq_false_iff_ne.mpr λh=>by cases h⟩;cases r with|fresh l=>obtain⟨a,L,rfl,_⟩:=g;exact f a|val v=>cases v with|loc k=>obtain⟨a,_,rfl⟩:=g;exact f a|tup l=>obtain⟨a,_,rfl,_⟩:=g;exact f a|d x=>cases x with|none=>subst g;exact⟨rfl,beq_self_eq_true _⟩|bool b=>subst g;exact⟨rfl,beq_eq_false_iff_ne.mpr λh=>by cases h⟩|int b=>obtain⟨t,rfl⟩:=g;exact⟨rfl,beq_eq_false_iff_ne.mpr λh=>by cases h⟩|key b=>obtain⟨t,rfl⟩:=g;exact⟨rfl,beq_eq_false_iff_ne.mpr λh=>by cases h⟩|str b=>obtain⟨t,rfl,_⟩:=g;exact⟨rfl,beq_eq_false_iff_ne.mpr λh=>by cases h⟩|tup b=>obtain⟨a,_,rfl,_⟩:=g;exact f a|lst b=>obtain⟨a,_,rfl,_⟩:=g;exact f a
def AC.empty{P:V->Value->Prop}(h:AC P l L):L.toArray.isEmpty=l.isEmpty:=by cases l with|nil=>subst h;rfl|cons x l=>obtain⟨u,d,rfl,_⟩:=h;rfl
def Zi(i:Inv X F G T)(h:RR X F K T r u)(f:Ls G.store r=some c)(k:∀K,AL X F T G K->J c K.s):WP X A (truthy u) J E T:=oK f (λl q f=>sQ (C:=λc=>(∀K,AL X F T G K->J c K.s)->WP X A (truthy u) J E T) f.symm (λk=>Kh (C:=λu=>WP X A (truthy u) J E T) i.mid h q λt a L j ⟨m,o⟩ r z=>by have g:((L.toArray.size:Nat):Int)<2^63:=Int.lt_of_le_of_lt (Int.ofNat_le.mpr<|show L.length<=lim from r.length▸z) MA;cases j with|inl e=>subst e;exact wpAny_truthy_list ⟨_,o,rfl,m,rfl⟩ g (by rw[r.empty];exact k _<|.tok i _)|inr e=>subst e;exact truthy_tuple ⟨_,o,rfl,m,rfl⟩ g<|by rw[r.empty];exact k _<|.tok i _) k) λ_ f=>bK f λd p f=>by cases r with|fresh _=>exact nK p|val v=>refine J9 (P:=λv=>AE X.I T v u->WP X A (truthy u) J E T) p (λh=>?_) h;cases d with|none=>subst h;exact truthy_none (sQ (C:=λc=>J c T.s) f<|k T<|.refl i)|bool b=>subst h;exact wpAny_truthy_bool (sQ (C:=λc=>J c T.s) f<|k T<|.refl i)|_=>exact nK f
def MD(H:Top X){x:Str}{v:Value}{h:Pos}(d:DJ X.G F.fn x=true)(j:HV.lookup x=some v)(i:Inv X F G T)(k:Q v T.s):WP X A (eval (.Name x h) F.env) Q E T:=Aq d λd m=>Aq d λd p=>Aq d λf q=>by have g:=H.blt x v j (Option.isNone_iff_eq_none.mp q) (Option.isNone_iff_eq_none.mp p)<|of_decide_eq_false<|Bool.not_eq_true' _ |>.mp m;have f:=beq_iff_eq.mp f;exact Name_function_global i.frm.kind (i.frm.glo x f) (loadGlobal_builtin (mg:=X.mg) (mb:=X.mb) (by rw[i.frm.glb];exact H.g.keeps i.mid.top) g.1 (by rw[i.frm.blt];exact H.b.keeps i.mid.top) g.2 k)<|Kj i.frm.dbg.1 f
def Zj(H:Snd X o n){p:R×St}{d:Fn}(h:o.ev d e G=some p):behindInMarks B e=false:=by cases e with|Set Y k p=>exact nK ((H.set _ _ _ _ _).symm.trans h)|_=>rfl
def Oc(H:Snd X o n){l:Expr}{a1:Pos}{whole:Sem Value}{p:Bool×St}(f:Bool->Bool)(g:List Cell->R->R->Option Bool)(hA:AW A n) (x:((o.ev F.fn l G).bind λp=>(o.ev F.fn e p.2).bind λq=>(g q.2.store p.1 q.1).map λb=>(f b,q.2))=some p) (i:Inv X F G T) (k:KT X F T J p) (j:∀{G:St}{T K N:Sm}{a b:R}{ua C:Value}{c:Bool}{Q:Value->Shared->Prop},Inv X F G T->RR X F K T a ua->RR X F N T b C->g G.store a b=some c->(∀K,AL X F T G K->Q (.bool<|f c) K.s)->WP X A (compareOp B ua C) Q E T):WP X A (isTrue (.Compare l [B] [e] a1) F.env whole) J E T:=bK x λa3 h1 x=>bK x λa2 h2 x=>wpAny_isTrue_Compare1 (H.ev hA h1 i λua ab h t=>H.ev hA h2 h.inv λC a4 d m=>mQ x k λc hc k=>j d.inv (t.mono d) m hc λz y=>wpAny_truthy_bool<|k z<|(h.trans d).trans y)<|Zj H h2
def ST(H:Snd X o n){l:Expr}{h:Pos}{whole:Sem Value}{p:Bool×St}(f:Bool->Bool)(z:AW A n)(x:KP e=true)(y:((o.ev F.fn l G).map λp=>(f<|isNone p.1,p.2))=some p)(i:Inv X F G T)(k:KT X F T J p) (g:∀{s:Shared}{a:Value}{Q:Value->Shared->Prop},plainIs a .none=true->Q (.bool<|f<|a == .none) s->wpAny (model X.prog X.w) A (compareOp B a .none) Q E s):WP X A (isTrue (.Compare l [B] [e] h) F.env whole) J E T:=ZB (C:=λe=>WP X A (isTrue (.Compare l [B] [e] h) F.env whole) J E T) x λc q=>mQ y k λt h1 k=>wpAny_isTrue_Compare1 (H.ev z h1 i λua m j d=>wpAny_Constant_none<|g (SS d).1<|wpAny_truthy_bool<|by rw[(SS d).2];exact k m j) rfl
def SU(H:Snd X o n)(HT:Top X){l a:Expr}{d:Pos}{whole:Sem Value}{p:Bool×St}{c:Bool}(hA:AW A n)(m:OJ l e=some a)(he:OK X.G o F.fn G c a=some p)(i:Inv X F G T)(k:KT X F T J p)(j:∀{s:Shared}{Q:Value->Shared->Prop},Q (.bool c) s->wpAny (model X.prog X.w) A (compareOp B (.type "int")<|.type "int") Q E s):WP X A (isTrue (.Compare l [B] [e] d) F.env whole) J E T:=bK m λx hf m=>iK m λhx m=>Aq hx λh1 h2=>iK he λhb he=>Aq hb λb1 b2=>OQ (C:=λl=>WP X A (isTrue (.Compare l [B] [e] d) F.env whole) J E T) hf λp1 z=>JD (C:=λe=>WP X A (isTrue (.Compare (.Call (.Name x.1 p1) x.2 [] z) [B] [e] d) F.env whole) J E T) (Bn h2) λp3=>FQ (C:=λas=>WP X A (isTrue (.Compare (.Call (.Name x.1 p1) as [] z) [B] [.Name "int" p3] d) F.env whole) J E T) m (by rw[show x.1 ="type" from Bn h1];refine wpAny_isTrue_Compare1 (wpAny_Call_Name_kw<|MD HT b1 (v:=.type "type") rfl i ?_) rfl;refine mQ he k λq hq k=>?_;have a1:backTo z (starEach [a] F.env)=[(false,eval a F.env)]:=bK hq λq1 h1 _=>bK h1 λq2 h2 _=>Fo H h2;rw[a1];exact PySem.callWith_type rfl<|evalArgs_plain<|spliced_cons (Kf H hA i (f:=some) (y:=q) (A3 (Option.bind · some) hq) λq' t h g e=>by obtain rfl:=(Option.some.inj e).symm;exact spliced_nil<|call_type_of (typeIs_int h.s q.1 t) (by decide)<|MD HT b2 (v:=.type "int") rfl g.inv<|j<|wpAny_truthy_bool<|k h g))
def Zk(H:Snd X o n)(HT:Top X){l:Expr}{g:Pos}{whole:Sem Value}{p:Bool×St}(f:AW A n)(d:Ru X.G o F.fn l B e G=some p)(i:Inv X F G T)(k:KT X F T J p):WP X A (isTrue (.Compare l [B] [e] g) F.env whole) J E T:=by cases B with|Is=>exact eK d (λm d=>ST H id f m d i k λj h=>wpAny_is_plain j h) λd=>bK d λa q d=>SU H HT f q d i k λh=>wpAny_is_plain rfl h|IsNot=>exact eK d (λm d=>ST H not f m d i k λj h=>wpAny_isNot_plain j h) λd=>bK d λa q d=>SU H HT f q d i k λh=>wpAny_isNot_plain rfl h|In=>exact Oc H id G9 f d i k λi a b h k=>SR HT f i a b h id (λz y x t=>wpAny_in_of z y x t) Zg k|NotIn=>exact Oc H not G9 f d i k λi a b h k=>SR HT f i a b h not (λz y x t=>wpAny_notIn_of z y x t) Zh k|_=>exact Oc H id (E4 _) f d i k λi a b h k=>Zd HT f i.mid a b h<|k _<|.refl i
def Zl(H:Snd X o n)(z:AW A n){g:BoolOp}{m:List Expr}:∀{G:St}{T:Sm}{p:Bool×St},Et o F.fn g m G=some p->Inv X F G T->KT X F T J p->WP X A (allTrue g m F.env) J E T:=by
 induction m with
 |nil=>intro G T p h i k;have x:=sQ h k T<|.refl i;cases g with|And=>exact wpAny_allTrue_And_nil x|Or=>exact wpAny_allTrue_Or_nil x
 |cons t m y=>
  intro G T p h i k;refine bK h λq C h=>?_;cases g with
  |And=>refine wpAny_allTrue_And_cons<|H.tt z C i λf d=>?_;obtain⟨b,j⟩:=q;cases b with|true=>rw[A5 rfl];exact y h d.inv (k.then d)|false=>rw[A1 Cb];exact sQ h k f d
  |Or=>refine wpAny_allTrue_Or_cons<|H.tt z C i λf d=>?_;obtain⟨b,j⟩:=q;cases b with|false=>rw[A1 Cb];exact y h d.inv (k.then d)|true=>rw[A5 rfl];exact sQ h k f d
def Zm(h:Rw B=true)(e:Expr):behindInMarks B e=false:=by
 cases e with
 |Set Y k p=>cases B<;>first|((first|exact Bw h|cases h);done)|(show((k==0)&&false&&_)=false;rw[Bool.and_false];rfl)
 |_=>rfl
def Zn(H:Snd X o n)(HT:Top X){l:Expr}{x y:CmpOp×Expr}{j:Pos}{p:Bool×St}(C:AW A n)(f:OL o F.fn l x y G=some p)(i:Inv X F G T)(k:KT X F T J p):WP X A (isTrue (.Compare l [x.1,y.1] [x.2,y.2] j) F.env<|eval (.Compare l [x.1,y.1] [x.2,y.2] j) F.env) J E T:=iK f λq f=>isTrue_chain (JC H C i f λa t a3 h f=>test_link<|JC H C h.inv f λb u a2 g f=>bK f λc1 z f=>Ob z<|wpAny_truthy_bool<|by cases c1 with|true=>exact test_last (JC H C g.inv f λd v a1 m f=>mQ f k λc hc k=>Ob hc<|wpAny_truthy_bool<|k _<|(h.trans g).trans m)|false=>exact sQ f k _<|h.trans g)<|Zm q y.2
def Zo(H:Snd X o n){p:Bool×St}(y:AW A n)(i:Inv X F G T)(k:KT X F T J p)(m:M5 o F.fn e G=some p)(h:isTrue e F.env (eval e F.env)=(do let v <-eval e F.env;standAt e.pos;holding [v] (truthy v))):WP X A (isTrue e F.env<|eval e F.env) J E T:=isTrue_plain (FP H y i m λq u t d f m=>mQ m k λb x k=>Zi d.inv f x λj g=>k j<|d.trans g) h
def Zp(H:Snd X o n)(HT:Top X){p:Bool×St}(h:AW A n)(d:Rx X.G o F.fn e G=some p)(i:Inv X F G T)(k:KT X F T J p):WP X A (isTrue e F.env<|eval e F.env) J E T:=by
 have g:=Zo (e:=e) (E:=E) H h i k;cases e with
 |UnaryOp B x q=>cases B with|Not=>exact mQ d k λj h1 k=>wpAny_isTrue_Not (H.tt h h1 i k)|_=>exact g d rfl
 |BoolOp B vs q=>exact wpAny_isTrue_BoolOp (Zl H h d i k)|Compare l Br f q=>refine oK d (λB ho d=>bK d λr z d=>?_) λ_ d=>bK d λx t d=>bK d λy m d=>?_;exact FQ (C:=λBr=>WP X A (isTrue (.Compare l Br f q) F.env<|eval (.Compare l Br f q) F.env) J E T) ho<|FQ (C:=λf=>WP X A (isTrue (.Compare l [B] f q) F.env<|eval (.Compare l [B] f q) F.env) J E T) z<|Zk H HT h d i k;exact HW (C:=λBr=>WP X A (isTrue (.Compare l Br f q) F.env<|eval (.Compare l Br f q) F.env) J E T) t (HW (C:=λf=>WP X A (isTrue (.Compare l [x.1,x.2] f q) F.env<|eval (.Compare l [x.1,x.2] f q) F.env) J E T) m<|Zn (x:=(x.1,y.1)) (y:=(x.2,y.2)) H HT h d i k)|IfExp a b c q=>exact nK d|_=>exact g d rfl
end
open PySem.W
def SV{l r:Nat}(h:l<r):∃q,(l+r)/2=q/\l<=q/\q<r:=⟨_,rfl,(Nat.le_div_iff_mul_le<|by decide).mpr<|by rw[Nat.mul_two];exact BW (BS h) _,(Nat.div_lt_iff_lt_mul<|by decide).mpr<|by rw[Nat.mul_two];exact Nat.add_lt_add_right h _⟩
section
variable{c d:Type}(f:Nat->Nat->Bool)(n:Nat)
noncomputable def KW:KasT c->(c->Prop)->Prop|.ret a,Q=>Q a|.ask i j k,Q=>i<n/\j<n/\i≠j/\KW (k<|f i j) Q
end
section
variable{c d:Type}{f:Nat->Nat->Bool}{n:Nat}
theorem KW.mono{Q e:c->Prop}(h:∀a,Q a->e a):∀{t:KasT c},KW f n t Q->KW f n t e|.ret a,x=>h a x|.ask i j k,x=>⟨x.1,x.2.1,x.2.2.1,KW.mono h x.2.2.2⟩
theorem KW.bind{g:c->KasT d}{Q:d->Prop}:∀{t:KasT c},KW f n t (λa=>KW f n (g a) Q)->KW f n (t.bind g) Q|.ret a,x=>x|.ask i j k,x=>⟨x.1,x.2.1,x.2.2.1,KW.bind x.2.2.2⟩
theorem KW.wp{e:Nat->Nat->(Bool->Shared->Prop)->Shared->Prop}{s:Shared}(g:∀i j C,i<n->j<n->i≠j->C (f i j) s->e i j C s){Q:c->Prop}{R:c->Shared->Prop}(h:∀a,Q a->R a s):∀{t:KasT c},KW f n t Q->t.kasWp e R s|.ret a,x=>h a x|.ask i j k,x=>g i j _ x.1 x.2.1 x.2.2.1<|KW.wp g h x.2.2.2
end
section
variable{n:Nat}{d:Nat->Int}
def Cj(n:Nat)(p:Array Nat):Prop:=p.size=n/\p.Perm (List.toArray<|List.range n)
def Cj.lt{p:Array Nat}(h:Cj n p){i:Nat}(e:i<n):p.getD i 0<n:=by
 have c:p.getD i 0∈p.toList:=by
  have a:i<p.size:=by rw[h.1];exact e
  simp [Array.getD,a]
 have:=(Array.perm_iff_toList_perm.mp h.2).mem_iff.mp c;simpa using this
def Cj.inj{p:Array Nat}(h:Cj n p){i j:Nat}(l:i<n)(k:j<n)(e:p.getD i 0=p.getD j 0):i=j:=by
 have o:p.toList.Nodup:=(Array.perm_iff_toList_perm.mp h.2).symm.nodup (by simpa using List.nodup_range);have c:i<p.toList.length:=by rw[CE,h.1];exact l
 have a:j<p.toList.length:=by rw[CE,h.1];exact k
 have m:p.toList[i]=p.toList[j]:=by
  have g:i<p.size:=by rw[h.1];exact l
  have f:j<p.size:=by rw[h.1];exact k
  simpa [Array.getD,g,f] using e
 have pw:=List.pairwise_iff_getElem.mp o;rcases Nat.lt_trichotomy i j with h|h|h;exact absurd m<|pw i j c a h;exact h;exact absurd m.symm<|pw j i a c h
def Cj.ne{p:Array Nat}(h:Cj n p){i j:Nat}(c:i<n)(a:j<n)(e:i≠j):p.getD i 0≠p.getD j 0:=λq=>e<|h.inj c a q
def Asc(d:Nat->Int)(p:Array Nat)(m:Nat):Prop:=∀i j,i<j->j<m->d (p.getD i 0)<d (p.getD j 0)
def ME(d:Nat->Int)(p:Array Nat)(m:Nat):Prop:=∀i j,i<j->j<m->d (p.getD j 0)<d (p.getD i 0)
variable(f:∀i j,i<n->j<n->d i=d j->i=j)
include f
omit f in
def SW{R:Nat->Nat->Prop}(o:∀{a b c},R a b->R b c->R a c){m:Nat}(q:1<=m)(l:∀i j,i<j->j<m->R i j)(h:R (m-1) m):∀i j,i<j->j<m+1->R i j:=λi j g p=>by by_cases e:j=m;subst e;by_cases k:i=j-1;exact k▸h;exact o (l i (j-1) (Nat.lt_of_le_of_ne (Nat.le_sub_one_of_lt g) k)<|Nat.sub_lt q Nat.one_pos) h;exact l i j g<|Nat.lt_of_le_of_ne (CF p) e
def Od{p:Array Nat}(a:Cj n p){i j:Nat}(h:i<n)(g:j<n)(c:i≠j)(k:¬d (p.getD i 0)<d (p.getD j 0)):d (p.getD j 0)<d (p.getD i 0):=Int.lt_iff_le_and_ne.mpr ⟨Int.not_lt.mp k,λe=>c (a.inj g h<|f _ _ (a.lt g) (a.lt h) e).symm⟩
theorem Oe{p:Array Nat}(l:Cj n p):∀(c m:Nat),1<=m->m+c<=n->Asc d p m->KW (λi j=>decide (d i<d j)) n (kas_asc p c m) (λr=>m<=r/\r<=m+c/\Asc d p r/\(r<m+c->d (p.getD r 0)<d (p.getD (r-1) 0)))|0,m,_,_,s=>⟨Au _,Au _,s,λh=>absurd h<|Nat.lt_irrefl _⟩|c+1,m,u,t,s=>by have a:m<n:=Be (Nat.lt_add_of_pos_right<|Nat.succ_pos c) t;have k:m-1<m:=Nat.sub_lt u Nat.one_pos;have g:=AM k a;have e:=Nat.succ_add_eq_add_succ m c;refine⟨l.lt a,l.lt g,l.ne a g<|Nat.ne_of_gt k,?_⟩;dsimp only;by_cases q:d (p.getD m 0)<d (p.getD (m-1) 0);rw[Ac q,A5 rfl];exact⟨Au _,BA _ _,s,λ_=>q⟩;rw[decide_eq_false q,A1 Cb];exact(Oe l c (m+1) (Nat.succ_pos _) (AB (BB e) t)<|SW (R:=λi j=>d (p.getD i 0)<d (p.getD j 0)) Int.lt_trans u s<|Od f l a g (Nat.ne_of_gt k) q).mono λr o=>⟨Nat.le_of_succ_le o.1,AB o.2.1<|BB e,o.2.2.1,λh=>o.2.2.2<|Be h<|BB e.symm⟩
theorem SX{p:Array Nat}(k:Cj n p):∀(c m:Nat),1<=m->m+c<=n->ME d p m->KW (λi j=>decide (d i<d j)) n (kas_desc c p m 0) (λr=>r.1=p/\r.2.2=0/\m<=r.2.1/\r.2.1<=n/\ME d p r.2.1)|0,m,_,o,s=>⟨rfl,rfl,Au _,o,s⟩|c+1,m,t,o,s=>by have e:m<n:=Be (Nat.lt_add_of_pos_right<|Nat.succ_pos c) o;have h:m-1<m:=Nat.sub_lt t Nat.one_pos;have g:=AM h e;refine⟨k.lt e,k.lt g,k.ne e g<|Nat.ne_of_gt h,?_⟩;dsimp only;by_cases q:d (p.getD m 0)<d (p.getD (m-1) 0);rw[Ac q,A5 rfl,A1<|Nat.lt_irrefl 0];exact(SX k c (m+1) (Nat.succ_pos _) (AB (BB<|Nat.succ_add_eq_add_succ m c) o)<|SW (R:=λi j=>d (p.getD j 0)<d (p.getD i 0)) (λa b=>Int.lt_trans b a) t s q).mono λr l=>⟨l.1,l.2.1,Nat.le_of_succ_le l.2.2.1,l.2.2.2.1,l.2.2.2.2⟩;rw[decide_eq_false q,A1 Cb];refine⟨k.lt g,k.lt e,k.ne g e<|Nat.ne_of_lt h,?_⟩;dsimp only;rw[Ac<|Od f k e g (Nat.ne_of_gt h) q,A5 rfl];exact⟨rfl,rfl,Au _,BS e,s⟩
omit f in
def MF{p q:Array Nat}{i j:Nat}(h:p[i]?=q[j]?):p.getD i 0=q.getD j 0:=by rw[Array.getD_eq_getD_getElem?,Array.getD_eq_getD_getElem?,h]
omit f in
def SY{p:Array Nat}(a:Cj n p)(m:Nat):Cj n<|kas_rev p 0 m:=⟨by unfold kas_rev;rw[mirror_size];exact a.1,by unfold kas_rev;exact(mirror_perm _ _ _ _).trans a.2⟩
omit f in
def Zq{p:Array Nat}(g:Cj n p){m:Nat}(h:m<=n)(o:ME d p m):Asc d (kas_rev p 0 m) m:=by
 have e:∀k,k<m->(kas_rev p 0 m).getD k 0=p.getD (m-1-k) 0:=λk l=>by refine MF ?_;unfold kas_rev;rw[getElem?_mirror_all<|by rw[g.1];exact h,A5 ⟨Bm _,l⟩,Nat.zero_add]
 intro i j a c;rw[e i<|AM a c,e j c];exact o _ _ (Nat.sub_lt_sub_left (Nat.lt_sub_of_add_lt<|AO a c) a)<|AO (Nat.sub_le _ _)<|Nat.sub_lt (Nat.zero_lt_of_lt c) Nat.one_pos
def Zr{p:Array Nat}(c:Cj n p){m:Nat}(g:1<=m)(e:m<=n)(h:ME d p m):KW (λi j=>decide (d i<d j)) n (kas_tail3 m n p) λr=>Cj n r.2/\1<=r.1/\r.1<=n/\Asc d r.2 r.1:=by unfold kas_tail3;refine KW.bind<|(Oe f (SY c m) (n-m) m g (BB<|Nat.add_sub_cancel' e)<|Zq c e h).mono λr a=>?_;exact⟨SY c m,AB g a.1,Nat.add_sub_cancel' e▸a.2.1,a.2.2.1⟩
def Zs(q:2<=n){p:Array Nat}(e:Cj n p):KW (λi j=>decide (d i<d j)) n (kas_count n p) λr=>Cj n r.2/\1<=r.1/\r.1<=n/\Asc d r.2 r.1:=by unfold kas_count;refine KW.bind<|(Oe f e (n-1) 1 (Au _) (BB<|Nat.add_sub_cancel'<|Nat.le_of_succ_le q) λi j c s=>absurd (AO (Bm _) c)<|Nat.not_lt.mpr<|CF s).mono λm H=>?_;obtain⟨u,t,y,z⟩:=H;rw[Nat.add_sub_cancel'<|Nat.le_of_succ_le q] at t z;by_cases l:m=n;rw[A5<|by simp [l]];exact⟨e,u,t,y⟩;rw[A1<|by simp [l]];by_cases a:m>1;rw[A5 a];have o:m-1<m:=Nat.sub_lt u Nat.one_pos;have g:=Be o t;have h:0<m-1:=Nat.sub_pos_of_lt a;have k:=Nat.zero_lt_of_lt g;have:=y 0 (m-1) h o;refine⟨e.lt k,e.lt g,e.ne k g<|Nat.ne_of_lt h,?_⟩;dsimp only;rw[Ac this,A5 rfl];exact⟨e,u,t,y⟩;rw[A1 a];have v:m=1:=Nat.le_antisymm (Nat.le_of_not_lt a) u;subst v;have I:=z q;unfold kas_descPart;refine KW.bind ((SX f e (n-(1+1)) (1+1) (by decide) (BB<|Nat.add_sub_cancel' q) λi j c s=>?_).mono λr G=>?_);have x:i=0:=Nat.lt_one_iff.mp<|Be c<|CF s;have w:j=1:=Nat.le_antisymm (CF s)<|AO (Bm _) c;subst x w;exact I;obtain⟨E,J,C,B,A⟩:=G;rw[A1<|by omega,E];exact Zr f e (AB (by decide) C) B A
theorem Of{p:Array Nat}(v:Cj n p){k:Nat}(w:k<n)(A:Asc d p k):∀(c l r:Nat),l<=r->r<=k->r-l<=c->(∀i,i<l->d (p.getD i 0)<d (p.getD k 0))->(∀i,r<=i->i<k->d (p.getD k 0)<d (p.getD i 0))->KW (λi j=>decide (d i<d j)) n (kas_place p k c l r) (λm=>m<=k/\(∀i,i<m->d (p.getD i 0)<d (p.getD k 0))/\∀i,m<=i->i<k->d (p.getD k 0)<d (p.getD i 0))|0,l,r,G,z,B,s,o=>⟨AB G z,s,λi u g=>o i (AB (Nat.le_of_sub_eq_zero<|Nat.le_zero.mp B) u) g⟩|c+1,l,r,G,z,B,s,o=>by unfold kas_place;by_cases h:l≥r;rw[A5 h];exact⟨AB G z,s,λi u g=>o i (AB h u) g⟩;rw[A1 h];obtain⟨q,I,E,C⟩:=SV<|Nat.not_le.mp h;rw[I];have a:q<k:=Be C z;have t:=AM a w;refine⟨v.lt w,v.lt t,v.ne w t<|Nat.ne_of_gt a,?_⟩;dsimp only;by_cases y:d (p.getD k 0)<d (p.getD q 0);rw[Ac y,A5 rfl];refine Of v w A c l q E (BS a) (CF<|Be (Nat.sub_lt_sub_right E C) B) s λi u g=>?_;by_cases x:i=q;exact x▸y;exact Int.lt_trans y<|A q i (Nat.lt_of_le_of_ne u λe=>x e.symm) g;rw[decide_eq_false y,A1 Cb];have H:=Od f v w t (Nat.ne_of_gt a) y;refine Of v w A c (q+1) r C z (CF<|Be (Nat.sub_lt_sub_left (AO E C)<|D0 E) B) (λi u=>?_) o;by_cases x:i=q;exact x▸H;exact Int.lt_trans (A i q (Nat.lt_of_le_of_ne (CF u) x) a) H
theorem SZ:∀(c:Nat){p:Array Nat}(o:Cj n p)(k:Nat),1<=k->k+c=n->Asc d p k->KW (λi j=>decide (d i<d j)) n (kas_bin c p k) (λq=>Cj n q/\Asc d q n)
 |0,p,o,k,w,A,u=>⟨o,by rw[<-A];exact u⟩|c+1,p,o,k,w,A,u=>by
  unfold kas_bin;have y:k<n:=A▸Nat.lt_add_of_pos_right (Nat.succ_pos c);refine KW.bind<|(Of f o y u k 0 k (Bm _) (Au _) (Au _) (λi z=>absurd z<|Nat.not_lt_zero _) λi w v=>absurd v<|Nat.not_lt.mpr w).mono λm J=>?_;obtain⟨E,H,G⟩:=J;have B:Cj n<|bubble p k<|k-m:=⟨by rw[bubble_size];exact o.1,(bubble_perm _ _ _).trans o.2⟩;refine SZ c B (k+1) (Nat.succ_pos _) ((Nat.succ_add_eq_add_succ k c).trans A) ?_;have e:∀x,x<k+1->(bubble p k<|k-m).getD x 0=if x=m then p.getD k 0 else if m<x then p.getD (x-1) 0 else p.getD x 0:=λx I=>by have:=getElem?_bubble (xs:=p) (src:=k) (by rw[o.1];exact y) (k-m) (Nat.sub_le _ _) x;rw[Nat.sub_sub_self E] at this;by_cases w:x=m;rw[A5 w] at this ⊢;exact MF this;rw[A1 w] at this ⊢;by_cases v:m<x;rw[A5 ⟨v,CF I⟩] at this;rw[A5 v];exact MF this;rw[A1 λh=>v h.1] at this;rw[A1 v];exact MF this
  intro i j a C;rw[e i<|AM a C,e j C];have s:∀{x},x<j->x<=j-1:=Nat.le_sub_one_of_lt;have r:∀{x},x<j->j-1<k:=λh=>Be (Nat.sub_lt (Nat.zero_lt_of_lt h) Nat.one_pos)<|CF C;by_cases z:i=m;subst z;rw[A5 rfl,A1<|Nat.ne_of_gt a,A5 a];exact G (j-1) (s a)<|r a;rw[A1 z];by_cases t:j=m;subst t;rw[A1<|Nat.lt_asymm a,A5 rfl];exact H i a;rw[A1 t];by_cases l:m<i;rw[A5 l,A5<|AM l a];exact u (i-1) (j-1) (Be (Nat.sub_lt (Nat.zero_lt_of_lt l) Nat.one_pos)<|s a)<|r a;rw[A1 l];by_cases g:m<j;rw[A5 g];exact u i (j-1) (Be (Nat.lt_of_le_of_ne (Nat.le_of_not_lt l) z)<|s g)<|r g;rw[A1 g];exact u i j a<|Be (Nat.lt_of_le_of_ne (Nat.le_of_not_lt g) t) E
def Zt(l:2<=n):KW (λi j=>decide (d i<d j)) n (kas_sort n) λq=>Cj n q/\Asc d q n:=by unfold kas_sort;have m:Cj n<|List.toArray<|List.range n:=⟨by simp,Array.Perm.refl _⟩;refine KW.bind<|(Zs f l m).mono λr k=>?_;obtain⟨h,g,e,c⟩:=k;by_cases a:r.1<n;rw[A5 a];rw[Nat.max_eq_left g];exact SZ f (n-r.1) h r.1 g (Nat.add_sub_cancel' e) c;rw[A1 a];exact⟨h,Nat.le_antisymm e (Nat.le_of_not_lt a)▸c⟩
end
section
variable{c:Type}{k:c->Int}
def Sa(x:c)(l:List c):(Df k x l).Perm<|x::l:=by induction l with|nil=>exact List.Perm.refl _|cons y l a=>show(if k x<=k y then x::y::l else y::Df k x l).Perm _;by_cases h:k x<=k y;rw[A5 h];rw[A1 h];exact(a.cons y).trans<|List.Perm.swap x y l
def IM(l:List c):(C8 k l).Perm l:=by induction l with|nil=>exact List.Perm.refl _|cons x l a=>exact(Sa x<|C8 k l).trans<|a.cons x
def Zu(x:c){l:List c}(h:l.Pairwise λa b=>k a<=k b):(Df k x l).Pairwise λa b=>k a<=k b:=by induction l with|nil=>exact List.pairwise_singleton _ _|cons y l i=>obtain⟨g,j⟩:=DU.mp h;show(if k x<=k y then x::y::l else y::Df k x l).Pairwise _;by_cases d:k x<=k y;rw[A5 d];exact DU.mpr ⟨λz f=>(An.mp f).elim (λe=>e▸d) λf=>Int.le_trans d<|g z f,h⟩;rw[A1 d];exact DU.mpr ⟨λz f=>(An.mp<|(Sa x l).mem_iff.mp f).elim (λe=>e▸Int.le_of_lt (Int.not_le.mp d))<|g z,i j⟩
def MG(l:List c):(C8 k l).Pairwise λa b=>k a<=k b:=by induction l with|nil=>exact List.Pairwise.nil|cons x l d=>exact Zu x d
def Og{a:List c}:∀{b:List c},a.Perm b->a.Pairwise (λx y=>k x<=k y)->b.Pairwise (λx y=>k x<=k y)->(∀x∈b,∀y∈b,k x=k y->x=y)->a=b:=by induction a with|nil=>exact λp _ _ _=>List.Perm.nil_eq p|cons x a j=>intro b p i g f;cases b with|nil=>exact absurd (p.length_eq) (Nat.ne_of_beq_eq_false rfl)|cons y b=>have d:x∈y::b:=p.mem_iff.mp AT;have e:x=y:=f x d y AT<|Int.le_antisymm ((An.mp<|p.mem_iff.mpr AT).elim (λh=>Int.le_of_eq<|A3 k h.symm) λh=>(DU.mp i).1 y h)<|(An.mp d).elim (λh=>Int.le_of_eq<|A3 k h.symm) λh=>(DU.mp g).1 x h;subst e;exact A3 (x::·)<|j (List.Perm.cons_inv p) (DU.mp i).2 (DU.mp g).2 λu m v l=>f u (.tail _ m) v<|.tail _ l
def Zv{a:Type}(f:a->c)(x:a)(l:List a):Df k (f x) (l.map f)=(Df (λy=>k<|f y) x l).map f:=by induction l with|nil=>rfl|cons y l d=>show(if k (f x)<=k (f y) then f x::f y::l.map f else f y::Df k (f x) (l.map f))=(if k (f x)<=k (f y) then x::y::l else y::Df _ x l).map f;by_cases h:k (f x)<=k (f y);rw[A5 h,A5 h];rfl;rw[A1 h,A1 h,d];rfl
def Oh{a:Type}(f:a->c)(l:List a):C8 k (l.map f)=(C8 (λy=>k<|f y) l).map f:=by induction l with|nil=>rfl|cons x l d=>show Df k (f x) (C8 k<|l.map f)=_;rw[d,Zv];rfl
end
noncomputable def kd(d:D):Int:=(J2 d).2
def Zw{l:List Int}(h:KM l=true):l.Nodup:=by induction l with|nil=>exact List.nodup_nil|cons x l c=>obtain⟨a,d⟩:=CN.mp<|show(!l.contains x&&KM l)=true from h;exact Bi.mpr ⟨λq=>absurd (Dp.mpr q)<|by rw[Bool.not_eq_true'] at a;rw[a];exact Cb,c d⟩
def Zx{a:Type}{k:a->Int}{l:List a}(h:(l.map k).Nodup):∀x∈l,∀y∈l,k x=k y->x=y:=by induction l with|nil=>exact λ_ h=>absurd h Ax|cons z l j=>
 intro x n y m e;obtain⟨f,o⟩:=Bi.mp h;rcases An.mp n with i|d<;>rcases An.mp m with g|c
 rw[i,g];exact absurd (B9.mpr ⟨y,c,by rw[<-e,i]⟩) f;exact absurd (B9.mpr ⟨x,d,by rw[e,g]⟩) f;exact j o x d y c e
def Sb{m:Type}{k:m->Int}{l:List m}{d:m}(h:(l.map k).Nodup){i j:Nat}(a:i<l.length)(c:j<l.length)(e:k (l.getD i d)=k (l.getD j d)):i=j:=by
 have f:∀{i},(a:i<l.length)->l.getD i d=l[i]:=λa=>by rw[List.getD_eq_getElem?_getD,Cv a];rfl
 have pw:=List.pairwise_iff_getElem.mp h;have g:∀{i j},i<l.length->j<l.length->i<j->k (l.getD i d)≠k (l.getD j d):=λ{i j} a c q=>by have:=pw i j (A4 k▸a) (A4 k▸c) q;rw[List.getElem_map,List.getElem_map] at this;rw[f a,f c];exact this
 exact(Nat.lt_trichotomy i j).elim (λq=>absurd e<|g a c q) λq=>q.elim id λq=>absurd e.symm<|g c a q
def Zy{a:List D}(h:a.all KL=true):∃c:List Int,a=c.map .int:=by induction a with|nil=>exact⟨[],rfl⟩|cons d a e=>obtain⟨g,f⟩:=CN.mp h;obtain⟨c,rfl⟩:=e f;cases d with|int j=>exact⟨j::c,rfl⟩|_=>exact Bw g
def Zz{a:Type}(l:List a)(d:a):(List.range l.length).map (λi=>l.getD i d)=l:=by apply List.ext_getElem;rw[A4,List.length_range];intro i e c;rw[List.getElem_map,List.getElem_range,List.getD_eq_getElem?_getD,Cv c];rfl
section
variable{I:Iota}{T:Sm}
def Sc{c:List Int}:∀{a:List Value},AC (AZ I T) (c.map .int) a->IntsAre a c:=by induction c with|nil=>intro a h;subst h;exact .nil|cons j c d=>intro a h;obtain⟨u,e,rfl,⟨t,rfl⟩,r⟩:=h;exact .cons j t<|d r
def Sd{a:List Value}{c:List Int}(h:IntsAre a c):AC (AZ I T) (c.map .int) a:=by induction h with|nil=>exact rfl|cons j t h d=>exact⟨_,_,rfl,⟨t,rfl⟩,d⟩
theorem AC.getD{a:List D}{c:List Value}{i:Nat}(x:AC (AZ I T) a c)(d:i<a.length):AZ I T (a.getD i .none)<|c.getD i .none:=by obtain⟨u,e,r⟩:=x.get<|Cv d;rw[List.getD_eq_getElem?_getD,List.getD_eq_getElem?_getD,e,Cv d];exact r
def AC.of_getD{d:List D}{a:List Value}{p:List Nat}(c:∀i∈p,AZ I T (d.getD i .none)<|a.getD i .none):AC (AZ I T) (p.map λi=>d.getD i .none)<|p.map λi=>a.getD i .none:=by induction p with|nil=>exact rfl|cons i p e=>exact⟨_,_,rfl,c i AT,e λj f=>c j<|Ah _ f⟩
def Oi{c:Bool}{d:D}{v:Value}{P:Value->Prop}(x:AZ I T d v)(e:HN c d=true)(k:∀a h m t,T.s.heap.get? a=some (seqObj "tuple" (List.toArray<|.int (I.f c<|kd d) t::h) m)->P (.ref a)):P v:=by
 cases d with
 |tup l=>cases l with|nil=>exact Bw e|cons y l=>refine AZ.tup_k x λa h _ ⟨m,o⟩ _ r=>?_;obtain⟨u,g,rfl,q,_⟩:=r;have e:BK (E3 y) (λp=>p.1==c) false=true:=e;have i:kd (.tup<|y::l)=((E3 y).getD (false,0)).2:=rfl;rw[i] at k;cases hq:E3 y with|none=>rw[hq] at e;exact Bw e|some p=>rw[hq] at e k;cases beq_iff_eq.mp e;exact Kn (C:=λy=>AZ I T y u->P (.ref a)) hq (λq=>AZ.num_k (P:=λu=>T.s.heap.get? a=some (seqObj "tuple" (List.toArray<|u::g) m)->P (.ref a)) q (λt o=>k a g m t o) o) q
 |_=>exact Bw e
end
section
variable{l:Program}{w:World}{A:Around}{E:Value->Shared->Prop}{I:Iota}{T:Sm}{c:Bool}{g:List D}{vs:List Value}
def Se(d:g.all (HN c)=true){i:Nat}(a:i<g.length):HN c (g.getD i .none)=true:=by rw[List.getD_eq_getElem?_getD,Cv a];exact List.all_eq_true.mp d _<|List.getElem_mem a
def a0(n:AC (AZ I T) g vs)(o:g.all (HN c)=true)(u:(g.map kd).Nodup){i j:Nat}{Q:Bool->Shared->Prop}(k:i<g.length)(d:j<g.length)(f:i≠j) (h:Q (decide (kd (g.getD i .none)<kd (g.getD j .none))) T.s):kas_ask l w A (tuples' true) vs i j Q T.s:=by unfold kas_ask;refine Oi (P:=λv=>wpAny (model l w) A (keyLt' (tuples' true) v<|vs.getD j .none) Q _ T.s) (n.getD k) (Se o k) λa x m t r=>?_;refine Oi (P:=λv=>wpAny (model l w) A (keyLt' (tuples' true) (.ref a) v) Q _ T.s) (n.getD d) (Se o d) λb p z y q=>?_;refine kat_lt r rfl q rfl<|kat_cons<|wpAny_eqBool_int ?_;rw[beq_eq_false_iff_ne.mpr λe=>f<|Sb u k d<|Iota.inj e];exact kat_no<|oneLt_int<|by rw[decide_eq_decide.mpr<|Iota.lt_iff];exact h
def a5(y:g.all (HN c)=true):∀{vs:List Value},AC (AZ I T) g vs->∃f,KatTups T.s.heap vs f/\f.length=g.length/\∀v∈f,∃j t,v=.int j t:=by induction g with|nil=>intro vs h;subst h;exact⟨[],.nil,rfl,λ_ h=>Ew h⟩|cons d g q=>intro vs h;obtain⟨B,z⟩:=CN.mp y;obtain⟨v,i,rfl,x,r⟩:=h;obtain⟨f,p,n,k⟩:=q z r;exact Oi (P:=λv=>∃f,KatTups T.s.heap (v::i) f/\f.length=(d::g).length/\∀v∈f,∃j t,v=.int j t) x B λa C m t o=>⟨_::f,.cons o rfl rfl rfl p,A3 (·+1) n,λv u=>(An.mp u).elim (λe=>⟨_,t,e⟩)<|k v⟩
noncomputable def JH(h:Heap)(a:Addr)(vs:List Value):Heap:=((h.update a<|Obj.mapSeq λ_=>#[]).push<|seqObj "tuple" vs.toArray 0).push<|seqObj "list" #[] 0
def a6{h:Heap}{a:Addr}{n:Nat}(d:h.get? a=some (seqObj "list" vs.toArray n)):∃e,(h.update a<|Obj.mapSeq λ_=>#[]).get? a=some (seqObj "list" #[] e)/\(JH h a vs).get? a=some (seqObj "list" #[] e):=have q:=get?_update_seq d λ_=>#[];⟨_,q,E1 _<|E1 _ q⟩
def a7{a:Addr}(d:¬T.M.F a):Mono T<|T.hp (JH T.s.heap a vs) T.s.toks:=⟨λ_ f=>f,λb o f e=>E1 _<|E1 _<|(Heap.get?_update_ne _ _ _ _ λq:b=a=>d<|q▸f).trans e,CG _⟩
def Sg(n:AC (AZ I T) g vs)(h:(g.map kd).Nodup){p:List Nat}(d:p.Perm<|List.range g.length)(hs:p.Pairwise λi j=>kd (g.getD i .none)<=kd (g.getD j .none)):AC (AZ I T) (C8 kd g)<|p.map λi=>vs.getD i .none:=by have a:=Zx h;rw[(Og (k:=kd) (((d.map λi=>g.getD i D.none).trans<|by rw[Zz]).trans (IM g).symm) (List.pairwise_map.mpr hs) (MG g) λx f y e=>a x ((IM g).mem_iff.mp f) y<|(IM g).mem_iff.mp e).symm];exact AC.of_getD λi m=>n.getD<|List.mem_range.mp<|d.mem_iff.mp m
def a8{a:Addr}{n:Nat}{P:Fin->Shared->Prop}(S:T.s.heap.get? a=some (seqObj "list" vs.toArray n))(ha:¬T.M.F a)(N:AC (AZ I T) g vs)(J:g.length<64)(X:g.all (HN c)=true)(L:(g.map kd).Nodup) (k:∀z:Array Value,AC (AZ I T) (C8 kd g) z.toList->P (.done<|.ret .none) {T.s with heap:=sortedHeap T.s.heap a vs z}):wpAny (model l w) A (Builtin.«list.sort» ⟨[.ref a],[]⟩) P E T.s:=by have d:=N.length;have K:vs.length<=sizeLine:=AB (BS<|d▸J) (by decide);obtain⟨e1,O,r⟩:=a6 (vs:=vs) S;rw[list_sort_plain];refine A7<|listItems_at S rfl<|A7<|listUpdate_at S rfl (A7<|seqEpoch_at O rfl<|A7<|wpAny_newTuple (A7<|wpAny_newList (wpAny_holding ?_)<|Bm _) K) K<|Bm _;show wpAny (model l w) A _ P E {T.s with heap:=JH T.s.heap a vs};dsimp only;by_cases x:vs.toArray.size<2;rw[A5 x,A5 x];refine A7<|AR ?_;rw[StateT.run_pure];refine A7<|AR ?_;dsimp only;refine A7 (seqEpoch_at r rfl<|A7<|listUpdate_at r rfl ?_ (hsz2:=by rw[Array.size_map];show(pairsOf vs).size<=_;rw[pairsOf_size];exact Nat.le_succ_of_le K));rw[A1<|by rw[bne_self_eq_false];exact Cb];refine AR<|k _ ?_;have B:=kat_snds (ks:=vs) (vs:=vs) rfl (st:=SortSt.mk' general' (vs.toArray.zip vs.toArray) #[] 7 none) (p:=List.toArray<|List.range vs.length) (by have e:=kas_range<|vs.toArray.zip vs.toArray;rw[show(vs.toArray.zip vs.toArray).size=vs.length from pairsOf_size vs] at e;exact e.symm);rw[B];refine Sg N L (by rw[d])<|List.pairwise_iff_getElem.mpr λi j u h m=>?_;have h:j<vs.length:=List.length_range (n:=vs.length)▸h;exact absurd (AO (Nat.succ_le_of_lt<|AO (Nat.succ_le_of_lt<|AO (Bm i) m) h) x)<|Nat.lt_irrefl 2;rw[A1 x,A1 x];have f:2<=vs.length:=Nat.not_lt.mp x;have H:=N.monoD<|a7 (vs:=vs) ha;obtain⟨fs,k1,k2,Z⟩:=a5 X H;refine A7 (kat_kind (T:=.type "int") k1 (k2▸Be (by decide) (d▸f)) (λv hv=>?_) (by decide) ?_);obtain⟨j,t,rfl⟩:=Z v hv;exact Looks.now;rw[show(Value.type "int" != Value.type "tuple")=true by decide];refine A7<|wpAny_mono (kat_run (A:=A) (ks:=vs) (vs:=vs) (E:=E) (Q:=λo y=>y={T.s with heap:=JH T.s.heap a vs}/\failedOf o=none/\∃p:Array Nat,arrOf o=p.map (kas_item<|vs.toArray.zip vs.toArray)/\Cj g.length p/\Asc (λi=>kd<|g.getD i .none) p g.length) (G:=λp y=>y={T.s with heap:=JH T.s.heap a vs}/\Cj g.length p/\Asc (λi=>kd<|g.getD i .none) p g.length) rfl f (d▸J) (λp o y b1 b2 b3 Y=>⟨Y.1,b3,p,b2,Y.2⟩) ?_) ?_ λ_ _ e=>e;rw[d];exact KW.wp (λi j C u h m hC=>a0 (T:=T.hp (JH T.s.heap a vs) T.s.toks) H X L u h m hC) (Q:=λq=>Cj g.length q/\Asc (λi=>kd<|g.getD i .none) q g.length) (λq hq=>⟨rfl,hq⟩)<|Zt (λi j u h e=>Sb L u h e)<|d▸f;rintro⟨⟨⟩,o⟩ y ⟨rfl,hf,p,har,hp,hs⟩;dsimp only;rw[kat_snds rfl har];refine A7 (seqEpoch_at r rfl<|A7<|listUpdate_at r rfl ?_ (Bm _)<|by rw[List.size_toArray,A4,CE,hp.1,<-d];exact Nat.le_succ_of_le K);rw[hf,A1<|by rw[bne_self_eq_false];exact Cb];refine AR<|k (List.toArray<|p.toList.map λi=>vs.getD i Value.none)<|Sg N L (Array.perm_iff_toList_perm.mp hp.2)<|List.pairwise_iff_getElem.mpr λi j u h m=>?_;have:=hs i j m (by rw[CE,hp.1] at h;exact h);rw[Array.getD_eq_getD_getElem?,Array.getD_eq_getD_getElem?,Array.getElem?_eq_getElem u,Array.getElem?_eq_getElem h] at this;exact Int.le_of_lt this
def a9{a:Addr}{n:Nat}{P:Fin->Shared->Prop}(q:T.s.heap.get? a=some (seqObj "list" vs.toArray n))(t:¬T.M.F a)(o:AC (AZ I T) g vs)(d:GV g=true) (k:∀f:Array Value,AC (AZ I T) (C8 kd g) f.toList->P (.done<|.ret .none) {T.s with heap:=sortedHeap T.s.heap a vs f}):wpAny (model l w) A (Builtin.«list.sort» ⟨[.ref a],[]⟩) P E T.s:=Aq d λi d=>by have i:=Bn i;have p:∀c,J3 g c=true->wpAny (model l w) A (Builtin.«list.sort» ⟨[.ref a],[]⟩) P E T.s:=λc h=>Aq h λu r=>a8 q t o i u (Zw r) k;cases h:g.all KL with|true=>obtain⟨m,rfl⟩:=Zy h;refine list_sort_tree q (Sc o) (o.length▸i) λf j B z v=>k f ?_;rw[Oh,show C8 (λy=>kd<|.int y) m=j from Og (k:=λy=>y) ((IM m).trans z.symm) (MG m) (v.imp id) λx _ y _ e=>e];exact Sd B|false=>rw[h] at d;cases h':J3 g false with|true=>exact p _ h'|false=>rw[h'] at d;exact p true d
end
section
variable{a:Program}{w:World}{A:Around}{E:Value->Shared->Prop}{s:Shared}
def collect_via{R:List Value->Shared->Prop}{r:Addr}{n:Nat}{P:Nat->Value->Prop} (ext:∀{R:Result->Shared->Prop},(∀d i c k,(∀b o,b≠s.heap.objs.size->(s.heap.push<|seqObj "list" #[] 0).get? b=some o->d.get? b=some o)->d.get? s.heap.objs.size=some {cls:=.type "list",dict:=none,data:=.seq c k,slots:=#[]}->ItemsOf P c n->R (.ok<|.ret<|.ref s.heap.objs.size) {s with heap:=d,toks:=i})->wpAny (model a w) A.in1 (Builtin.List.listExtendWith (.ref s.heap.objs.size) (.ref r)<|.ref s.heap.objs.size) (λu p=>match u with|.done f=>R (.ok f) p|.again k=>k.quiet=true/\codeAny (model a w) A k R p) (λe p=>R (.error e) p) {s with heap:=s.heap.push (seqObj "list" #[] 0)}) (h:∀(d:Heap)(i:Nat)(q:List Value),(∀b o,s.heap.get? b=some o->d.get? b=some o)->q.length=n->(∀j v,q[j]?=some v->P j v)->R q {s with heap:=d,toks:=i}):wpAny (model a w) A (collect<|.ref r) R E s:=by have m:∀{R:Result->Shared->Prop},(∀d i c k,(∀b o,b≠s.heap.objs.size->(s.heap.push<|seqObj "list" #[] 0).get? b=some o->d.get? b=some o)->d.get? s.heap.objs.size=some {cls:=.type "list",dict:=none,data:=.seq c k,slots:=#[]}->ItemsOf P c n->R (.ok<|.ret<|.ref s.heap.objs.size) {s with heap:=d,toks:=i})->codeAny (model a w) A (.builtin "list.__iadd__" ⟨[.ref s.heap.objs.size,.ref r],[]⟩) R {s with heap:=s.heap.push (seqObj "list" #[] 0)}:=λy=>codeAny_builtin entry_list_iadd' (by rw[Around.under_plainId PySem.F.plain_list_iadd _];exact ext y);unfold collect;refine A7<|wpAny_runValue<|codeAny_builtin entry_proto_collect' ?_;rw[Around.under_plainId PySem.F.plain_proto_collect _];show wpAny _ A.in1 (newList [] >>= λl=>again<|.builtin "list.__iadd__" ⟨[l,.ref r],[]⟩) _ _ s;refine A7<|wpAny_newObj_type<|AR ⟨plainId_quiet PySem.F.plain_list_iadd _,m λd i c k x t g=>?_⟩;exact A7<|wpAny_load t<|AR<|h d i c.toList (λb o e=>x b o (Nat.ne_of_lt<|Heap.lt_size e)<|E1 _ e) (by rw[CE];exact g.1) λj v e=>g.2 j v<|by rw[<-Array.getElem?_toList];exact e
end
structure SetG(prog:Program)(w:World)(P:Heap->Addr->List Int->Prop):Prop where
 keep:∀{h h':Heap}{a:Addr}{ks:List Int},P h a ks->(∀o,h.get? a=some o->h'.get? a=some o)->P h' a ks
 al:∀{h:Heap}{a:Addr}{ks:List Int},P h a ks->Al h a
 make:∀{A:Around}{E Q:Value->Shared->Prop}{s:Shared}{d:Addr}{kvs:List (Int×Value)},A.handled=none->(d==sysModules)=false->s.heap.DictOf (intKind prog w) d kvs->kvs.length<=20->(∀p∈kvs,0<=p.1/\p.1<64)->
  (∀h' tk a,(∀b o,s.heap.get? b=some o->h'.get? b=some o)->¬Al s.heap a->P h' a (kvs.map (·.1))->Q (.ref a) {s with heap:=h',toks:=tk})->wpAny (model prog w) A (call (.type "set") [.ref d]) Q E s
 union:∀{A:Around}{E Q:Value->Shared->Prop}{s:Shared}{a b:Addr}{ks ls:List Int},A.handled=none->a≠b->P s.heap a ks->P s.heap b ls->ks.length<=20->ls.length<=20->(∀k∈ks,0<=k/\k<64)->(∀k∈ls,0<=k/\k<64)->
  (∀h' tk c,(∀b o,s.heap.get? b=some o->h'.get? b=some o)->¬Al s.heap c->P h' c (IC ks ls)->Q (.ref c) {s with heap:=h',toks:=tk})->wpAny (model prog w) A (binaryOp .BitOr (.ref a) (.ref b)) Q E s
 coll:∀{A:Around}{E:Value->Shared->Prop}{Q:List Value->Shared->Prop}{s:Shared}{a:Addr}{ks:List Int},A.handled=none->P s.heap a ks->
  (∀h' tk vs ns,(∀b o,s.heap.get? b=some o->h'.get? b=some o)->IntsAre vs ns->ns.Perm ks->Q vs {s with heap:=h',toks:=tk})->wpAny (model prog w) A (collect (.ref a)) Q E s
def aA(c:List Int):(c.map D.int).all KL=true:=by induction c with|nil=>rfl|cons a l d=>exact d
def aB{a b:List Int}(h:a.Perm b):C8 kd (a.map D.int)=C8 kd (b.map D.int):=by rw[Oh,Oh];exact A3 (List.map D.int)<|Og (k:=λy=>y) (((IM a).trans h).trans (IM b).symm) (MG a) (MG b) λx _ y _ e=>e
section
variable{X:Cx}{F:Fx}{o:Ops}{n:Nat}{y O:St}{A:Around}{T N S:Sm}{Q:Value->Shared->Prop}{E:Value->Shared->Prop}{e:Expr}{r:R}{u:Value}{v:V}{Y:List Cell}{a:Addr}{l:List V}{M:List Value}{P:Heap->Addr->List Int->Prop}{b:Bool}{J:List (Int×V)}{g:List (Int×Value)}{c:Bool}{L:List D}
def KS(X:Cx)(F:Fx)(T:Sm)(y:St)(L:List D)(Q:List Value->Shared->Prop):Prop:=∀vs N d,AL X F T y N->AC (AZ X.I N) d vs->GV d=true->C8 kd d=C8 kd L->Q vs N.s
def MH(H:Top X){x:Value}(i:Inv X F y T)(hc:∀{Q':List Value->Shared->Prop}{E':Value->Shared->Prop},KS X F T y L Q'->WP X A.in1 (collect x) Q' E' T)(k:KR X F T Q (.fresh<|(C8 kd L).map .d,y)):WP X A (call (.builtin "sorted") [x]) Q E T:=by
 refine Calls.call_function_entry kind_sorted plain_sorted entry_sorted (args_sorted1 _) ?_;unfold Builtin.«sorted»;refine A7 (m:=checkCount "sorted" 1 1 _)<|AR<|A7<|hc λt h Z j z G B=>?_;have K:Z.length<64:=Bn (CN.mp G).1;have hz:t.length<=sizeLine:=z.length▸AB (BS K) (by decide);refine A7<|wpAny_newList ?_ hz;have C:(h.s.heap.push<|seqObj "list" t.toArray 0).get? h.s.heap.objs.size=some (seqObj "list" t.toArray 0):=De _ rfl;have a2:AL X F h y<|h.hp (h.s.heap.push<|seqObj "list" t.toArray 0) h.s.toks:=.grow j.inv<|Dw _ _;refine A7<|wpAny_holding<|wpAny_call_entry slot_list_sort ⟨_,C,rfl⟩ entry_list_sort (a9 (T:=h.hp (h.s.heap.push<|seqObj "list" t.toArray 0) h.s.toks) C (λf=>Eu _<|j.inv.mid.fal _ f) (z.monoD a2.mono) G λp w=>⟨_,rfl,AR ⟨_,rfl,?_⟩⟩)<|args_list_sort _;obtain⟨e,he⟩:=sortedHeap_at (out:=p) C;have hk:∀b o,h.s.heap.get? b=some o->(sortedHeap (h.s.heap.push<|seqObj "list" t.toArray 0) h.s.heap.objs.size t p).get? b=some o:=λb o q=>by have I:b<h.s.heap.objs.size:=Heap.lt_size q;rw[sortedHeap_old (Nat.ne_of_lt I)<|by rw[size_push'];exact Nat.lt_succ_of_lt I];exact Dw _ _ b o q
 have a1:Mono (h.hp (h.s.heap.push<|seqObj "list" t.toArray 0) h.s.toks) h:=⟨λ_ f=>f,λb o f e=>(j.inv.mid.fal b f).elim λo' e'=>((Dw _ _ b o' e').symm.trans e)▸e',CG _⟩;rw[B] at w;have x:=OU j.inv (l:=(C8 kd L).map .d) (us:=p.toList) (AC.map.mpr<|w.monoD a1) (by rw[A4,<-B,(IM Z).length_eq];exact AB (BS K)<|by decide) (tk:=h.s.toks) (Eu h.s.heap) he hk;exact k _ _ (j.trans x.1)<|x.2.older j.ext.al
def MJ{l d:List D}{C:List D->Prop}(h:EL l=some d)(k:GV l=true->C (C8 kd l)):C d:=iK h λf h=>by obtain rfl:=Option.some.inj h;exact k f
def aC(H:Top X)(i:Inv X F y T)(t:RR X F N T r u)(w:Ch y.store r=some l)(x:Cn l=some L)(j:GV L=true)(k:KR X F T Q (.fresh<|(C8 kd L).map .d,y)):WP X A (call (.builtin "sorted") [u]) Q E T:=lst_k (C:=λu=>WP X A (call (.builtin "sorted") [u]) Q E T) i.mid t w λa M ⟨m,o⟩ r z=>MH H i (λ{B G} p=>collect_list ⟨_,o,rfl,m,rfl⟩ (by have h:AL X F T y<|T.hp ((T.s.heap.push<|seqObj "list" #[] 0).update T.s.heap.objs.size<|Obj.mapSeq (·++M.toArray)) T.s.toks:=.grow i λb o q=>(Heap.get?_update_ne _ _ _ _<|Nat.ne_of_lt<|Heap.lt_size q).trans<|Dw _ _ b o q;exact Gc (P:=λl=>AC (AE X.I T) l M->B M _) x (λr=>p M _ L h ((AC.map (f:=V.d) (P:=AE X.I T)).mp r |>.monoD h.mono) j rfl) r)<|r.lim z) k
def Oj{d:Program}{w:World}{k:Int}{v:Value}(h:(intKind d w).is k v=true):∃t,v=.int k t:=by cases v<;>simp [intKind,Value.isInt] at h;exact⟨_,by rw[h]⟩
theorem Bf.length{I:Iota}:∀{g:List (Int×Value)},Bf I T b J g->g.length=J.length:=by induction J with|nil=>intro g h;subst h;rfl|cons p J d=>intro g h;obtain⟨v,f,rfl,_,r⟩:=h;exact A3 (·+1)<|d r
theorem Bf.lim{I:Iota}(r:Bf I T b J g)(z:J.length<=Mine.lim):g.length<=sizeLine:=r.length▸AB z JF
def Bf.get{I:Iota}:∀{g:List (Int×Value)}{j:Nat}{k:Int}{x:Value},Bf I T b J g->g[j]?=some (k,x)->∃p,J[j]?=some p/\I.f b p.1=k/\AE I T p.2 x:=by induction J with|nil=>intro g j k x r e;subst r;exact Ae e|cons p J d=>intro g j k x r e;obtain⟨v,h,rfl,q,r⟩:=r;cases j with|zero=>obtain⟨rfl,rfl⟩:=Prod.mk.inj<|Option.some.inj e;exact⟨p,rfl,rfl,q⟩|succ j=>have q:=d r e;exact q
def aD(H:Top X){d:Bool×List (Int×V)}(hA:AW A n)(i:Inv X F y T)(hr:RR X F N T r u)(x:Ep y.store r=some d)(q:GV (d.2.map λp=>Eo (d.1,p.1))=true)(k:KR X F T Q (.fresh<|(C8 kd<|d.2.map λp=>Eo (d.1,p.1)).map .d,y)):WP X A (call (.builtin "sorted") [u]) Q E T:=Ki (C:=λu=>WP X A (call (.builtin "sorted") [u]) Q E T) i.mid hr x λj a g D=>MH H i (λ{Q' E'} k'=>by obtain⟨ep,f⟩:=D.obj.dictAt;have K:=kdl_dict (knd:=intKind X.prog X.w) (kvs:=g) (ep:=ep)<|D.nosys H i.mid;have G:=K.there _ f;refine collect_via (λhR=>kdl_extend (A:=A.in1) (s:={T.s with heap:=T.s.heap.push (seqObj "list" #[] 0)}) K hA.h (K.keep _ _ f λb _ o e=>E1 _ e) _ (Nat.ne_of_gt G.1) (Nat.ne_of_gt G.2) _ 0 (De _ rfl) hR<|D.rep.lim D.len) λh' tk Z hk x hv=>?_;have m:AL X F T y<|T.hp h' tk:=.grow i hk;refine k' Z _ _ m (AC.ext (by rw[x,D.rep.length,A4]) λj d u I e2=>?_) q rfl;obtain⟨B,z,q1,q2⟩:=hv j u e2;obtain⟨t,rfl⟩:=Oj q2;obtain⟨p,q3,rfl,_⟩:=D.rep.get q1;rw[CP,q3] at I;obtain rfl:=Option.some.inj I;exact AZ.num (_,p.1) t) k
end
section
variable{X:Cx}{F:Fx}{o:Ops}{n:Nat}{g I:St}{A:Around}{T G K:Sm}{Q:Value->Shared->Prop}{E:Value->Shared->Prop}{e:Expr}{r x:R}{u:Value}{v:V}{L:List Cell}{a:Addr}{l:List V}{B:List Value}{b:Bool}{M:List (Int×V)}{J:List (Int×Value)}{c:Bool}{w:List D}{f:Str}{p H:Pos}
def aE(i:Inv X F g T)(N:RR X F G T r u)(O:GT g.store r=some l)(k:KR X F T Q (.val<|.d<|.int l.length,g)):WP X A (call (.builtin "len") [u]) Q E T:=
 Kh (C:=λu=>WP X A (call (.builtin "len") [u]) Q E T) i.mid N O λS a B q ⟨m,o⟩ r z=>by
  have h:((B.toArray.size:Nat):Int)<2^63:=Int.lt_of_le_of_lt (Int.ofNat_le.mpr<|show B.length<=lim from r.length▸z) MA;have y:∀t j,Q (.int (B.toArray.size:Nat) t) {T.s with toks:=j}:=λt j=>by rw[List.size_toArray,r.length];exact k _ _ (.tok i j) ⟨t,rfl⟩
  cases q with|inl e=>subst e;exact call_len_list (items:=B.toArray) ⟨_,o,rfl,m,rfl⟩ h (y _ _)|inr e=>subst e;exact PyProof.Rows.len_tuple (items:=B.toArray) ⟨_,o,rfl,m,rfl⟩ h<|y _ _
def aF(i:Inv X F g T)(h:RR X F G T r u)(q:GT g.store r=some l)(k:KR X F T Q (.fresh l,g)):WP X A (call (.type "list") [u]) Q E T:=Kh (C:=λu=>WP X A (call (.type "list") [u]) Q E T) i.mid h q λy a B d ⟨m,o⟩ r z=>call_list_seq a d o rfl rfl (λN O t j=>have x:=OU i r z (tk:=T.s.toks) (Eu T.s.heap) j t;k _ _ x.1 x.2)<|r.lim z
def aG(i:Inv X F g T)(h:RR X F G T r u)(j:Ch g.store r=some l)(k:KR X F T Q (.val<|EJ l,g)):WP X A (call (.type "tuple") [u]) Q E T:=lst_k (C:=λu=>WP X A (call (.type "tuple") [u]) Q E T) i.mid h j λa B ⟨m,o⟩ r z=>call_tuple_list (items:=B.toArray) ⟨_,o,rfl,m,rfl⟩ (λt q=>by have d:AL X F T g<|T.hp t T.s.toks:=.grow i q;exact push_tup' d.inv (r.mono d.mono) z<|k.then d)<|r.lim z
def aH{j:List Int}{C:List D->Prop}(h:GA w=some j)(k:C<|j.map .int):C w:=by
 have:w=j.map .int:=by induction w generalizing j C with|nil=>obtain rfl:=Option.some.inj h;rfl|cons d w m=>refine bK h λq t h=>bK h λi y h=>mK (C:=λj=>d::w=j.map .int) h λs hs=>?_;rw[m (C:=λ_=>True) hs trivial];exact Kn (C:=λd=>d::s.map .int=.int i::s.map .int) t<|Gd (P:=λq=>Eo q::s.map .int=.int i::s.map .int) y rfl
 rw[this];exact k
def Ol{q:List Int}{id:String}(i:Inv X F g T)(y:RR X F G T r u)(O:Ch g.store r=some l)(S:Cn l=some w)(N:GA w=some q)(h:∀j (k:Array<|Int×Tok),T.s.heap.IsList j (intItems k)->q=k.toList.map (·.1)->WP X A (call (.builtin id) [.ref j]) Q E T):WP X A (call (.builtin id) [u]) Q E T:=lst_k (C:=λu=>WP X A (call (.builtin id) [u]) Q E T) i.mid y O λj B ⟨m,o⟩ r z=>Gc (P:=λl=>AC (AE X.I T) l B->WP X A (call (.builtin id) [.ref j]) Q E T) S (aH (C:=λw=>AC (AE X.I T) (w.map .d) B->WP X A (call (.builtin id) [.ref j]) Q E T) N λr=>by have t:=Sc<|(AC.map (f:=V.d) (P:=AE X.I T)).mp r;obtain⟨k,e⟩:=t.allInts.items;exact h j k (e▸(⟨_,o,rfl,m,rfl⟩:T.s.heap.IsList j B.toArray))<|by rw[<-t.numsOf,<-nums_intItems,<-e]) r
def aI{d:Int->Int->Bool}{l:List Int}{j:Int}(h:GW d l=some j):j∈l/\∀a∈l,d a j=true:=by unfold GW at h;exact⟨List.mem_of_find?_eq_some h,λa i=>List.all_eq_true.mp (List.find?_some (p:=λm=>l.all λa=>d a m) h) a i⟩
def Sh{q:Int->Int->Bool}{d:Array (Int×Tok)}{j:Int}{b:Nat}(N:∀x y,q x y=true->q y x=true->x=y)(z:GW q (d.toList.map (·.1))=some j)(h:0<d.size->b<=d.size-1/\∀i,i<=d.size-1->q (numAt d i) (numAt d b)=true):0<d.size/\numAt d b=j:=by
 obtain⟨t,m⟩:=aI z;have s:(d.toList.map (·.1)).length=d.size:=by rw[A4,CE]
 have k:0<d.size:=s▸List.length_pos_of_mem t;obtain⟨S,O⟩:=h k;obtain⟨i,C,e⟩:=mem_getD t;refine⟨k,N _ _ ?_ ?_⟩;refine m _ ?_;rw[numAt_eq];exact getD_mem (by rw[s];exact AO S<|Nat.sub_lt k Nat.one_pos);have:=O i<|Nat.le_sub_one_of_lt<|s▸C;rw[numAt_eq d i,e] at this;exact this
def aJ{z:List Int}{j:Int}(hA:AW A n)(i:Inv X F g T)(N:RR X F G T r u)(Y:Ch g.store r=some l)(hd:Cn l=some w)(O:GA w=some z)(hj:GW RU z=some j)(k:KR X F T Q (.val<|.d<|.int j,g)):WP X A (call (.builtin "max") [u]) Q E T:=Ol i N Y hd O λla q hL s=>by obtain⟨m,S⟩:=Sh (λx y a b=>Int.le_antisymm (Bn a)<|Bn b) (s▸hj) λ_=>⟨(argBest_gt (numAt q)<|q.size-1).1,λi hi=>Ac<|(argBest_gt (numAt q)<|q.size-1).2 i hi⟩;refine max_intList hA.h hL m λv h' tk C Z=>?_;obtain⟨t,rfl⟩:=intItems_at C;exact k _ _ (.grow i Z) ⟨t,by rw[<-S]⟩
def aK{z:List Int}{j:Int}(hA:AW A n)(i:Inv X F g T)(N:RR X F G T r u)(Y:Ch g.store r=some l)(hd:Cn l=some w)(O:GA w=some z)(hj:GW RV z=some j)(k:KR X F T Q (.val<|.d<|.int j,g)):WP X A (call (.builtin "min") [u]) Q E T:=Ol i N Y hd O λla q hL s=>by obtain⟨m,S⟩:=Sh (λx y a b=>Int.le_antisymm (Bn b)<|Bn a) (s▸hj) λ_=>⟨(argBest_lt (numAt q)<|q.size-1).1,λi hi=>Ac<|(argBest_lt (numAt q)<|q.size-1).2 i hi⟩;refine min_intList hA.h hL m λv h' tk C Z=>?_;obtain⟨t,rfl⟩:=intItems_at C;exact k _ _ (.grow i Z) ⟨t,by rw[<-S]⟩
def aL{m:List Int}(O:AW A n)(i:Inv X F g T)(s:RR X F G T r u)(y:Ch g.store r=some l)(C:Cn l=some w)(t:GA w=some m)(k:KR X F T Q (.val<|.d<|.int m.sum,g)):WP X A (call (.builtin "sum") [u]) Q E T:=Ol i s y C t λZ S N j=>sum_intListG O.h N λh' Y q z=>k _ _ (.grow i z) ⟨q,by rw[preSum_eq,j,List.take_of_length_le<|by rw[A4,CE];exact Au _]⟩
def IN(HT:Top X){v:Value}(y:DJ X.G F.fn f=true)(t:HV.lookup f=some v)(d:(∃id,v=.builtin id)\/∃id,v=.type id)(j:backTo H (starEach [e] F.env)=[(false,eval e F.env)])(i:Inv X F g T) (h:WP X A (eval e F.env) (λu s=>wpAny (model X.prog X.w) A (call v [u]) Q E s) E T):WP X A (eval (.Call (.Name f p) [e] [] H) F.env) Q E T:=by refine wpAny_Call_Name_kw<|MD HT y t i ?_;rw[j];have k:wpAny (model X.prog X.w) A (spliced [(false,eval e F.env)]) (λm s=>wpAny (model X.prog X.w) A (call v m) Q E s) E T.s:=spliced_cons<|wpAny_mono h (λu s q=>spliced_nil q) λ_ _ q=>q;cases d with|inl q=>obtain⟨id,rfl⟩:=q;exact callWith_builtin rfl (evalArgs_plain k)|inr q=>obtain⟨id,rfl⟩:=q;exact PySem.callWith_type rfl<|evalArgs_plain k
structure BltAt(X:Cx)(F:Fx)(A:Around)(Q E:Value->Shared->Prop)(T:Sm)(f:Str)(u:Value)(v:Value):Prop where
 val:HV.lookup f=some v
 form:(∃id,v=.builtin id)\/∃id,v=.type id
 wp:WP X A (call v [u]) Q E T
def aM(HT:Top X)(z:AW A n)(i:Inv X F g T)(t:RR X F G T r u)(h:E9 g.store f r=some x)(k:KR X F T Q (x,g)){P:Prop}(c:∀v,BltAt X F A Q E T f u v->P):P:=
 eK h (λq h=>mQ (C:=λx=>KR X F T Q (x,g)) h k λl m k=>c _ ⟨q▸rfl,.inl ⟨_,rfl⟩,aE i t m k⟩) λh=>
 eK h (λq h=>mQ (C:=λx=>KR X F T Q (x,g)) h k λl m k=>c _ ⟨q▸rfl,.inr ⟨_,rfl⟩,aF i t m k⟩) λh=>
 eK h (λq h=>mQ (C:=λx=>KR X F T Q (x,g)) h k λl m k=>c _ ⟨q▸rfl,.inr ⟨_,rfl⟩,aG i t m k⟩) λh=>
 eK h (λq h=>oK h (λd s h=>mQ (C:=λx=>KR X F T Q (x,g)) h k λl m k=>MJ (C:=λl=>KR X F T Q (.fresh<|l.map .d,g)->P) m (λN k=>c _ ⟨q▸rfl,.inl ⟨_,rfl⟩,aD HT z i t s N k⟩) k) λ_ h=>bK h λl m h=>bK h λw s h=>mQ (C:=λx=>KR X F T Q (x,g)) h k λZ O k=>MJ (C:=λl=>KR X F T Q (.fresh<|l.map .d,g)->P) O (λN k=>c _ ⟨q▸rfl,.inl ⟨_,rfl⟩,aC HT i t m s N k⟩) k) λh=>
 eK h (λq h=>bK h λl m h=>bK h λw s h=>bK h λY y h=>mQ (C:=λx=>KR X F T Q (x,g)) h k λj S k=>c _ ⟨q▸rfl,.inl ⟨_,rfl⟩,aJ z i t m s y S k⟩) λh=>
 eK h (λq h=>bK h λl m h=>bK h λw s h=>bK h λY y h=>mQ (C:=λx=>KR X F T Q (x,g)) h k λj S k=>c _ ⟨q▸rfl,.inl ⟨_,rfl⟩,aK z i t m s y S k⟩) λh=>
 eK h (λq h=>bK h λl m h=>bK h λw s h=>mQ (C:=λx=>KR X F T Q (x,g)) h k λY y k=>c _ ⟨q▸rfl,.inl ⟨_,rfl⟩,aL z i t m s y k⟩) λh=>nK h
end
section
variable{X:Cx}{F:Fx}{o:Ops}{n:Nat}{d B:St}{A:Around}{T J I:Sm}{Q:Unit->Shared->Prop}{E:Value->Shared->Prop}{e:Expr}{r x:R}{u:Value}{v:V}{H:List Cell}{a:Addr}{l:List V}{G:List Value}
def Si{y:Str}{P:Prop}(h:DD F.fn y=true)(c:F.fn.names.lookup y=some .local->P)(f:F.fn.names.lookup y=some .cell->P):P:=(Bool.or_eq_true_iff.mp h).elim (λh=>c<|beq_iff_eq.mp h) λh=>f<|beq_iff_eq.mp h
def IO{y:Str}(f:DD F.fn y=true)(i:Inv X F d T)(q:AE X.I T v u)(k:KU X F T Q<|d.set y v):WP X A (storeName F.env y u) Q E T:=by obtain⟨m,C,t,w,_⟩:=i.frm.has;refine Si f (λf=>?_) λf=>?_;exact wpAny_storeName_local (i.frm.loc y f) t (λz j g=>k _<|.setLocal i f t j g q) (by rw[i.frm.kind];rfl);obtain⟨c,h⟩:=i.frm.cells y<|.inl<|i.frm.cel y f;exact wpAny_storeName_cell i.frm.kind (i.frm.cel y f) h (w y c h) λz p g=>k _<|.setCell (tk:=T.s.toks) i f h p g q
structure PrAt(X:Cx)(T:Sm)(v:V)(u:Value)(Ta:Addr)(x y:Value)(a b:V):Prop where
 u:u=.ref Ta
 obj:T.s.heap.IsTuple Ta #[x,y]
 v:v=.tup [a,b]
 a:AE X.I T a x
 b:AE X.I T b y
def MK(X:Cx)(c:Bool)(T:Sm)(v:V)(u:Value):Prop:=cond c (∃f x y a b,PrAt X T v u f x y a b)<|AE X.I T v u
def Sj{y z:Str}{C w pt:Pos}{K:Nat}{t:Addr}{p m:Value}{a b:V}(Z:AW A n)(M:DD F.fn y=true)(L:DD F.fn z=true)(i:Inv X F d T)(Y:T.s.heap.IsTuple t #[p,m])(S:AE X.I T a p)(O:AE X.I T b m)(k:KU X F T Q<|(d.set y a).set z b):WP X A (assign (.Tuple [.Name y C,.Name z w] K pt) F.env<|.ref t) Q E T:=wpAny_assign_Tuple Z.h Y rfl rfl λh' N=>by have c:AL X F T d<|T.hp h' T.s.toks:=.grow i λb o e=>N b o (Nat.ne_of_lt<|Heap.lt_size e) e;exact PyProof.Rows.assignInOrder_cons<|wpAny_assign_Name<|IO M c.inv (S.mono c.mono) λq f=>PyProof.Rows.assignInOrder_cons<|wpAny_assign_Name<|IO L f.inv (O.mono<|c.mono.trans f.mono) λj g=>PyProof.Rows.assignInOrder_nil<|k j<|(c.s.trans f).trans g
noncomputable def Tg.Is(e:Expr):Tg->Prop|.one x=>∃p,e=.Name x p|.two x y=>∃p q k r,e=.Tuple [.Name x p,.Name y q] k r
def ML{t:Tg}(h:Dg e=some t):t.Is e:=oK h (λx i h=>JD (C:=λe=>t.Is e) i λp=>by obtain rfl:=Option.some.inj h;exact⟨p,rfl⟩) λ_ h=>bK h λg hs h=>OR (C:=λe=>t.Is e) hs λc q=>mK (C:=λt=>Tg.Is (.Tuple g c q) t) h λp f=>bK f λz k f=>bK f λx i f=>mK (C:=λp:Str×Str=>Tg.Is (.Tuple g c q)<|Tg.two p.1 p.2) f λy m=>HW (C:=λg=>(Tg.two x y).Is<|.Tuple g c q) k<|by obtain⟨a,b⟩:=z;exact JD (C:=λa=>(Tg.two x y).Is<|.Tuple [a,b] c q) i λp=>JD (C:=λb=>(Tg.two x y).Is<|.Tuple [.Name x p,b] c q) m λj=>⟨p,j,c,q,rfl⟩
def Sk{t:Tg}{h:Bool}(Z:AW A n)(ht:Dg e=some t)(g:Ci F.fn h t=true)(K:GB t v d=some B)(i:Inv X F d T)(M:MK X h T v u)(k:KU X F T Q B):WP X A (assign e F.env u) Q E T:=by
 have Y:=ML ht;cases t with
 |one y=>obtain⟨p,rfl⟩:=Y;refine Aq g λN L=>?_;cases h with|true=>exact Bw N|false=>exact wpAny_assign_Name<|IO L i M<|sQ K k
 |two y z=>obtain⟨p,q,c,s,rfl⟩:=Y;refine Aq g λN h3=>Aq N λ_ L=>bK K λl j K=>mQ K k λw S k=>?_;cases h with|true=>obtain⟨O,ux,uy,a,b,P⟩:=M;have j:I5 (.tup [a,b])=some l:=P.v▸j;obtain rfl:=Option.some.inj j;obtain rfl:=Option.some.inj S;rw[P.u];exact Sj Z L h3 i P.obj P.a P.b k|false=>exact OW (C:=λu=>WP X A (assign (.Tuple [.Name y p,.Name z q] c s) F.env u) Q E T) M j λO G f ⟨m,o⟩ r _=>HW (C:=λl=>AC (AE X.I T) l G->_) S (λr=>r.k2 (C:=λG=>T.s.heap.get? O=some (seqObj "tuple" G.toArray m)->WP X A (assign (.Tuple [.Name y p,.Name z q] c s) F.env<|.ref O) Q E T) (λux uy ha hb o=>Sj Z L h3 i ⟨_,o,rfl,m,rfl⟩ ha hb k) o) r
noncomputable def Mm.fz(M:Mm)(l:Nat)(a:Addr):Mm:={F:=λb=>M.F b\/b=a,ad:=M.ad,gp:=M.gp.set l []}
def MM{i:List (List Addr)}{l:Nat}{b:Addr}(h:b∈(i.set l []).flatten):b∈i.flatten:=by obtain⟨g,c,f⟩:=List.mem_flatten.mp h;exact(List.mem_or_eq_of_mem_set c).elim (λc=>List.mem_flatten.mpr ⟨g,c,f⟩) λe=>by subst e;exact absurd f Ax
def aN{c:List (List Addr)}:∀{l:Nat}{a:Addr},c.flatten.Nodup->c[l]?=some [a]->a∉(c.set l []).flatten:=by induction c with|nil=>exact λ_ h=>by exact Ae h|cons g c i=>intro l a j h;obtain⟨_,k,f⟩:=List.nodup_append.mp<|List.flatten_cons▸j;cases l with|zero=>obtain rfl:=Option.some.inj h;exact λq=>f a (Dq a) a q rfl|succ l=>exact λq=>(BE.mp<|List.flatten_cons▸q).elim (λq=>f a q a (List.mem_flatten.mpr ⟨[a],List.mem_of_getElem? h,Dq a⟩) rfl)<|i k h
def aO{c:List (List Addr)}:∀{l:Nat},c.flatten.Nodup->(c.set l []).flatten.Nodup:=by induction c with|nil=>exact λh=>h|cons g c i=>intro l m;obtain⟨q,f,p⟩:=List.nodup_append.mp<|List.flatten_cons▸m;cases l with|zero=>exact f|succ l=>exact List.flatten_cons▸List.nodup_append.mpr ⟨q,i f,λx k y j=>p x k y<|MM j⟩
theorem Mono.fz(l:Nat)(a:Addr):Mono T<|T.mm<|T.M.fz l a:=⟨λ_ f=>.inl f,λ_ _ _ e=>e,CG _⟩
theorem Mid.fz(x:Mid X H T){j:Nat}{c:Cell}(g:T.M.gp[j]?=some [a])(i:T.M.ad[j]?=some a)(h:EM X (T.mm<|T.M.fz j a) a [] c):Mid X (H.set j c) (T.mm<|T.M.fz j a) where
 top:=x.top
 base b q:=.inl<|x.base b q
 fal b f:=f.elim (x.fal b) λe=>by rw[e];exact x.wal<|Mm.W_of g<|Dq a
 fw b f q:=f.elim (λf=>x.fw b f<|MM q) λe=>aN x.nod g<|e▸q
 la:=x.la.trans List.length_set.symm
 lg:=(List.length_set.trans x.lg).trans List.length_set.symm
 nod:=aO x.nod
 cell k c' e:=(getElem?_set_some e).elim (λw=>⟨a,[],w.1▸i,by rw[<-w.1];exact List.getElem?_set_self (List.getElem?_eq_some_iff.mp g).1,w.2▸h⟩) λw=>(x.cell k c' w.2).imp λp q=>q.imp λm q=>
  ⟨q.1,(List.getElem?_set_ne w.1).trans q.2.1,q.2.2.mono (.fz j a) λb o _ e=>e⟩
theorem Inv.fz(x:Inv X F d T){j:Nat}{c:Cell}(g:T.M.gp[j]?=some [a])(i:T.M.ad[j]?=some a)(h:EM X (T.mm<|T.M.fz j a) a [] c):AL X F T (d.put j c) (T.mm<|T.M.fz j a) where
 ext:=⟨⟨_,_,rfl⟩,λ_ _ e _=>e,λ_ e=>e,λ_ f=>.inl f,λb f=>f.elim .inl λe=>.inr<|.inl<|e▸Mm.W_of g (Dq a),λb f=>.inl<|MM f,CG _⟩
 mono:=.fz j a
 inv:=⟨x.mid.fz g i h,λb f=>⟨λq=>q.elim (x.ffa b f).1 λe=>(x.ffa b f).2<|e▸Mm.W_of g (Dq a),λq=>(x.ffa b f).2<|MM q⟩,x.frm.mono (.fz j a) λb o _ e=>e⟩
end
structure SrcAt(X:Cx)(F:Fx)(A:Around)(t:Expr)(it:It)(T₀ T:Sm)(I:Addr)(N:Nat)(fp wr:List Addr)(P Md:Nat->Value->Heap->Prop)(St:Nat->Heap->Prop):Prop where
 len:it.items.length=N
 turns:KTurns X.prog X.w A t I fp wr N P Md St
 st0:St 0 T.s.heap
 al:∀i h,St i h->∀b∈fp,Al h b
 fp:∀b∈fp,¬Wa F T b/\(T.M.F b\/¬Al T₀.s.heap b)
 wr:∀b∈wr,¬T.M.F b/\¬Al T₀.s.heap b
 item:∀(i:Nat)(v:Value)(T':Sm)(x:V),it.items[i]?=some x->Mono T T'->P i v T'.s.heap->MK X it.pr T' x v
 self:∀(i:Nat)(s':Shared)(Q:Value->Shared->Prop)(E:Value->Shared->Prop),St i s'.heap->Q (.ref I) s'->wpAny (model X.prog X.w) A (pyIter (.ref I)) Q E s'
inductive Src(X:Cx)(F:Fx)(A:Around)(t:Expr)(it:It)(T₀ T:Sm)(I:Addr):Prop where
 |mk (N:Nat) (fp wr:List Addr) (P Md:Nat->Value->Heap->Prop) (St:Nat->Heap->Prop) (x:SrcAt X F A t it T₀ T I N fp wr P Md St)
def KI(X:Cx)(F:Fx)(A:Around)(t:Expr)(T:Sm)(Q:Value->Shared->Prop)(p:It×St):Prop:=∀I T',AL X F T p.2 T'->Src X F A t p.1 T T' I->Q (.ref I) T'.s
section
variable{X:Cx}{F:Fx}{o:Ops}{n:Nat}{J O:St}{A:Around}{T L K M:Sm}{Q:Value->Shared->Prop}{E:Value->Shared->Prop}{e:Expr}{r x:R}{u:Value}{v:V}{S:List Cell}{a b I G:Addr}{l:List V}{B:List Value}{t:Tg}{s:Shared}
def SrcAt.older{f:It}{N:Nat}{d c:List Addr}{P g:Nat->Value->Heap->Prop}{St:Nat->Heap->Prop}(x:SrcAt X F A e f K M I N d c P g St)(h:∀a,Al T.s.heap a->Al K.s.heap a):SrcAt X F A e f T M I N d c P g St:={x with fp:=λb q=>⟨(x.fp b q).1,(x.fp b q).2.imp_right λq k=>q<|h b k⟩,wr:=λb q=>⟨(x.wr b q).1,λk=>(x.wr b q).2<|h b k⟩}
def KI.then{p:It×St}(k:KI X F A e T Q p)(a:AL X F T J K):KI X F A e K Q p:=λI M b q=>k I M (a.trans b)<|by cases q with|mk N d c P f St x=>exact⟨N,d,c,P,f,St,x.older a.ext.al⟩
def Sn{f:String}{d:Obj}{C:Array Value}{Q:Unit->Shared->Prop}{w:Value}(g:t.Is e)(h:s.heap.get? I=some d)(j:d.cls=.type f)(i:d.data=.fields C) (m:["enumerate","zip","dict_itemiterator","dict_reverseitemiterator","odict_iterator","itertools.zip_longest","itertools.pairwise"].contains f=false) (k:Q () s):wpAny (model X.prog X.w) A (letOwnedTupleGo e (.ref I) w) Q E s:=by cases t with|one y=>obtain⟨p,rfl⟩:=g;exact AR k|two y z=>obtain⟨p,q,c,r,rfl⟩:=g;unfold letOwnedTupleGo;cases w with|ref w=>refine A7<|wpAny_load h ?_;rw[j,i];dsimp only;rw[m];exact AR k|_=>exact AR k
def Gf(i:Inv X F J T){h:Heap}{c:Nat}(d:¬Al T.s.heap b):¬Wa F (T.hp h c) b/\((T.hp h c).M.F b\/¬Al T.s.heap b):=⟨λq=>d<|q.elim i.wal i.faal,.inr d⟩
def HX(i:Inv X F J T){h:Heap}{d:Nat}(c:¬Al T.s.heap b):¬(T.hp h d).M.F b/\¬Al T.s.heap b:=⟨λf=>c<|i.mid.fal _ f,c⟩
def AC.at_{I:Iota}{j:Nat}{w:Value}{y:V}(r:AC (AE I T) l B)(e:B.toArray[j]?=some w)(c:l[j]?=some y):AE I T y w:=by obtain⟨u,d,q⟩:=r.get c;cases (List.getElem?_toArray.trans d).symm.trans e;exact q
def Sp{H:String}{c:Obj}{St:Nat->Heap->Prop}(ht:t.Is e)(i:Inv X F J T)(r:AC (AE X.I T) l B)(Z:T.M.F G) (hT:["enumerate","zip","dict_itemiterator","dict_reverseitemiterator","odict_iterator","itertools.zip_longest","itertools.pairwise"].contains H=false) (W:Walks X.prog X.w A T.s.heap.objs.size [T.s.heap.objs.size,G] [T.s.heap.objs.size] B.toArray.size (λj v=>B.toArray[j]?=some v) St) (C:St 0<|T.s.heap.push c) (z:∀j h,St j h->(∃c fs,h.get? T.s.heap.objs.size=some c/\c.cls=.type H/\c.data=.fields fs)/\Al h G) (k:KI X F A e T Q (⟨l,false⟩,J)):Q (.ref T.s.heap.objs.size) {T.s with heap:=T.s.heap.push c}:=by have g:AL X F T J<|T.hp (T.s.heap.push c) T.s.toks:=.grow i<|Dw _ _;have Y:=Eu T.s.heap;exact k _ _ g ⟨_,[T.s.heap.objs.size,G],[T.s.heap.objs.size],_,_,St,{len:=r.length.symm,turns:=KTurns.ofWalks (target:=e) W λj v f p y h N=>(z j _ h).1.elim λc q=>q.elim λfs q=>Sn ht q.1 q.2.1 q.2.2 hT N,st0:=C,al:=λj h q b d=>(An.mp d).elim (λe=>e▸(z j h q).1.imp λc q=>q.elim λ_ q=>q.1) λd=>Ao.mp d▸(z j h q).2,fp:=λb d=>(An.mp d).elim (λe=>e▸Gf i Y) λd=>Ao.mp d▸⟨i.fr Z,.inl Z⟩,wr:=λb d=>Ao.mp d▸HX i Y,item:=λj v K x hx m hp=>(r.at_ hp hx).mono<|g.mono.trans m,self:=λj f p y h N=>W.self j f p y h N}⟩
def aP(g:AW A n)(d:t.Is e)(i:Inv X F J T)(o:T.seq "list" G B)(r:AC (AE X.I T) l B)(f:T.M.F G)(k:KI X F A e T Q (⟨l,false⟩,J)):WP X A (pyIter<|.ref G) Q E T:=by obtain⟨m,o⟩:=o;have c:T.s.heap.IsList G B.toArray:=⟨_,o,rfl,m,rfl⟩;exact wpAny_pyIter_list c<|Sp d i r f (by decide) (Walks.list g.h _ G (Nat.ne_of_lt<|Heap.lt_size o) B.toArray) ⟨⟨_,De _ rfl,rfl,rfl⟩,c.at λo e=>Dw _ _ _ o e⟩ (λj h q=>⟨q.1.imp λ_ q=>⟨_,q⟩,q.2.imp λ_ q=>q.1⟩) k
def aQ(g:AW A n)(d:t.Is e)(i:Inv X F J T)(o:T.seq "tuple" G B)(r:AC (AE X.I T) l B)(f:T.M.F G)(k:KI X F A e T Q (⟨l,false⟩,J)):WP X A (pyIter<|.ref G) Q E T:=by obtain⟨m,o⟩:=o;have c:T.s.heap.IsTuple G B.toArray:=⟨_,o,rfl,m,rfl⟩;exact wpAny_pyIter_tuple c<|Sp d i r f (by decide) (Walks.tuple g.h _ G (Nat.ne_of_lt<|Heap.lt_size o) B.toArray) ⟨⟨_,De _ rfl,rfl,rfl⟩,c.at λo e=>Dw _ _ _ o e⟩ (λj h q=>⟨q.1.imp λ_ q=>⟨_,q⟩,q.2.imp λ_ q=>q.1⟩) k
def MN{a:Int}(h:a.natAbs<=4294967296):-(2^62)<=a/\a<2^62:=⟨Int.le_trans (by decide:-(2^62)<=-(4294967296:Int))<|Int.le_trans (Int.neg_le_neg<|Int.ofNat_le.mpr h)<|Int.neg_le_of_neg_le<|Int.natAbs_neg a▸Int.le_natAbs,Int.lt_of_le_of_lt (Int.le_trans Int.le_natAbs<|Int.ofNat_le.mpr h)<|by decide⟩
def Sq{a b:Int}{H C z:Tok}(hA:AW A n)(ht:t.Is e)(i:Inv X F J T)(hr:IsRange T.s.heap G a b 1 H C z)(a2:KO a b=true)(k:KI X F A e T Q (OC<|HO a b,J)):WP X A (pyIter<|.ref G) Q E T:=
 Aq a2 λZ c=>by
  have Z:a.natAbs<=4294967296:=Bn Z;have c:b.natAbs<=4294967296:=Bn c;have a1:Builtin.Range.small a b 1=true:=small_one (MN Z).1 (MN Z).2 (MN c).1 (MN c).2;refine wpAny_pyIter_range hr a1 ?_;have g:(It.items<|OC<|HO a b).length=(b-a).toNat:=by show(((List.range _).map _).map _).length=_;rw[A4,A4,List.length_range]
  have W:=Walks.range (prog:=X.prog) (w:=X.w) (A:=A) hA.h T.s.heap.objs.size a 1 (b-a).toNat;have hI:=Eu T.s.heap;rw[rangeSize_nat];have Y:AL X F T J<|T.hp (T.s.heap.push {cls:=.type "range_iterator",data:=.fields #[rawInt a,rawInt (((b-a).toNat:Nat):Int),rawInt 1]}) T.s.toks:=.grow i<|Dw _ _;refine k _ _ Y ⟨_,[T.s.heap.objs.size],[T.s.heap.objs.size],_,_,_,{len:=g,turns:=KTurns.ofWalks (target:=e) W λj v f p y h hq=>Sn ht h rfl rfl (by decide) hq,st0:=?_,al:=λj h q b c=>Ao.mp c▸⟨_,q⟩,fp:=λb c=>Ao.mp c▸Gf i hI,wr:=λb c=>Ao.mp c▸HX i hI,item:=λj v K x N m hp=>?_,self:=λj f p y h hq=>W.self j f p y h hq}⟩;have q:(T.s.heap.push _).get? T.s.heap.objs.size=some {cls:=.type "range_iterator",data:=.fields #[rawInt a,rawInt (((b-a).toNat:Nat):Int),rawInt 1]}:=De _ rfl;show IsRangeIter (T.s.heap.push _) T.s.heap.objs.size (a+((0:Nat):Int)*1) ((((b-a).toNat:Nat):Int)-((0:Nat):Int)) 1;rw[show a+((0:Nat):Int)*1=a from Int.add_zero a,show(((b-a).toNat:Nat):Int)-((0:Nat):Int)=(((b-a).toNat:Nat):Int) from Int.sub_zero _];exact q;obtain⟨tk,rfl⟩:=hp;have hj:j<(List.range (b-a).toNat).length:=by have:=(List.getElem?_eq_some_iff.mp N).1;rw[g] at this;rw[List.length_range];exact this
  have N:(((List.range (b-a).toNat).map λ(i:Nat)=>a+(i:Int)).map λi=>V.d<|.int i)[j]?=some x:=N;rw[CP,CP,Cv hj,List.getElem_range] at N;obtain rfl:=Option.some.inj N;exact⟨tk,by rw[Int.mul_one]⟩
def aR(l:List V):∀{m j:Nat}{x:V},(HS m l)[j]?=some x->∃v,l[j]?=some v/\x=.tup [.d<|.int ((m+j:Nat):Int),v]:=by induction l with|nil=>exact λh=>by exact Ae h|cons v l f=>intro m j x h;cases j with|zero=>obtain rfl:=Option.some.inj h;exact⟨v,rfl,rfl⟩|succ j=>obtain⟨c,i,g⟩:=f (m:=m+1) h;exact⟨c,i,by rw[g,DB];rfl⟩
def aS(l:List V):∀m,(HS m l).length=l.length:=by induction l with|nil=>exact λ_=>rfl|cons v l c=>exact λm=>A3 (·+1)<|c _
def Ss{x:Str}{c:Fn}(h:Ci c true (.one x)=true){P:Prop}:P:=by exact Bw h
def aT{a4:Fn}(hA:AW A n)(ht:t.Is e)(a2:Ci a4 true t=true)(i:Inv X F J T)(o:T.seq "list" G B)(r:AC (AE X.I T) l B)(hF:T.M.F G)(k:KI X F A e T Q (⟨HS 0 l,true⟩,J)):WP X A (call (.type "enumerate") [.ref G]) (λv s=>wpAny (model X.prog X.w) A (pyIter v) Q E s) E T:=by cases t with|one x=>exact Ss a2|two x y=>obtain⟨p,q,c,s,rfl⟩:=ht;obtain⟨m,o⟩:=o;have hL:T.s.heap.IsList G B.toArray:=⟨_,o,rfl,m,rfl⟩;refine call_enumerate_list hL λh' he a3 hz hk=>?_;have g:AL X F T J<|T.hp h' T.s.toks:=.grow i hk;have f:∀a,T.s.heap.objs.size<=a->¬Al T.s.heap a:=λa ha q=>absurd q.lt<|Nat.not_lt.mpr ha;have N:@LT.lt Nat _ G T.s.heap.objs.size:=Heap.lt_size o;have W:=(WalksT.enumerate (prog:=X.prog) (w:=X.w) (A:=A) hA.h (T.s.heap.objs.size+1) T.s.heap.objs.size G (Nat.succ_ne_self _) (Nat.ne_of_lt<|Nat.lt_succ_of_lt N) (Nat.ne_of_lt N) B.toArray).toU;have H:(It.items ⟨HS 0 l,true⟩).length=B.toArray.size:=(aS l 0).trans r.length.symm;have z:(∃a1,IsEnum h' (T.s.heap.objs.size+1) T.s.heap.objs.size ((0:Nat):Int) a1)/\h'.IsListIter T.s.heap.objs.size G 0/\h'.IsList G B.toArray:=⟨⟨_,he⟩,a3,hL.at λo e=>hk _ o e⟩;refine W.self 0 _ _ _ z<|k _ _ g ⟨_,[T.s.heap.objs.size+1,T.s.heap.objs.size,G],[T.s.heap.objs.size+1,T.s.heap.objs.size],_,_,_,{len:=H,turns:=KTurns.ofWalksU W,st0:=z,al:=λj h q b d=>(An.mp d).elim (λe=>e▸q.1.elim λ_ q=>⟨_,q⟩) λd=>(An.mp d).elim (λe=>e▸q.2.1.imp λ_ q=>q.1) λd=>Ao.mp d▸q.2.2.imp λ_ q=>q.1,fp:=λb d=>(An.mp d).elim (λe=>e▸Gf i (f _<|Nat.le_succ _)) λd=>(An.mp d).elim (λe=>e▸Gf i (f _<|Au _)) λd=>Ao.mp d▸⟨i.fr hF,.inl hF⟩,wr:=λb d=>(An.mp d).elim (λe=>e▸HX i (f _<|Nat.le_succ _)) λd=>Ao.mp d▸HX i (f _<|Au _),item:=λj v K x hx m hp=>?_,self:=λj C Y Z h hq=>W.self j C Y Z h hq}⟩;obtain⟨Ta,ab,rfl,⟨tk,y,e1,rfl⟩,hT⟩:=hp;obtain⟨v',e2,rfl⟩:=aR l hx;exact⟨Ta,_,y,_,v',rfl,hT,rfl,⟨tk,by rw[Nat.zero_add]⟩,(r.at_ e1 e2).mono<|g.mono.trans m⟩
def aU(l:List V):∀{m:List V}{j:Nat}{x:V},(HU l m)[j]?=some x->∃a b,l[j]?=some a/\m[j]?=some b/\x=.tup [a,b]:=by induction l with|nil=>exact λh=>by exact Ae h|cons a l c=>intro m j x h;cases m with|nil=>exact Ae h|cons b m=>cases j with|zero=>obtain rfl:=Option.some.inj h;exact⟨a,b,rfl,rfl,rfl⟩|succ j=>exact c (m:=m) h
def aV(l:List V):∀m:List V,(HU l m).length=min l.length m.length:=by induction l with|nil=>exact λm=>(Nat.zero_min _).symm|cons a l c=>intro m;cases m with|nil=>rfl|cons b m=>exact(A3 (·+1)<|c m).trans (Nat.succ_min_succ ..).symm
def Su{x a b c d:Addr}(h:x∈[a,b,c,d]):x=a\/x=b\/x=c\/x=d:=(An.mp h).imp_right λh=>(An.mp h).imp_right λh=>(An.mp h).imp_right Ao.mp
def Sv{x a b c d e f g:Addr}(h:x∈[a,b,c,d,e,f,g]):x=a\/x=b\/x=c\/x=d\/x=e\/x=f\/x=g:=(An.mp h).imp_right λh=>(An.mp h).imp_right λh=>(An.mp h).imp_right Su
def aW{b2:Fn}{N:Addr}{ws:List Value}{l':List V}(hA:AW A n)(ht:t.Is e)(an:Ci b2 true t=true)(i:Inv X F J T)(o:T.seq "list" G B)(r:AC (AE X.I T) l B)(hF:T.M.F G)(o':T.seq "list" N ws)(r':AC (AE X.I T) l' ws)(a4:T.M.F N)(k:KI X F A e T Q (⟨HU l l',true⟩,J)):WP X A (call (.type "zip") [.ref G,.ref N]) (λv s=>wpAny (model X.prog X.w) A (pyIter v) Q E s) E T:=by cases t with|one x=>exact Ss an|two x y=>obtain⟨p,q,c,s,rfl⟩:=ht;obtain⟨m,o⟩:=o;obtain⟨m',o'⟩:=o';have hL:T.s.heap.IsList G B.toArray:=⟨_,o,rfl,m,rfl⟩;have a3:T.s.heap.IsList N ws.toArray:=⟨_,o',rfl,m',rfl⟩;refine call_zip_2 hL a3 λZ hz am af b1 ar b4 hk=>?_;have g:AL X F T J<|T.hp Z T.s.toks:=.grow i hk;have d:∀j:Nat,¬Al T.s.heap (T.s.heap.objs.size+j):=λj q=>absurd q.lt<|Nat.not_lt.mpr<|BA _ _;have f:∀{a:Addr}(j:Nat),Al T.s.heap a->a≠T.s.heap.objs.size+j:=λj q e=>d j<|e▸q;have C:∀{j k:Nat},j≠k->T.s.heap.objs.size+j≠T.s.heap.objs.size+k:=λh e=>h<|Nat.add_left_cancel e;have Y:Al T.s.heap G:=⟨_,o⟩;have H:Al T.s.heap N:=⟨_,o'⟩;have D:ZipApart (T.s.heap.objs.size+4) (T.s.heap.objs.size+2) (T.s.heap.objs.size+3) T.s.heap.objs.size (T.s.heap.objs.size+1) G N:=⟨C<|by decide,C<|by decide,C (j:=0)<|by decide,C<|by decide,C<|by decide,C (k:=0)<|by decide,C<|by decide,C (k:=0)<|by decide,C<|by decide,C (j:=0)<|by decide,f 4 Y,f 3 Y,f 0 Y,f 1 Y,f 4 H,f 3 H,f 0 H,f 1 H⟩;have W:=(WalksT.zip2 (prog:=X.prog) (w:=X.w) (A:=A) hA.h _ _ _ _ _ _ _ D B.toArray ws.toArray).toU;have a1:IsZip Z (T.s.heap.objs.size+4) (T.s.heap.objs.size+2) (T.s.heap.objs.size+3) .none/\IsPair Z (T.s.heap.objs.size+2) (.ref T.s.heap.objs.size) (.ref<|T.s.heap.objs.size+1)/\(∃a b,IsPair Z (T.s.heap.objs.size+3) a b)/\Z.IsListIter T.s.heap.objs.size G 0/\Z.IsListIter (T.s.heap.objs.size+1) N 0/\Z.IsList G B.toArray/\Z.IsList N ws.toArray:=⟨hz,am,⟨_,_,af⟩,b1,ar,hL.at λo e=>hk _ o e,a3.at λo e=>hk _ o e⟩;refine W.self 0 _ _ _ a1 (k _ _ g ⟨_,[T.s.heap.objs.size+4,T.s.heap.objs.size+2,T.s.heap.objs.size+3,T.s.heap.objs.size,T.s.heap.objs.size+1,G,N],[T.s.heap.objs.size+4,T.s.heap.objs.size+3,T.s.heap.objs.size,T.s.heap.objs.size+1],_,_,_,{len:=(aV l l').trans<|by show _=min B.length ws.length;rw[r.length,r'.length],turns:=KTurns.ofWalksU W,st0:=a1,al:=λj h q b hb=>?_,fp:=λb hb=>?_,wr:=λb hb=>?_,item:=λj v K x hx m hp=>?_,self:=λj a2 ab ad h hq=>W.self j a2 ab ad h hq}⟩);rcases Sv hb with rfl|rfl|rfl|rfl|rfl|rfl|rfl;exact⟨_,q.1⟩;exact⟨_,q.2.1⟩;exact q.2.2.1.elim λ_ q=>q.elim λ_ q=>⟨_,q⟩;exact q.2.2.2.1.imp λ_ q=>q.1;exact q.2.2.2.2.1.imp λ_ q=>q.1;exact q.2.2.2.2.2.1.imp λ_ q=>q.1;exact q.2.2.2.2.2.2.imp λ_ q=>q.1;rcases Sv hb with rfl|rfl|rfl|rfl|rfl|rfl|rfl;exact Gf i<|d 4;exact Gf i<|d 2;exact Gf i<|d 3;exact Gf i<|d 0;exact Gf i<|d 1;exact⟨i.fr hF,.inl hF⟩;exact⟨i.fr a4,.inl a4⟩;rcases Su hb with rfl|rfl|rfl|rfl;exact HX i<|d 4;exact HX i<|d 3;exact HX i<|d 0;exact HX i<|d 1;obtain⟨Ta,b3,rfl,⟨y,z,e1,e3,rfl⟩,hT⟩:=hp;obtain⟨a,b,e2,e4,rfl⟩:=aU l hx;exact⟨Ta,y,z,a,b,rfl,hT,rfl,(r.at_ e1 e2).mono<|g.mono.trans m,(r'.at_ e3 e4).mono<|g.mono.trans m⟩
def Sw{j:Nat}{p:List V×List Cell}{P:Prop}(i:AL X F L J T)(N:T.M.ad[j]?=some a)(h:J5 J.store j J.store[j]?=some p)(k:∀K B,K.s=T.s->AL X F L (J.sto p.2) K->K.M.F a->K.seq "list" a B->AC (AE X.I K) p.1 B->p.1.length<=lim->P):P:=by cases hc:J.store[j]? with|none=>rw[hc] at h;exact nK h|some c=>rw[hc] at h;cases c with|lst l=>refine mQ (C:=λp:List V×List Cell=>∀K B,K.s=T.s->AL X F L (J.sto p.2) K->K.M.F a->K.seq "list" a B->AC (AE X.I K) p.1 B->p.1.length<=lim->P) h k λw Y k=>i.inv.mid.cell_k N hc λg Z q=>?_;obtain⟨e,B,o,r,z⟩:=q;subst e;have H:=Gc (P:=λl=>AC (AE X.I T) l B->AC (AZ X.I T) w B) Y (λr=>(AC.map (f:=V.d) (P:=AE X.I T)).mp r) r;have y:=Gc (P:=λl=>l.length<=lim->w.length<=lim) Y (λz=>A4 (as:=w) V.d▸z) z;have m:=i.inv.fz (c:=.froz w) Z N ⟨rfl,a,B,rfl,.inr rfl,o,y,Gb.mpr<|H.monoD<|.fz j a⟩;exact k (T.mm<|T.M.fz j a) B rfl (i.trans m) (.inr rfl) o (r.mono m.mono) z|froz w=>obtain rfl:=Option.some.inj h;exact i.inv.mid.cell_k N hc λg _ q=>AZ.lst_k (P:=λu=>u=.ref a->P) q.2 (λb B f o z r e=>by obtain rfl:=Value.ref.inj e;exact k T B rfl i f o (AC.map.mpr r)<|A4 (as:=w) V.d▸z) rfl|_=>exact nK h
def MO{p:List V×List Cell}{C:Value->Prop}(c:AL X F L J T)(m:RR X F L T r u)(h:HQ J.store r=some p)(k:∀K G B,K.s=T.s->AL X F L (J.sto p.2) K->K.M.F G->K.seq "list" G B->AC (AE X.I K) p.1 B->C (.ref G)):C u:=oK h (λj w h=>m.loc_k (P:=C) w λa y=>Sw c y h λK B e x f o r _=>k K a B e x f o r) λw h=>mQ (C:=λp:List V×List Cell=>∀K G B,K.s=T.s->AL X F L (J.sto p.2) K->K.M.F G->K.seq "list" G B->AC (AE X.I K) p.1 B->C (.ref G)) h k λl i k=>by cases r with|fresh H=>obtain rfl:=Option.some.inj i;obtain⟨a,B,rfl,q⟩:=m;have g:=c.frz (P:=(·=a)) λb e=>e▸⟨q.obj.elim λ_ e=>⟨_,e⟩,q.nw,q.new⟩;exact k (T.mm<|T.M.frz (·=a)) a B rfl g (.inr rfl) q.obj (q.rep.mono<|.frz _)|val v=>
 cases v with
 |d x=>cases x with|lst N=>obtain rfl:=Option.some.inj i;exact AZ.lst_k (P:=C) m λa B f o z r=>k T a B rfl c f o (AC.map.mpr r)|_=>exact nK i
 |loc j=>exact FO w|tup _=>exact nK i
def aX{p:List V×List Cell}{C:Value->Prop}(c:AL X F L J T)(g:RR X F L T r u)(h:HR J.store r=some p)(k:∀K d G B,K.s=T.s->AL X F L (J.sto p.2) K->d ="list"\/d ="tuple"->K.M.F G->K.seq d G B->AC (AE X.I K) p.1 B->C (.ref G)):C u:=oK h (λl i h=>tup_k (C:=C) g i λa B f o r _=>by obtain rfl:=Option.some.inj h;exact k T _ a B rfl c (.inr rfl) f o r) λ_ h=>MO c g h λK G B e a=>k K _ G B e a<|.inl rfl
def Sx(H:Snd X o n)(HT:Top X){y:Expr}{p:It×St}(q:AW A n)(N:t.Is y)(m:Lu o F.fn e J=some p)(i:Inv X F J T)(k:KI X F A y T Q p):WP X A (eval e F.env) (λx d=>wpAny (model X.prog X.w) A (pyIter x) Q E d) E T:=FP H q i m λz u h g f m=>mQ m k λl hl k=>aX (C:=λu=>wpAny (model X.prog X.w) A (pyIter u) Q E h.s) g f hl λZ ty G B e c j Y o r=>e▸by cases j with|inl e=>subst e;exact aP q N c.inv o r Y (k.then c)|inr e=>subst e;exact aQ q N c.inv o r Y<|k.then c
def aY(H:Snd X o n)(HT:Top X){f:Str}{id:String}{p:R×St}{d c:Pos}(j:DJ X.G F.fn f=true)(g:HV.lookup f=some (.type id))(k:o.ev F.fn e J=some p)(i:Inv X F J T)(h:WP X A (eval e F.env) (λu s=>wpAny (model X.prog X.w) A (call (.type id) [u]) Q E s) E T):WP X A (eval (.Call (.Name f d) [e] [] c) F.env) Q E T:=IN HT j g (.inr ⟨_,rfl⟩) (Fo H k) i h
def Sy(H:Snd X o n)(HT:Top X){f:Str}{id:String}{d:Expr}{p q:R×St}{O:St}{g c:Pos}(k:DJ X.G F.fn f=true)(j:HV.lookup f=some (.type id))(y:o.ev F.fn e J=some p)(m:o.ev F.fn d O=some q)(i:Inv X F J T)(h:WP X A (eval e F.env) (λu s=>wpAny (model X.prog X.w) A (eval d F.env) (λv s=>wpAny (model X.prog X.w) A (call (.type id) [u,v]) Q E s) E s) E T):WP X A (eval (.Call (.Name f g) [e,d] [] c) F.env) Q E T:=by refine wpAny_Call_Name_kw<|MD HT k j i ?_;rw[Fo H y,Fo H m];exact PySem.callWith_type rfl<|evalArgs_plain<|spliced_cons<|wpAny_mono h (λu s q=>spliced_cons<|wpAny_mono q (λv s q=>spliced_nil q) λ_ _ q=>q) λ_ _ q=>q
def Om{J:St}{a:Int×St}(h:G8 o F.fn e J=some a):∃p,o.ev F.fn e J=some p:=bK h λ_ h _=>bK h λp h _=>⟨p,h⟩
def aZ(H:Snd X o n)(HT:Top X){t':Expr}{f:Str}{Z:List Expr}{p:It×St}{p' N:Pos}(hf:f ="range")(hb:DJ X.G F.fn f=true)(hA:AW A n)(ht:t.Is t')(g:Lw o F.fn Z J=some p)(i:Inv X F J T)(k:KI X F A t' T Q p):WP X A (eval (.Call (.Name f p') Z [] N) F.env) (λx d=>wpAny (model X.prog X.w) A (pyIter x) Q E d) E T:=oK g (λa ha g=>HW (C:=λZ=>WP X A (eval (.Call (.Name f p') Z [] N) F.env) (λx d=>wpAny (model X.prog X.w) A (pyIter x) Q E d) E T) ha (by refine bK g λq h1 g=>bK g λr h2 g=>iK g λY g=>?_;obtain⟨_,e1⟩:=Om h1;obtain⟨_,e2⟩:=Om h2;refine Sy H HT (id:="range") hb (hf▸rfl) e1 e2 i<|Kf H hA i (f:=some) (y:=q) (A3 (Option.bind · some) h1) λq' tk c j e=>?_;obtain rfl:=(Option.some.inj e).symm;refine Kf H hA j.inv (f:=some) (y:=r) (A3 (Option.bind · some) h2) λr' a1 m h e=>?_;obtain rfl:=(Option.some.inj e).symm;refine call_range_2 ?_;have z:AL X F m r.2<|m.hp (m.s.heap.push {cls:=.type "range",data:=.fields #[.int q.1 tk,.int r.1 a1,.int 1 m.s.toks]})<|m.s.toks+1:=.grow h.inv<|Dw _ _;exact Sq hA ht z.inv (IsRange.new ..) Y<|(sQ g k).then<|(j.trans h).trans z)) λ_ g=>bK g λa ha g=>FQ (C:=λZ=>WP X A (eval (.Call (.Name f p') Z [] N) F.env) (λx d=>wpAny (model X.prog X.w) A (pyIter x) Q E d) E T) ha (bK g λq h1 g=>iK g λY g=>by obtain⟨_,e1⟩:=Om h1;refine aY H HT (id:="range") hb (hf▸rfl) e1 i<|Kf H hA i (f:=some) (y:=q) (A3 (Option.bind · some) h1) λq' tk c j e=>?_;obtain rfl:=(Option.some.inj e).symm;refine call_range_1 ?_;have h:AL X F c q.2<|c.hp (c.s.heap.push {cls:=.type "range",data:=.fields #[.int 0 c.s.toks,.int q.1 tk,.int 1<|c.s.toks+1]})<|c.s.toks+1+1:=.grow j.inv<|Dw _ _;exact Sq hA ht h.inv (IsRange.new ..) Y<|(sQ g k).then<|j.trans h)
def aa(H:Snd X o n)(HT:Top X){q:Fn}{Y:Expr}{f:Str}{N:List Expr}{p:It×St}{p' m:Pos}(hf:f ="enumerate")(hb:DJ X.G F.fn f=true)(hA:AW A n)(ht:t.Is Y)(Z:Ci q p.1.pr t=true)(g:OE o F.fn N J=some p)(i:Inv X F J T)(k:KI X F A Y T Q p):WP X A (eval (.Call (.Name f p') N [] m) F.env) (λx c=>wpAny (model X.prog X.w) A (pyIter x) Q E c) E T:=bK g λa ha g=>FQ (C:=λN=>WP X A (eval (.Call (.Name f p') N [] m) F.env) (λx c=>wpAny (model X.prog X.w) A (pyIter x) Q E c) E T) ha<|IN HT (v:=.type "enumerate") hb (hf▸rfl) (.inr ⟨_,rfl⟩) (bK g λ_ h _=>Fo H h) i<|FP H hA i g λa1 u z y j g=>mQ (C:=λp=>Ci q p.1.pr t=true/\KI X F A Y T Q p) g ⟨Z,k⟩ λl hl k=>MO (C:=λu=>wpAny (model X.prog X.w) A (call (.type "enumerate") [u]) _ E z.s) y j hl λa2 G B e d hF o r=>e▸aT hA ht k.1 d.inv o r hF (k.2.then d)
def ac(H:Snd X o n)(HT:Top X){y:Fn}{t':Expr}{f:Str}{as:List Expr}{p:It×St}{p' q:Pos}(hf:f ="zip")(hb:DJ X.G F.fn f=true)(hA:AW A n)(ht:t.Is t')(a3:Ci y p.1.pr t=true)(g:OD o F.fn as J=some p)(i:Inv X F J T)(k:KI X F A t' T Q p):WP X A (eval (.Call (.Name f p') as [] q) F.env) (λx d=>wpAny (model X.prog X.w) A (pyIter x) Q E d) E T:=bK g λe ab g=>HW (C:=λas=>WP X A (eval (.Call (.Name f p') as [] q) F.env) (λx d=>wpAny (model X.prog X.w) A (pyIter x) Q E d) E T) ab<|by refine bK g λal h1 g=>bK g λl hl g=>bK g λaf h2 g=>mQ (C:=λp=>Ci y p.1.pr t=true/\KI X F A t' T Q p) g ⟨a3,k⟩ λl' a4 k=>?_;refine Sy H HT (id:="zip") hb (hf▸rfl) h1 h2 i<|H.ev hA h1 i λu a2 Z m=>MO (C:=λu=>wpAny (model X.prog X.w) A (eval e.2 F.env) (λv s=>wpAny (model X.prog X.w) A (call (.type "zip") [u,v]) _ E s) E a2.s) Z m hl λan G B N h hF o r=>?_;rw[<-N];refine H.ev hA h2 h.inv λv a1 Y j=>MO (C:=λv=>wpAny (model X.prog X.w) A (call (.type "zip") [.ref G,v]) _ E a1.s) Y j a4 λam lb ws z c ad o' r'=>?_;rw[<-z];exact aW hA ht k.1 c.inv (c.mono.seq hF o) (r.mono c.mono) (c.mono.F _ hF) o' r' ad<|k.2.then<|h.trans c
def On(H:Snd X o n)(HT:Top X){y:Fn}{z:Expr}{p:It×St}(j:AW A n)(f:t.Is z)(g:Ci y p.1.pr t=true)(c:Fk X.G o F.fn e J=some p)(i:Inv X F J T)(k:KI X F A z T Q p):WP X A (eval e F.env) (λx d=>wpAny (model X.prog X.w) A (pyIter x) Q E d) E T:=oK c (λN Z c=>OQ (C:=λe=>RY X.G o F.fn e J N.1 N.2=some p->WP X A (eval e F.env) (λx d=>wpAny (model X.prog X.w) A (pyIter x) Q E d) E T) Z (λp' Y c=>eK c (λh c=>Aq h λq m=>aZ H HT (Bn q) m j f c i k) λc=>eK c (λh c=>Aq h λq m=>aa H HT (Bn q) m j f g c i k) λc=>eK c (λh c=>Aq h λq m=>ac H HT (Bn q) m j f g c i k) λc=>Sx H HT j f c i k) c) λ_ c=>Sx H HT j f c i k
end
def JI(a:Program)(w:World)(A:Around)(j:Expr)(i:List Comprehension)(m:Scope)(l:Pos)(d:Nat)(k:Value)(e:Env)(K:Shared->Prop)(E:Value->Shared->Prop)(s:Shared):Prop:=match i[d]? with|some o=>wpAny (model a w) A (eval o.iter e) (λx c=>wpAny (model a w) A (pyIter x) (λn g=>wpAny (model a w) A (runOwn (.compStart (.ListComp j i m l) d n k e) e) (λ_ f=>K f) E g) E c) E s|none=>wpAny (model a w) A (eval j e) (λx c=>wpAny (model a w) A (call (.builtin "list.append") [k,x]) (λ_ h=>K h) E c) E s
section
variable{e:Program}{w:World}{A:Around}{s:Shared}{E:Value->Shared->Prop}
def ae{t:Expr}{i:List Comprehension}{M:Scope}{p:Pos}{d:Nat}{g:Comprehension}(hg:i[d]?=some g)(X:g.is_async=0)(hn:∀q,i[d+1]?=some q->q.is_async=0){j:Env}(hs:∀q,i[d+1]?=some q->∀x,foldedSetIterable q.iter j x=pure x){I u:Value}{Q:Fin->Shared->Prop} (h:wpAny (model e w) A (pyNext I) (λr m=>match r with|none=>Q (.done .next) m|some v=>wpAny (model e w) A (letOwnedTupleGo g.target I v) (λ_ z=>wpAny (model e w) A (assign g.target j v) (λ_ y=>wpAny (model e w) A (forIn g.ifs true λc r=>if r=true then do let H <-isTrue c j (eval c j);pure (ForInStep.yield H) else pure (ForInStep.yield r)) (λH l=>if H=true then JI e w A t i M p (d+1) u j (λk=>Q (.again<|.compLoop (.ListComp t i M p) d I u j) k) E l else Q (.again<|.compLoop (.ListComp t i M p) d I u j) l) E y) E z) E m) E s):wpAny (model e w) A (compTurn (.ListComp t i M p) d I u j) Q E s:=by obtain⟨target,S,a2,a⟩:=g;dsimp only at X;subst X;unfold compTurn;dsimp only;rw[hg];dsimp only;refine A7<|wpAny_standAt ?_;refine A7<|wpAny_mono h (λr m B=>?_) λ_ _ x=>x;cases r with|none=>exact AR B|some v=>refine A7<|wpAny_mono B (λ_ z L=>?_) λ_ _ x=>x;refine A7<|wpAny_mono L (λ_ y K=>?_) λ_ _ x=>x;refine A7<|wpAny_mono K (λH l f=>?_) λ_ _ x=>x;cases H with|false=>exact AR f|true=>simp only [if_true] at f ⊢;unfold JI at f;cases hg':i[d+1]? with|none=>rw[hg'] at f;exact A7 (A7<|wpAny_mono f (λx k o=>A7<|wpAny_mono o (λ_ G n=>AR<|AR n) λ_ _ x=>x) λ_ _ x=>x)|some q=>rw[hg'] at f;have Z:=hn q hg';have Y:=hs q hg';obtain⟨C,N,T,a'⟩:=q;dsimp only at Z;subst Z;dsimp only at f Y ⊢;refine A7<|wpAny_mono f (λx k o=>A7<|wpAny_standAt ?_) λ_ _ x=>x;refine A7<|wpAny_of_eq (Y x)<|A7<|wpAny_holding<|wpAny_mono o (λa1 G n=>A7<|wpAny_mono n (λ_ O J=>AR J) λ_ _ x=>x) λ_ _ x=>x
end
section
variable{a:Program}{w:World}{A:Around}{R:Result->Shared->Prop}{s:Shared}
def T0{i:Expr}{c:List Comprehension}{k:Scope}{f:Pos}{d:Nat}{g:Comprehension}(o:c[d]?=some g)(r:g.is_async=0){n j:Value}{e:Env} (t:codeAny (model a w) A (.compLoop (.ListComp i c k f) d n j e) R s) (h:wpAny (model a w) A (pyIter n) (λl m=>codeAny (model a w) A (.compLoop (.ListComp i c k f) d l j e) R m) (notedBy (model a w) A e λx m=>R (.error x) m) s):codeAny (model a w) A (.compStart (.ListComp i c k f) d n j e) R s:=by
 refine codeAny_of_tree ?_;show wpAny _ _ ((compStart (.ListComp i c k f) d n j e).onRaise λx=>do noteFrame x e;standAt theWindowsPlace) _ _ s;refine wpAny_notedAt ?_;unfold compStart;have q:(clausesOf<|.ListComp i c k f)[d]?=some g:=o;rw[q];have p:((some g).elim false λx=>x.is_async != 0)=false:=by simp [r]
 simp only [p,Bool.false_eq_true,if_false];refine A7<|wpAny_askSetting<|wpAny_ite ?_;split;exact AR<|And.intro rfl t;exact A7<|wpAny_rule<|A7<|wpAny_standAt<|A7<|wpAny_mono h (λl m u=>AR<|And.intro rfl u) λ_ _ x=>x
end
def DK(B:Addr->Prop)(F:Fx)(T c:Sm):Prop:=Ext (λa=>Wr F T a\/B a) T c
structure LI(F:Fx)(B:Addr->Prop)(fp wr:List Addr)(Sf:Nat->Heap->Prop)(TS:Sm)(j:Nat)(T:Sm):Prop where
 st:Sf j T.s.heap
 fp:∀b∈fp,¬Wa F T b/\¬B b
 wr:∀b∈wr,¬T.M.F b
 mono:Mono TS T
section
variable{X:Cx}{F g:Fx}{o:Ops}{n:Nat}{O y:St}{A:Around}{T z T₁ s G K:Sm}{Q:Value->Shared->Prop}{E:Value->Shared->Prop}{e t:Expr}{u:Value}{v:V}{a b I D:Addr}{l:List V}{H:List Value}{B:Addr->Prop}{S J:List Addr}{P k:Nat->Value->Heap->Prop}{Y:Nat->Heap->Prop}{j N:Nat}{Z:It}
def DK.of(x:Ext (Wr F T) T G):DK B F T G:=x.weaken λ_ h=>.inl<|.inl h
def DK.ofW(x:Ext T.M.W T G):DK B F T G:=x.weaken λ_ h=>.inl<|.inl<|.inl h
theorem DK.trans(x:DK B F T G)(c:DK B F G K):DK B F T K:=Ext.trans x c λa h=>h.elim (λh=>h.elim (λh=>(x.wnew a h).imp_left λh=>.inl<|.inl h) λh=>.inl<|.inl<|.inr h) λh=>.inl<|.inr h
def LI.ext(L:LI F B S J Y s j T)(W:KTurns X.prog X.w A t I S J N P k Y)(d:∀i h,Y i h->∀b∈S,Al h b)(x:DK B F T G)(m:Mono T G):LI F B S J Y s j G where
 st:=W.frame j _ _ L.st λb c o e=>x.keep b o e λq=>q.elim (λq=>(L.fp b c).1 q.wa) (L.fp b c).2
 fp b c:=⟨λq=>q.elim (λq=>(x.wnew b q).elim (λq=>(L.fp b c).1<|.inl q) λq=>q<|d j _ L.st b c) λq=>(L.fp b c).1<|.inr q,(L.fp b c).2⟩
 wr b c q:=(x.fnew b q).elim (L.wr b c) λq=>q.elim (λq=>(L.fp b<|W.sub b c).1<|.inl q) λq=>q<|d j _ L.st b<|W.sub b c
 mono:=L.mono.trans m
structure Dr(X:Cx)(F:Fx)(B:Addr->Prop)(J:List Addr)(O:St)(T₁ T G:Sm):Prop where
 M:G.M=T.M
 keep:∀b o,b∉J->T.s.heap.get? b=some o->G.s.heap.get? b=some o
 mono:Mono T G
 inv:Inv X F O G
 ext:DK B F T₁ G
def T3(W:KTurns X.prog X.w A t I S J N P k Y)(ab:∀(i:Nat)(v:Value)(G:Sm)(x:V),Z.items[i]?=some x->Mono s G->P i v G.s.heap->MK X Z.pr G x v)(an:Z.items.length=N) (am:∀b∈J,¬Al T₁.s.heap b) (L:LI F B S J Y s j T) (i:Inv X F O T) (c:DK B F T₁ T) {Q:Option Value->Shared->Prop} (hd:j=N->∀G,Dr X F B J O T₁ T G->Q .none G.s) (hi:∀x v C,Z.items[j]?=some x->(∀{Q':Unit->Shared->Prop}{E':Value->Shared->Prop},(∀G,Dr X F B J O T₁ T G->LI F B S J Y s (j+1) G->MK X Z.pr G x v->Q' () G.s)->wpAny (model X.prog X.w) A (letOwnedTupleGo t (.ref I) v) Q' E' C)->Q (some v) C) (hj:j<=N):WP X A (pyNext<|.ref I) Q E T:=by
 have dr:∀{h':Heap}{tk:Nat},(∀b o,b∉J->T.s.heap.get? b=some o->h'.get? b=some o)->Dr X F B J O T₁ T (T.hp h' tk):=λ{h' tk} hk=>by have hn:∀b,T.M.F b\/T.M.W b\/FA F.env b->b∉J:=λb q m=>q.elim (L.wr b m) λq=>(L.fp b<|W.sub b m).1 q;refine⟨rfl,hk,⟨λ_ f=>f,λb o f=>hk b o<|hn b<|.inl f,CG _⟩,i.hp λb o q=>hk b o<|hn b q,?_⟩;obtain⟨a1,ar,a2⟩:=c.sh;exact⟨⟨h',tk,by show {T.s with heap:=h',toks:=tk}=_;rw[a2]⟩,λa o e n=>hk a o (λq=>am a q ⟨_,e⟩)<|c.keep a o e n,λa q=>(c.al a q).imp λo e=>hk a o (λm=>am a m q) e,c.F,c.fnew,c.wnew,c.ad⟩
 by_cases a3:j<N;have hx:=Cv (an▸a3:j<Z.items.length);refine W.item j _ _ _ a3 L.st λv a1 p ap h=>hi _ v _ hx λ{Q' E'} k'=>W.go j v _ _ _ ap λaf hP r a4=>?_;have d:=dr (h':=af) (tk:=p) λb o hb e=>a4 b o hb<|h b o hb e;exact k' _ d ⟨r,L.fp,L.wr,L.mono.trans d.mono⟩<|ab j v _ _ hx (L.mono.trans d.mono) hP;cases Nat.le_antisymm hj (Nat.not_lt.mp a3);exact W.done _ _ _ L.st λa1 p h=>hd rfl _<|dr h
def ag(w:Snd X o n)(L:AW A n){d:List Expr}{p:Bool×St}{m:Bool->Shared->Prop}(f:OF o F.fn O d=some p)(i:Inv X F O T)(q:KT X F T m p):WP X A (forIn d true λc r=>if r=true then do let h <-isTrue c F.env (eval c F.env);pure (ForInStep.yield h) else pure (ForInStep.yield r)) m E T:=by cases d with|nil=>exact wpAny_tests_nil (sQ f q T<|.refl i)|cons c d=>exact iK f λx f=>Ge (C:=λd=>WP X A (forIn (c::d) true λc r=>if r=true then do let h <-isTrue c F.env (eval c F.env);pure (ForInStep.yield h) else pure (ForInStep.yield r)) m E T) x<|wpAny_tests_one<|w.tt L f i q
structure AccAt(X:Cx)(F:Fx)(T:Sm)(D:Addr)(l:List V):Prop where
 at_:∃H,T.seq "list" D H/\AC (AE X.I T) l H
 f:¬T.M.F D
 w:¬Wa F T D
def AccAt.al(a:AccAt X F T D l):Al T.s.heap D:=a.at_.elim λ_ q=>q.1.elim λ_ e=>⟨_,e⟩
def AccAt.aft(a:AccAt X F T D l)(x:AftS X F T O G):AccAt X F G D l:=⟨a.at_.imp λH q=>⟨q.1.imp λn e=>x.ext.keep D _ e λq=>a.w q.wa,q.2.mono x.mono⟩,λq=>(x.ext.fnew D q).elim a.f λq=>q.elim (λq=>a.w<|.inl q) λq=>q a.al,λq=>q.elim (λq=>(x.ext.wnew D q).elim (λq=>a.w<|.inl q) λq=>q a.al) λq=>a.w<|.inr q⟩
def AccAt.drawn(a:AccAt X F T D l)(c:D∉J)(x:Dr X F B J O T₁ T G):AccAt X F G D l:=⟨a.at_.imp λH q=>⟨q.1.imp λn e=>x.keep D _ c e,q.2.mono x.mono⟩,x.M▸a.f,λq=>a.w<|q.imp_left λq=>(x.M▸q:T.M.W D)⟩
def KA(X:Cx)(F:Fx)(D:Addr)(T:Sm)(acc:List V)(c:Shared->Prop)(p:List V×St):Prop:=∀G,DK (·=D) F T G->Mono T G->Inv X F p.2 G->AccAt X F G D (acc++p.1)->c G.s
def ah{f:V->St->Option (List V×St)}{q:List V×St}{P:Prop}(h:turns f (v::l) O=some q)(m:∀p r,f v O=some p->turns f l p.2=some r->q=(p.1++r.1,r.2)->P):P:=bK h λp i h=>mK (C:=λc=>q=c->P) h (λr d e=>m p r i d e) rfl
inductive CI(X:Cx)(F:Fx)(D:Addr)(N:Nat)(S J:List Addr)(Y:Nat->Heap->Prop)(s T₁:Sm)(acc:List V)(f:V->St->Option (List V×St))(its:List V)(p:List V×St)(kk:Nat)(s':Shared):Prop where
 |mk (j:Nat) (G:Sm) (y:St) (done:List V) (rest:List V×St):s'=G.s->kk=N+1-j->j<=N->DK (·=D) F T₁ G->Mono T₁ G->Inv X F y G->LI F (·=D) S J Y s j G->AccAt X F G D (acc++done)->turns f (its.drop j) y=some rest->p=(done++rest.1,rest.2)->CI X F D N S J Y s T₁ acc f its p kk s'
def T4(us:Snd X o n)(hA:AW A n){elt:Expr}{gs0:List Comprehension}{sc:Scope}{pos:Pos}{d:Nat}{m:Comprehension}(hg:gs0[d]?=some m)(ha:m.is_async=0)(hn:∀g',gs0[d+1]?=some g'->g'.is_async=0)(hs:∀g',gs0[d+1]?=some g'->∀x,foldedSetIterable g'.iter F.env x=pure x) {tg:Tg}{C:List V}{p:List V×St}{inner:St->Option (List V×St)}{R:Result->Shared->Prop} (c7:Dg m.target=some tg) (c8:Ci F.fn Z.pr tg=true) (cd:∀{O:St}{q:List V×St}{C:List V}{T:Sm}{E:Value->Shared->Prop}{c1:Shared->Prop},inner O=some q->Inv X F O T->AccAt X F T D C->C.length+q.1.length<=lim->KA X F D T C c1 q->JI X.prog X.w A elt gs0 sc pos (d+1) (.ref D) F.env c1 E T.s) (hS:SrcAt X g A m.target Z z s I N S J P k Y) (c6:∀b∈J,¬Al T₁.s.heap b) (c3:LI F (·=D) S J Y s 0 T) (b3:DK (·=D) F T₁ T) (b4:Mono T₁ T) (he:turns (compTurn' o F.fn tg m.ifs inner) Z.items O=some p) (i:Inv X F O T) (bs:AccAt X F T D C) (hl:C.length+p.1.length<=lim) (Md:KA X F D T₁ C (λTS=>R (.ok .next) TS) p):codeAny (model X.prog X.w) A (.compLoop (.ListComp elt gs0 sc pos) d (.ref I) (.ref D) F.env) R T.s:=by refine codeAny_loop rfl (CI X F D N S J Y s T₁ C (compTurn' o F.fn tg m.ifs inner) Z.items p) ?_ (N+1) ⟨0,T,O,[],p,rfl,rfl,Bm _,b3,b4,i,c3,(BJ C).symm▸bs,he,rfl⟩;rintro kk cm ⟨j,cr,c5,done,cn,rfl,rfl,hj,b2,a2,bl,b1,M,r,hp⟩;have hD:D∉J:=λq=>(b1.fp D<|hS.turns.sub D q).2 rfl;refine wpAny_noted<|ae hg ha hn hs<|T3 hS.turns hS.item hS.len c6 b1 bl b2 (λc9 a3 f=>?_) (λx v cl hx cg=>?_) hj;subst c9;rw[List.drop_eq_nil_of_le<|BB hS.len] at r;obtain rfl:=Option.some.inj r;subst hp;exact Md a3 f.ext (a2.trans f.mono) f.inv<|(BJ done).symm▸M.drawn hD f;have bo:j<Z.items.length:=(List.getElem?_eq_some_iff.mp hx).1;rw[List.drop_eq_getElem_cons bo,(List.getElem?_eq_some_iff.mp hx).2] at r;refine ah r λa b e1 e2 e3=>bK e1 λc4 f1 e1=>bK e1 λc f2 f3=>cg λa3 f c2 cc=>Sk hA c7 c8 f1 f.inv cc λco an=>ag us hA f2 an.inv λap h=>?_;have h:=an.trans h.s;have L:=(M.drawn hD f).aft h;have a1:DK (·=D) F a3 ap:=.of h.ext;have ar:=c2.ext hS.turns hS.al a1 h.mono;have af:N+1-(j+1)<N+1-j:=Nat.sub_lt_sub_left (D0 hj)<|CY j;have am:j<N:=hS.len▸bo;rw[e3] at hp;refine cK f3 (λhc f3=>?_) λhc f3=>?_;rw[A5 hc];refine cd f3 h.inv L ?_ λc0 ab ad bd a4=>⟨rfl,_,af,j+1,c0,a.2,done++a.1,b,rfl,rfl,am,(f.ext.trans a1).trans ab,((a2.trans f.mono).trans h.mono).trans ad,bd,ar.ext hS.turns hS.al ab ad,AD _ _ _▸a4,e2,by rw[hp,AD]⟩;rw[hp,A9,A9] at hl;rw[A9,Bv];exact AB (BW (BW (BA _ _) _) _) hl;rw[A1<|by rw[hc];exact Cb];obtain rfl:=Option.some.inj f3;exact⟨rfl,_,af,j+1,ap,c.2,done,b,rfl,rfl,am,f.ext.trans a1,(a2.trans f.mono).trans h.mono,h.inv,ar,L,e2,hp⟩
end
section
variable{X:Cx}{F G:Fx}{o:Ops}{n:Nat}{st J:St}{A:Around}{T B d M O L:Sm}{E:Value->Shared->Prop}{e t:Expr}{u:Value}{v:V}{a b I D:Addr}{l:List V}{w:List Value}
def T5{g:Comprehension}{i:Env}(h:Fm g=true):g.is_async=0/\∀x,foldedSetIterable g.iter i x=pure x:=Aq h λj f=>⟨Bn j,λx=>by revert f;generalize g.iter=e;intro f;cases e with|Set a b c=>exact Bw f|_=>rfl⟩
def ai(i:Inv X F st T)(N:AE X.I T v u){h:List V}(c:AccAt X F T D h)(Q:h.length+1<=lim){K:Shared->Prop}(k:KA X F D T h K ([v],st)):WP X A (call (.builtin "list.append") [.ref D,u]) (λ_ s=>K s) E T:=by obtain⟨w,⟨m,e⟩,r⟩:=c.at_;refine wpAny_list_append_plain (items:=w.toArray) ⟨m,e⟩ (λx j y=>?_)<|r.lim<|Nat.le_of_succ_le Q;obtain⟨H,j⟩:=j;have p:∀b o,b≠D->T.s.heap.get? b=some o->x.get? b=some o:=λb o S e=>(y.2 b S).trans e;have C:∀b,T.M.F b\/T.M.W b\/FA F.env b->b≠D:=λb q z=>q.elim (λq=>c.f<|z▸q) λq=>c.w<|z▸q;have g:Mono T<|T.hp x T.s.toks:=⟨λ_ f=>f,λb o f=>p b o<|C b<|.inl f,CG _⟩;refine k (T.hp x T.s.toks) ⟨⟨x,_,rfl⟩,λb o e n=>p b o (λq=>n<|.inr q) e,λb q=>?_,λ_ f=>f,λ_ f=>.inl f,λ_ f=>.inl f,CG _⟩ g (i.hp λb o q=>p b o<|C b q) ⟨⟨w++[u],⟨H,?_⟩,(r.mono g).append<|.one<|N.mono g⟩,c.f,c.w⟩;exact(Classical.em<|b=D).elim (λz=>z▸⟨_,j⟩) λz=>q.imp λo e=>p b o z e;rw[List.push_toArray] at j;exact j
def aj(H:Snd X o n)(HT:Top X)(hA:AW A n){elt:Expr}{gs0:List Comprehension}{sc:Scope}{pos:Pos}(af:∀g∈gs0,Fm g=true){gs:List Comprehension}:∀{pre:List Comprehension},gs0=pre++gs->∀{st:St}{p:List V×St}{acc:List V}{T:Sm}{E:Value->Shared->Prop}{K:Shared->Prop},IG X.G o F.fn elt gs st=some p->Inv X F st T->AccAt X F T D acc->acc.length+p.1.length<=lim->KA X F D T acc K p->JI X.prog X.w A elt gs0 sc pos pre.length (.ref D) F.env K E T.s:=by induction gs with|nil=>intro pre z st p acc T E K he i h hl k;unfold JI;rw[show gs0[pre.length]?=none by rw[z,BJ];exact List.getElem?_eq_none<|Au _];refine mQ (C:=λp:List V×St=>acc.length+p.1.length<=lim/\KA X F D T acc K p) he ⟨hl,k⟩ λq y k=>JA H hA i y λu d c a2=>ai c.inv a2 (h.aft c.s) k.1 λad a1 a3 a4 Q=>k.2 ad ((DK.ofW c.ext).trans a1) (c.mono.trans a3) a4 Q|cons g gs ih=>
 intro pre z st p acc T E K he i h hl k;have hg:gs0[pre.length]?=some g:=by rw[z,List.getElem?_append_right<|Au _,Nat.sub_self];rfl
 have gk:∀{g:Comprehension}{j:Nat},gs0[j]?=some g->g.is_async=0/\∀x,foldedSetIterable g.iter F.env x=pure x:=λ{g j} hj=>T5<|af g<|List.mem_of_getElem? hj;unfold JI;rw[hg];refine bK he λq y he=>bK y λq' h1 y=>bK y λtg ab y=>iK y λht y=>?_;obtain rfl:=Option.some.inj y;refine On H HT hA (ML ab) ht h1 i λI d c q=>wpAny_runOwn ?_;obtain⟨N,fp,wr,P,Md,Sf,S⟩:=q;have m:=h.aft c.s;have inner:=λ{st:St}{p:List V×St}{acc:List V}{T:Sm}{E:Value->Shared->Prop}{K:Shared->Prop}=>ih (pre:=pre++[g]) (by rw[z,AD];rfl) (st:=st) (p:=p) (acc:=acc) (T:=T) (E:=E) (K:=K);rw[A9] at inner;have Y:codeAny (model X.prog X.w) A (.compLoop (.ListComp elt gs0 sc pos) pre.length (.ref I) (.ref D) F.env) (λr s'=>match r with|.ok f=>K s'|.error e=>cameBackBy (model X.prog X.w) A F.env E e s') d.s:=T4 (T₁:=T) H hA hg (gk hg).1 (λg' Z=>(gk Z).1) (λg' Z x=>(gk Z).2 x) ab ht inner S (λb hb=>(S.wr b hb).2) ⟨S.st0,λb hb=>⟨(S.fp b hb).1,λe=>(S.fp b hb).2.elim (λq=>m.f<|e▸q) λq=>q<|e▸h.al⟩,λb hb=>(S.wr b hb).1,.refl _⟩ (.ofW c.ext) c.mono he c.inv m hl k;exact T0 hg (gk hg).1 Y<|S.self 0 d.s _ _ S.st0 Y
noncomputable def Gg(c:Env):List (Str×NameKind)->List (Str×Addr)->List (Str×Addr)|[],f=>f|p::r,f=>Gg c r<|if (p.2 == .free)=true then(p.1,(c.cells.lookup p.1).getD 0)::f else f
def ak{i:Env}{f:Str×NameKind->List (Str×Addr)->Sem (ForInStep<|List<|Str×Addr)}(H:∀p j,f p j=if (p.2 == .free)=true then(do let c <-cellOf i p.1;pure (.yield<|(p.1,c)::j)) else pure (.yield j)){g:List (Str×NameKind)}:∀{j:List (Str×Addr)},(∀x,(x,.free)∈g->∃c,i.cells.lookup x=some c)->forIn g j f=pure (Gg i g j):=by induction g with|nil=>exact λ_=>List.forIn_nil|cons p r z=>
 intro j h;rw[List.forIn_cons,H];show _=pure (Gg i r<|if (p.2 == .free)=true then(p.1,(i.cells.lookup p.1).getD 0)::j else j);by_cases q:(p.2==NameKind.free)=true;obtain⟨x,k⟩:=p;cases eq_of_beq q;obtain⟨c,C⟩:=h x<|.head _;rw[A5 q,A5 q,C];have m:cellOf i x=pure c:=by unfold cellOf;rw[C]
 rw[m,pure_bind,pure_bind];exact z λy s=>h y<|.tail _ s;rw[A1 q,A1 q,pure_bind];exact z λy s=>h y<|.tail _ s
end
section
variable{a:Env}{d:Scope}{x:Str}{c:Addr}{f:Fn}
def ao(h:∀x,(x,.free)∈d.names->∃c,a.cells.lookup x=some c):closureFor d a=pure (Gg a d.names []):=by unfold closureFor;dsimp only;rw[ak (λp g=>?_) h];rfl;by_cases e:(p.2==NameKind.free)=true;rw[A5 e];rw[A1 e]
def aq{g:List (Str×NameKind)}:∀{m:List (Str×Addr)},(∀x,(x,.free)∈g->∃c,a.cells.lookup x=some c)->(∀x c,m.lookup x=some c->a.cells.lookup x=some c)->(Gg a g m).lookup x=some c->a.cells.lookup x=some c:=by induction g with|nil=>exact λ_ h e=>h x c e|cons p r o=>
 intro m n h e;refine o (λz i=>n z<|.tail _ i) (λz c i=>?_) e;by_cases l:(p.2==NameKind.free)=true;rw[A5 l] at i;obtain⟨y,k⟩:=p;cases eq_of_beq l;obtain⟨s,j⟩:=n y<|.head _;rw[j,List.lookup_cons] at i;cases q:z==y with|true=>rw[q] at i;obtain rfl:=Option.some.inj i;rw[eq_of_beq q];exact j|false=>rw[q] at i;exact h z c i
 rw[A1 l] at i;exact h z c i
def au{names:List (Str×NameKind)}:∀{e:List (Str×Addr)},(e.lookup x).isSome=true->((Gg a names e).lookup x).isSome=true:=by induction names with|nil=>exact id|cons p r i=>
 intro e h;refine i ?_;by_cases g:(p.2==NameKind.free)=true;rw[A5 g,List.lookup_cons];cases x==p.1 with|true=>rfl|false=>exact h
 rw[A1 g];exact h
def av{e:List (Str×NameKind)}:∀{cs:List (Str×Addr)},(x,.free)∈e->((Gg a e cs).lookup x).isSome=true:=by induction e with|nil=>exact λh=>Ew h|cons p r g=>intro cs h;cases h with|head=>exact au (names:=r) (by show(List.lookup x<|(x,(a.cells.lookup x).getD 0)::cs).isSome=true;rw[List.lookup_cons,beq_self_eq_true];rfl)|tail _ h=>exact g h
def Gh{e:Type}{v:e}{l:List (Str×e)}(h:l.lookup x=some v):(x,v)∈l:=by induction l with|nil=>exact Ae h|cons p l g=>rw[List.lookup_cons] at h;cases q:x==p.1 with|true=>rw[q] at h;obtain rfl:=Option.some.inj h;rw[eq_of_beq q];exact .head _|false=>rw[q] at h;exact .tail _<|g h
def aw{k:NameKind}{l:List (Str×NameKind)}(i:Lx l=true)(h:(x,k)∈l):l.lookup x=some k:=by induction l with|nil=>exact absurd h Ax|cons p l e=>refine Aq i λg j=>?_;rw[List.lookup_cons];cases h with|head=>rw[beq_self_eq_true]|tail _ h=>have e:=e j h;cases q:x==p.1 with|true=>rw[<-eq_of_beq q,e] at g;exact Bw g|false=>exact e
noncomputable def IP(a:Env)(x:Str)(k:NameKind):NameKind:=if (k==NameKind.free&&a.scope.kind == .function&&a.kindOf x==some .cell)=true then NameKind.cell else k
def ax{l:List (Str×NameKind)}:(l.map λ(n,k)=>if (k==NameKind.free&&a.scope.kind == .function&&a.kindOf n==some .cell) then(n,NameKind.cell) else(n,k)).lookup x=(l.lookup x).map (IP a x):=by induction l with|nil=>rfl|cons p l h=>
 obtain⟨y,k⟩:=p;have e:(if (k==NameKind.free&&a.scope.kind == .function&&a.kindOf y==some .cell)=true then(y,NameKind.cell) else(y,k))=(y,IP a y k):=by unfold IP;by_cases g:(k==NameKind.free&&a.scope.kind == .function&&a.kindOf y==some .cell)=true;rw[A5 g,A5 g];rw[A1 g,A1 g]
 rw[List.map_cons,List.lookup_cons];show List.lookup x ((if (k==NameKind.free&&a.scope.kind == .function&&a.kindOf y==some .cell)=true then(y,NameKind.cell) else(y,k))::_)=_;rw[e,List.lookup_cons,List.lookup_cons];cases q:x==y with|true=>rw[eq_of_beq q];rfl|false=>exact h
def ay{g:List (Str×NameKind)}{v:V}{i:List (Str×V)}(h:AJ x (seen g i)=some v):g.lookup x=some .free/\AJ x i=some v:=by induction i with|nil=>exact Ae h|cons p i j=>show _/\(if x=p.1 then some p.2 else AJ x i)=some v;unfold seen at h;by_cases q:(g.lookup p.1==some NameKind.free)=true;rw[List.filter_cons_of_pos (p:=λp:Str×V=>g.lookup p.1==some NameKind.free) q] at h;have h:(if x=p.1 then some p.2 else AJ x (seen g i))=some v:=h;by_cases e:x=p.1;rw[A5 e] at h ⊢;exact⟨e▸eq_of_beq q,h⟩;rw[A1 e] at h ⊢;exact j h;rw[List.filter_cons_of_neg (p:=λp:Str×V=>g.lookup p.1==some NameKind.free) q] at h;have j:=j h;rw[A1 λe=>q<|by rw[<-e,j.1];rfl];exact j
structure ScOk(f:Fn)(d:Scope):Prop where
 kind:d.kind=.function
 names:∀p∈d.names,(p.2=.local\/p.2=.globalImplicit\/(p.2=.free/\(f.names.lookup p.1=some .cell\/f.names.lookup p.1=some .free)))/\p.1≠"__debug__"/\p.1≠"__classdict__"
 nod:Lx d.names=true
def az(h:GC f d=true):ScOk f d:=Aq h λh l=>Aq h λg e=>⟨eq_of_beq g,λp i=>Aq (List.all_eq_true.mp e p i) λh j=>Aq h λh k=>⟨(Bool.or_eq_true_iff.mp h).elim (λh=>(Bool.or_eq_true_iff.mp h).elim (λh=>.inl<|eq_of_beq h) λh=>.inr<|.inl<|eq_of_beq h) λh=>Aq h λg e=>.inr<|.inr ⟨eq_of_beq g,(Bool.or_eq_true_iff.mp e).imp eq_of_beq eq_of_beq⟩,of_decide_eq_false<|Bool.not_eq_true' _ |>.mp k,of_decide_eq_false<|Bool.not_eq_true' _ |>.mp j⟩,l⟩
theorem ScOk.free(S:ScOk f d)(h:(x,NameKind.free)∈d.names):f.names.lookup x=some .cell\/f.names.lookup x=some .free:=(S.names _ h).1.elim (λh=>NameKind.noConfusion h) λh=>h.elim (λh=>NameKind.noConfusion h) λh=>h.2
def ScOk.nocell(S:ScOk f d)(h:(x,NameKind.cell)∈d.names){P:Prop}:P:=(S.names _ h).1.elim (λh=>NameKind.noConfusion h) λh=>h.elim (λh=>NameKind.noConfusion h) λh=>NameKind.noConfusion h.1
end
noncomputable def Fp(a:Env)(c:Scope)(L:Addr):Env:={newEnv c L a.globals (Gg a c.names []) a.qual none .none (some a) builtinsNs with scope:=relabel c a}
noncomputable def JJ(F:Fx)(sc:Scope)(L:Addr):Fx:=⟨F.fn.sc sc.names,Fp F.env sc L⟩
section
variable{X:Cx}{F:Fx}{o:Ops}{n:Nat}{st l:St}{A:Around}{T j s:Sm}{Q E:Value->Shared->Prop}{sc:Scope}{L:Addr}{h:Heap}{tk:Nat}
theorem Inv.free(S:ScOk F.fn sc)(i:Inv X F st T)(x:Str)(a:(x,NameKind.free)∈sc.names):∃c,F.env.cells.lookup x=some c:=i.frm.cells x<|(S.free a).elim (λh=>.inl<|i.frm.cel x h)<|i.frm.fre x
def Inv.inC(S:ScOk F.fn sc)(i:Inv X F st T){x:Str}{c:Addr}(h:(Gg F.env sc.names []).lookup x=some c):F.env.cells.lookup x=some c:=aq (i.free S) (λ_ _ h=>by rw[List.lookup_nil] at h;exact Ae h) h
def Inv.faC(S:ScOk F.fn sc)(i:Inv X F st T){a:Addr}(h:FA (Fp F.env sc L) a):a=L\/FA F.env a:=h.imp id λq=>.inr<|q.imp λx c=>i.inC S c
def FS.comp(S:ScOk F.fn sc){a:Addr}(h:FS (JJ F sc L) a):a=L:=h.elim id λq=>q.elim λx q=>S.nocell<|Gh q.1
def MP(x:Str):(Fp F.env sc L).kindOf x=(sc.names.lookup x).map (IP F.env x):=ax
def T7{x:Str}(h:sc.names.lookup x=some .free):(Fp F.env sc L).kindOf x=some .cell\/(Fp F.env sc L).kindOf x=some .free:=by rw[MP,h];show some (IP F.env x .free)=_\/some (IP F.env x .free)=_;unfold IP;by_cases a:(NameKind.free==NameKind.free&&F.env.scope.kind == .function&&F.env.kindOf x==some .cell)=true;rw[A5 a];exact .inl rfl;rw[A1 a];exact .inr rfl
def b0(S:ScOk F.fn sc)(i:Inv X F st T)(w:¬Al T.s.heap L)(H:h.Ns L λ_=>.none)(I:∀b o,T.s.heap.get? b=some o->h.get? b=some o):Inv X (JJ F sc L) ⟨seen sc.names st.vars,st.store⟩<|T.hp h tk:=by
 have g:AL X F T st<|T.hp h tk:=.grow i I;have f:∀{x:Str},(∀p∈sc.names,p.1≠x)->sc.names.lookup x=.none:=λ{x} d=>by cases hl:sc.names.lookup x with|none=>rfl|some k=>exact absurd rfl<|d _<|Gh hl
 obtain⟨m,N,_,K,G⟩:=g.inv.frm.has;refine⟨g.inv.mid,λa q=>(i.faC S q).elim (λe=>e▸⟨λq=>w<|i.mid.fal _ q,λq=>w<|i.wal q⟩)<|i.ffa a,{kind:=S.kind,dbg:=⟨f λp t=>(S.names p t).2.1,f λp t=>(S.names p t).2.2⟩,loc:=λx d=>?_,cel:=λx d=>S.nocell<|Gh d,fre:=λx d=>T7 d,glo:=λx d=>?_,glb:=i.frm.glb,blt:=i.frm.blt,cells:=λx d=>?_,apart:=λx y c d C=>i.frm.apart x y c (i.inC S d)<|i.inC S C,above:=λx c d e=>?_,has:=⟨_,N,H,λx c d=>K x c<|i.inC S d,λx v d=>?_⟩}⟩;show(Fp F.env sc L).kindOf x=_;rw[MP,show sc.names.lookup x=_ from d];rfl;show(Fp F.env sc L).kindOf x=_;rw[MP,show sc.names.lookup x=_ from d];rfl;have J:sc.names.lookup x=some .free:=by
  have d:(Fp F.env sc L).kindOf x=some .cell\/(Fp F.env sc L).kindOf x=some .free:=d;rw[MP] at d;cases hl:sc.names.lookup x with
  |none=>rw[hl] at d;rcases d with e|e<;>exact Ae e
  |some k=>rw[hl] at d;rcases(S.names _<|Gh hl).1 with e|e|e;subst e;rcases d with e|e<;>exact NameKind.noConfusion<|Option.some.inj e;subst e;rcases d with e|e<;>exact NameKind.noConfusion<|Option.some.inj e;exact A3 some e.1
 exact Option.isSome_iff_exists.mp<|av (cs:=[])<|Gh J;exact w<|(show c=L from e)▸i.faal (.inr ⟨x,i.inC S d⟩);obtain⟨B,M⟩:=ay d;obtain⟨u,r,q⟩:=G x v M;refine⟨u,r,.inr ⟨T7 B,?_⟩⟩;refine q.elim (λq=>?_) λq=>q.2;exact(S.free<|Gh B).elim (λz=>by cases (i.frm.cel x z).symm.trans q.1) λz=>(i.frm.fre x z).elim (λz=>by cases z.symm.trans q.1) λz=>by cases z.symm.trans q.1
def Inv.back{d:Fx}(i:Inv X F st T)(x:Ext T.M.W T j)(c:Inv X d l j):AL X F T (st.sto l.store) j:=have m:Mono T j:=x.mono i.mid.fw;⟨x,m,c.mid,λa f=>⟨λq=>(x.fnew a q).elim (i.ffa a f).1 λq=>q.elim (i.ffa a f).2 λq=>q<|i.faal f,λq=>(x.wnew a q).elim (i.ffa a f).2 λq=>q<|i.faal f⟩,i.frm.mono m λb o f e=>x.keep b o e (i.ffa b f).2⟩
structure CompEnd(X:Cx)(F:Fx)(T:Sm)(p:R×St)(j:Sm)(acc:Value)(L:Addr):Prop where
 aft:AL X F T p.2 j
 rr:RR X F T j p.1 acc
 new:¬Al T.s.heap L
 f:¬j.M.F L
 w:¬j.M.W L
 ne:acc≠.ref L
 ns:∃m,j.s.heap.Ns L m
def T8(H:Snd X o n)(HT:Top X){elt:Expr}{gs:List Comprehension}{pos af:Pos}{a4:Option (Value->Sem Unit)}{p:R×St}(hA:AW A n)(Z:Ly X.G o F.fn elt gs sc st=some p)(i:Inv X F st T) (k:∀acc L j,CompEnd X F T p j acc L->compPost (model X.prog X.w) A E a4 Q acc L (.ok .next) j.s):WP X A (comprehension (.ListComp elt gs sc pos) sc F.env af (newList []) (firstAsync gs) (firstIter gs F.env) a4) Q E T:=by cases gs with|nil=>exact nK Z|cons g gs=>
 refine iK Z λbs Z=>Aq bs λbo b1=>bK Z λq hq Z=>bK hq λq' h1 hq=>bK hq λtg ar hq=>iK hq λht hq=>?_;obtain rfl:=Option.some.inj hq;refine bK Z λr hr Z=>pK Z λa3 Z=>?_;obtain rfl:=Option.some.inj Z;have S:=az bo;have gk:∀g'∈g::gs,∀bd,g'.is_async=0/\∀x,foldedSetIterable g'.iter bd x=pure x:=λg' J bd=>T5<|List.all_eq_true.mp b1 g' J;have c2:firstAsync (g::gs)=false:=by obtain⟨a,b,c,d⟩:=g;have:=(gk _ (.head _) F.env).1;dsimp only at this;subst this;rfl
 have c1:firstIter (g::gs) F.env=eval g.iter F.env:=by obtain⟨a,b,c,d⟩:=g;rfl
 rw[c2,c1];refine wpAny_comprehension_free (g:=g) (gs:=gs) rfl (gk g (.head _) F.env).2 (ao<|i.free S) S.kind (λx hx hl=>aw S.nod<|by rw[<-hl];exact hx) ?_;refine On H HT hA (ML ar) ht h1 i λI T₁ m q=>?_;obtain⟨N,fp,wr,P,Md,Sf,C⟩:=q;refine wpAny_newObj_type<|wpAny_newFunctionEnv (λy hy e=>S.nocell (x:=y.1)<|e▸hy) (λ_ h=>Ew h) (λt ad ab=>?_) S.kind;dsimp only at ad ab ⊢;generalize hH:T₁.s.heap.push {cls:=.type "list",dict:=none,data:=.seq ([]:List Value).toArray}=H2 at ad ab ⊢;have c3:H2.get? T₁.s.heap.objs.size=some (seqObj "list" (List.toArray []) 0):=by rw[<-hH];exact De _ rfl
 have b2:H2.objs.size=T₁.s.heap.objs.size+1:=by rw[<-hH,Heap.size_push]
 have an:∀b o,H2.get? b=some o->t.get? b=some o:=λb o e=>ab.extBut b o (Nat.ne_of_lt<|Heap.lt_size e)<|E1 _ e;have hk:∀b o,T₁.s.heap.get? b=some o->t.get? b=some o:=λb o e=>an b o (by rw[<-hH];exact E1 _ e);have a1:¬Al T₁.s.heap H2.objs.size:=λq=>absurd (b2▸q.lt:T₁.s.heap.objs.size+1<T₁.s.heap.objs.size)<|Nat.not_lt.mpr<|Nat.le_succ _;have v:¬Al T₁.s.heap T₁.s.heap.objs.size:=Eu _;have b4:T₁.s.heap.objs.size≠H2.objs.size:=by rw[b2];exact(Nat.succ_ne_self _).symm
 generalize c4:H2.objs.size=L at *;generalize c5:T₁.s.heap.objs.size=D at *;have O:AL X F T₁ q'.2<|T₁.hp t T₁.s.toks:=.grow m.inv hk;have u:=(Inv.back i m.ext m.inv).inv;have ap:Inv X (JJ F sc L) ⟨seen sc.names st.vars,q'.2.store⟩<|T₁.hp t T₁.s.toks:=b0 S u a1 ad hk;have a2:AccAt X (JJ F sc L) (T₁.hp t T₁.s.toks) D []:=⟨⟨[],⟨0,an _ _ c3⟩,rfl⟩,λq=>v<|u.mid.fal _ q,λq=>q.elim (λq=>v<|u.wal q) λq=>(u.faC S q).elim b4 λq=>v<|u.faal q⟩;have inner:=λ{st:St}{p:List V×St}{acc:List V}{T:Sm}{E:Value->Shared->Prop}{K:Shared->Prop}=>aj (F:=JJ F sc L) H HT hA (elt:=elt) (gs0:=g::gs) (sc:=sc) (pos:=pos) (D:=D) (List.all_eq_true.mp b1) (gs:=gs) (pre:=[g]) rfl (st:=st) (p:=p) (acc:=acc) (T:=T) (E:=E) (K:=K);have am:=m.mono.trans O.mono;have B:codeAny (model X.prog X.w) A (.compLoop (.ListComp elt (g::gs) sc pos) 0 (.ref I) (.ref D)<|Fp F.env sc L) (compPost (model X.prog X.w) A E a4 Q (.ref D) L) (T₁.hp t T₁.s.toks).s:=by refine T4 (F:=JJ F sc L) (T₁:=T) (T:=T₁.hp t T₁.s.toks) H hA (elt:=elt) (gs0:=g::gs) (sc:=sc) (pos:=pos) (d:=0) rfl (gk g (.head _) F.env).1 (λg' J=>(gk g' (.tail _<|List.mem_of_getElem? J) F.env).1) (λg' J x=>(gk g' (.tail _<|List.mem_of_getElem? J) _).2 x) ar ht inner C (λb hb=>(C.wr b hb).2) ⟨C.turns.frame 0 _ _ C.st0 λb _ o e=>hk b o e,λb hb=>⟨λq=>q.elim (λq=>(C.fp b hb).1<|.inl q) λq=>(u.faC S q).elim (λe=>a1<|e▸C.al 0 _ C.st0 b hb) λq=>(C.fp b hb).1<|.inr q,λ(e:b=D)=>v<|e▸C.al 0 _ C.st0 b hb⟩,λb hb=>(C.wr b hb).1,O.mono⟩ (.ofW (m.trans O).ext) am hr ap a2 (by rw[List.length_nil,Nat.zero_add];exact a3) λj x' m' i' Y=>?_;have bl:Ext T.M.W T j:=x'.weaken λa q=>q.elim (λq=>q.elim .inl λq=>.inr λz=>a1<|FS.comp S q▸m.ext.al _ z) λq=>.inr λz=>v<|(show a=D from q)▸m.ext.al _ z;obtain⟨us,e,rr⟩:=Y.at_;obtain⟨m',_,c0,_⟩:=i'.frm.has;have b3:=i'.ffa L<|.inl rfl;exact k _ _ j ⟨Inv.back i bl i',⟨D,us,rfl,λq=>v<|m.ext.al _ q,Y.f,λq=>q.elim (λq=>Y.w<|.inl q) λq=>v<|m.ext.al _<|i.faal q,e,rr,a3⟩,λq=>a1<|m.ext.al _ q,b3.1,b3.2,λe=>b4<|Value.ref.inj e,⟨m',c0⟩⟩
 unfold Fp at B;rw[show builtinsNs=F.env.builtins from i.frm.blt.symm] at B;exact T0 rfl (gk g (.head _) F.env).1 B<|C.self 0 _ _ _ (C.turns.frame 0 _ _ C.st0 λb _ o e=>hk b o e) B
end
section
variable{x:Str}{kindOf:Str->Option NameKind}
def b5{l:List (Str×NameKind)}:∀{n:Nat}{a:List (Str×Addr)},(a.lookup x).isSome=true->((cellsFrom n l a).lookup x).isSome=true:=by induction l with|nil=>exact λh=>h|cons p l c=>
 intro n a h;obtain⟨y,k⟩:=p;unfold cellsFrom;by_cases d:(k==NameKind.cell)=true;rw[A5 d];refine c ?_;rw[List.lookup_cons];cases x==y with|true=>rfl|false=>exact h
 rw[A1 d];exact c h
def T9{l:List (Str×NameKind)}:∀{n:Nat}{a:List (Str×Addr)},(x,NameKind.cell)∈l->((cellsFrom n l a).lookup x).isSome=true:=by induction l with|nil=>exact λh=>Ew h|cons p l c=>intro n a h;obtain⟨y,k⟩:=p;unfold cellsFrom;cases h with|head=>rw[A5<|beq_self_eq_true _];exact b5 (by rw[List.lookup_cons,beq_self_eq_true];rfl)|tail _ h=>by_cases d:(k==NameKind.cell)=true;rw[A5 d];exact c h;rw[A1 d];exact c h
def b6{binds:List (Str×Value)}:∀{m:Str->Option Value},(∀p∈binds,p.1≠x)->bindL kindOf binds m x=m x:=by induction binds with|nil=>exact λ_=>rfl|cons p r c=>intro m h;obtain⟨y,v⟩:=p;rw[bindL,c λp d=>h p<|.tail _ d];by_cases a:kindOf y=some .local;rw[A5 a];exact A1 λe=>h _ (.head _) e.symm;rw[A1 a]
def b7{binds:List (Str×Value)}:∀{m:Str->Option Value},(∀p∈binds,p.1≠x)->bindC kindOf binds m x=m x:=by induction binds with|nil=>exact λ_=>rfl|cons p r c=>intro m h;obtain⟨y,v⟩:=p;rw[bindC,c λp d=>h p<|.tail _ d];by_cases a:kindOf y=some .local;rw[A5 a];rw[A1 a];exact A1 λe=>h _ (.head _) e.symm
structure Bnd(I:Iota)(T:Sm)(kindOf:Str->Option NameKind)(b:List (Str×Value))(m cm:Str->Option Value)(x:Str)(v:V)(u:Value):Prop where
 rep:AE I T v u
 loc:kindOf x=some .local->bindL kindOf b m x=some u
 cel:kindOf x≠some .local->bindC kindOf b cm x=some u
def b8{I:Iota}{T:Sm}{v:V}{a:List Str}:∀{f:List V}{g:List Value}{m cm:Str->Option Value},a.Nodup->AC (AE I T) f g->AJ x (a.zip f)=some v->x∈a/\∃u,Bnd I T kindOf (a.zip g) m cm x v u:=by induction a with|nil=>exact λ_ _ e=>by exact Ae e|cons p a s=>intro f g m cm z r e;cases f with|nil=>exact Ae e|cons w f=>obtain⟨u,k,rfl,o,n⟩:=r;obtain⟨j,i⟩:=Bi.mp z;have e:(if x=p then some w else AJ x (a.zip f))=some v:=e;by_cases h:x=p;rw[A5 h] at e;obtain rfl:=Option.some.inj e;subst h;have c:∀q∈a.zip k,q.1≠x:=λq t e=>j<|e▸(List.of_mem_zip t).1;exact⟨.head _,u,o,λd=>by rw[List.zip_cons_cons,bindL,b6 c,A5 d];exact A5 rfl,λd=>by rw[List.zip_cons_cons,bindC,b7 c,A1 d];exact A5 rfl⟩;rw[A1 h] at e;obtain⟨A,l,q⟩:=s (m:=if kindOf p=some .local then λy=>if y=p then some u else m y else m) (cm:=if kindOf p=some .local then cm else λy=>if y=p then some u else cm y) i n e;exact⟨.tail _ A,l,q.rep,λd=>by rw[List.zip_cons_cons,bindL];exact q.loc d,λd=>by rw[List.zip_cons_cons,bindC];exact q.cel d⟩
end
noncomputable def Mm.shut(M:Mm):Mm:=⟨λa=>M.F a\/M.W a,[],[]⟩
section
variable{X:Cx}{F:Fx}{o:Ops}{n:Nat}{M K:St}{A:Around}{T G L:Sm}{Q E:Value->Shared->Prop}{J:List Cell}{u:Value}{v:V}{l:List V}{t:List Value}
def TA{f:V->Option D}{P:V->Value->Prop}{P':D->Value->Prop}(m:∀v d u,f v=some d->P v u->P' d u){l:List V}:∀{a:List D}{t:List Value},l.mapM f=some a->AC P l t->AC P' a t/\a.length=l.length:=by induction l with|nil=>intro a t e r;rw[List.mapM_nil] at e;obtain rfl:=Option.some.inj e;exact⟨r,rfl⟩|cons v l c=>intro a t e r;rw[List.mapM_cons] at e;obtain⟨u,g,rfl,i,h⟩:=r;refine bK e λd p e=>bK e λq hs e=>?_;obtain rfl:=Option.some.inj e;obtain⟨k,j⟩:=c hs h;exact⟨⟨u,g,rfl,m v d u p i,k⟩,A3 (·+1) j⟩
def TB(S:Mid X J T){n:Nat}:∀{v:V}{d:D}{u:Value},FN n J v=some d->AE X.I T v u->AZ X.I (T.mm T.M.shut) d u:=by
 have w:∀{d:D}{u:Value},AZ X.I T d u->AZ X.I (T.mm T.M.shut) d u:=λr=>AZ.monoF (T:=T) (T':=T.mm T.M.shut) ⟨λ_ f=>Or.inl f,λ_ _ _ e=>e⟩ r;induction n with
 |zero=>intro v d u e r;cases v with|d x=>obtain rfl:=Option.some.inj e;exact w r|_=>exact Ae e
 |succ n B=>have h:∀{s:String}{a:Addr}{l:List V}{t:List Value}{k:List D},T.M.F a\/T.M.W a->T.seq s a t->AC (AE X.I T) l t->l.length<=lim->l.mapM (FN n J)=some k->(T.mm T.M.shut).M.F a/\(T.mm T.M.shut).seq s a t/\k.length<=lim/\EB X.I (T.mm T.M.shut) k t:=λf o r z e=>have q:=TA (P':=AZ X.I<|T.mm T.M.shut) (λv d u=>B) e r;⟨f,o,q.2▸z,Gb.mpr q.1⟩;intro v d u e r;cases v with|d x=>obtain rfl:=Option.some.inj e;exact w r|tup l=>refine AE.tup_k (P:=λu=>AZ X.I (T.mm T.M.shut) d u) r λa t f o z r=>mK (C:=λd=>AZ X.I (T.mm T.M.shut) d<|.ref a) e λk m=>?_;exact⟨a,t,rfl,h (.inl f) o r z m⟩|loc j=>
  refine AE.loc_k (I:=X.I) (P:=λu=>AZ X.I (T.mm T.M.shut) d u) r λa p=>bK e λl i e=>mK (C:=λd=>AZ X.I (T.mm T.M.shut) d<|.ref a) e λk m=>?_;have H:T.M.F a\/T.M.W a:=by cases hc:J[j]? with|none=>rw[hc] at i;exact nK i|some c=>rw[hc] at i;cases c with|lst l=>exact S.cell_k p hc λg y q=>.inr (Mm.W_of y<|q.1▸Dq a)|froz l=>exact S.cell_k p hc λg y q=>by obtain⟨_,b,t,e,f,_⟩:=q;obtain rfl:=Value.ref.inj e;exact .inl f|_=>exact nK i
  exact OV S p i λt o r z=>⟨a,t,rfl,h H o r z m⟩
def b9(S:Mid X J G){r c:R}(e:IH J r=some c)(h:RC X T G r u):RC X T (G.mm G.M.shut) c u:=by cases r with|val v=>exact mK (C:=λc=>RC X T (G.mm G.M.shut) c u) e λd g=>TB S g h|fresh l=>refine mK (C:=λc=>RC X T (G.mm G.M.shut) c u) e λi g=>h.imp λa q=>q.imp λt q=>⟨q.1,?_⟩;have z:=TA (P':=AZ X.I<|G.mm G.M.shut) (λv d u=>TB S) g q.2.rep;exact⟨q.2.new,λf=>f.elim q.2.nf q.2.nw,λh=>Ew h,q.2.obj,AC.map.mpr z.1,by rw[A4,z.2];exact q.2.len⟩
noncomputable def Oo(f:Fn)(a:FuncData)(s:Shared)(c:Addr):Fx:=⟨f,callEnvC a s.heap.objs.size c⟩
def bA{f:Fn}{r:Addr}{fo:Obj}{p:FuncData}{O:List V}{C:Shared}(z:FnAt T.s.heap r f fo p)(m:Mid X J T)(hr:AC (AE X.I T) O t) (H:InCallC T.s (callEnvC p T.s.heap.objs.size r).locals (bindL (callEnvC p T.s.heap.objs.size r).kindOf (f.params.zip t) λ_=>none) (callEnvC p T.s.heap.objs.size r).cells (bindC (callEnvC p T.s.heap.objs.size r).kindOf (f.params.zip t) λ_=>none) C):∃k,k.s=C/\Inv X (Oo f p T.s r) ⟨f.params.zip O,J⟩ k/\Ext T.M.W T k/\(∀a,FA (Oo f p T.s r).env a->¬Al T.s.heap a):=by
 obtain⟨Z,S,rfl,N⟩:=H.done;have g:∀x,(callEnvC p T.s.heap.objs.size r).kindOf x=f.names.lookup x:=λx=>A3 (List.lookup x) z.names;have i:∀a,FA (callEnvC p T.s.heap.objs.size r) a->¬Al T.s.heap a:=λa h q=>h.elim (λh=>Nat.lt_irrefl T.s.heap.objs.size<|(show a=T.s.heap.objs.size from h)▸q.lt) λw=>w.elim λx h=>Nat.lt_irrefl _<|AM q.lt<|H.above x a<|mem_of_lookup h;have j:∀x,f.names.lookup x≠some .free:=λx e=>by cases List.all_eq_true.mp z.free _ (Gh e)
 have mo:Mono T<|T.hp Z S:=⟨λ_ f=>f,λb o _=>N b o,CG _⟩;refine⟨T.hp Z S,rfl,⟨m.hp λb o _=>N b o,λa h=>⟨λq=>i a h<|m.fal a q,λq=>i a h<|m.wal q⟩,{kind:=z.kind,dbg:=z.dbg,loc:=λx d=>(g x).trans d,cel:=λx d=>(g x).trans d,fre:=λx d=>absurd d<|j x,glo:=λx d=>(g x).trans d,glb:=z.glb,blt:=z.blt,cells:=λx d=>?_,apart:=λx y c d hy=>name_of_addr H.apart (mem_of_lookup d)<|mem_of_lookup hy,above:=λx c d=>Nat.ne_of_gt<|H.above x c<|mem_of_lookup d,has:=⟨_,_,H.toInCall.ns,H.cell,λx v d=>?_⟩}⟩,.hp _ (λb o _=>N b o) λb _ q=>q.imp λo=>N b o,i⟩;refine d.elim (λd=>?_) λd=>absurd ((g x).symm.trans d)<|j x;exact Option.isSome_iff_exists.mp<|T9<|z.names▸Gh ((g x).symm.trans d);obtain⟨hm,u,B⟩:=b8 (kindOf:=(callEnvC p T.s.heap.objs.size r).kindOf) (m:=λ_=>none) (cm:=λ_=>none) z.pnod hr d;refine⟨u,B.rep.mono mo,(Bool.or_eq_true_iff.mp<|List.all_eq_true.mp z.kinds x hm).imp (λh=>?_) λh=>?_⟩;exact⟨(g x).trans<|eq_of_beq h,B.loc<|(g x).trans<|eq_of_beq h⟩;have Y:=(g x).trans<|eq_of_beq h;exact⟨.inl Y,B.cel<|by rw[Y];intro h;exact NameKind.noConfusion<|Option.some.inj h⟩
theorem AW.deeper{a:Env}(h:AW A<|n+1):AW (A.deeper a) n:=⟨h.h,by have:=h.d;show A.depth+1+n<_;rw[DB];exact this,AO (Ds (by show A.units+3+8*n<=A.units+8*(n+1);rw[Bv,Nat.mul_succ,C7 3];exact BW (BW (by decide) _) _) 300) h.u⟩
def TC(H:Snd X o n)(HT:Top X){f:Fn}{O:Addr}{fo:Obj}{y:FuncData}{C:List V}{p:Fl×St}{R:Result->Shared->Prop}(hA:AW A<|n+1)(hl:C.length=f.params.length)(he:o.ex f f.body ⟨f.params.zip C,J⟩=some p)(c:FnAt T.s.heap O f fo y)(m:Mid X J T)(Z:AC (AE X.I T) C t) (k:∀u G,AftC X T p.2.store G->RC X T G (M9 p.1) u->R (.ok<|.ret u) G.s):codeAny (model X.prog X.w) A (.call (.ref O) ⟨t,[]⟩) R T.s:=by
 have e:∀x∈f.params.zip t,y.scope.names.lookup x.1=some .local\/(y.scope.names.lookup x.1=some .cell/\((cellsFrom (T.s.heap.objs.size+1) y.scope.names []).lookup x.1).isSome=true):=λx hx=>by rw[c.names];exact(Bool.or_eq_true_iff.mp<|List.all_eq_true.mp c.kinds x.1 (List.of_mem_zip hx).1).imp eq_of_beq λh=>⟨eq_of_beq h,T9<|Gh<|eq_of_beq h⟩
 refine codeAny_call_cells (AO (BA _ _) hA.d) c.at_ c.dat (HT.nolim.keeps m.top) c.code c.body (c.bind t<|Z.length.trans hl) c.clo e (λY hi=>?_) c.co c.gen c.kind;obtain⟨B,rfl,i,x,g⟩:=bA c m Z hi;refine H.ex hA.deeper he i λfl G a j=>?_;have S:AftC X T p.2.store G:=⟨x.trans a.ext λb q=>q.elim (x.wnew b) λq=>.inr<|g b q.fa,a.inv.mid⟩;have rc:∀{r u},RR X (Oo f y T.s O) B G r u->RC X T G r u:=λ{r u} h=>by cases r with|val v=>exact h|fresh l=>exact h.imp λb q=>q.imp λt q=>⟨q.1,λz=>q.2.new<|x.al b z,q.2.nf,λz=>q.2.nw<|.inl z,q.2.obj,q.2.rep,q.2.len⟩
 obtain⟨N,K⟩:=p;cases N with|next=>subst j;exact k _ G S rfl|ret r=>obtain⟨u,rfl,h⟩:=j;exact k _ G S<|rc h
def bB(H:Snd X o n)(HT:Top X){f:Fn}{i:Addr}{Y:Obj}{Z:FuncData}{r:List V}{p:R×List Cell}{Q:Result->Shared->Prop}(B:AW A<|n+1)(c:S6 o f r J=some p)(z:FnAt T.s.heap i f Y Z)(m:Mid X J T)(x:AC (AE X.I T) r t)(k:KC X T Q p):codeAny (model X.prog X.w) A (.call (.ref i) ⟨t,[]⟩) Q T.s:=pK c λy c=>cK c (λ_ c=>mQ c k λq g k=>TC H HT B y g z m x k) λ_ c=>iK c λO c=>Ge (C:=λJ=>Mid X J T->codeAny (model X.prog X.w) A (.call (.ref i) ⟨t,[]⟩) Q T.s) O (λm=>bK c λq g c=>mQ c k λr' e k=>TC H HT B y g z m x λu G a N=>by have S:T.M.gp=[]:=List.length_eq_zero_iff.mp m.lg;have j:T.M.ad=[]:=List.length_eq_zero_iff.mp m.la;have d:=a.ext;exact k u (G.mm G.M.shut) ⟨⟨d.sh,d.keep,d.al,λb q=>.inl<|d.F b q,λb q=>q.elim (d.fnew b) λq=>.inr<|d.wnew b q,λ_ h=>Ew h,by rw[j];exact CG _⟩,a.mid.top,λb q=>.inl<|a.mid.base b q,λb q=>q.elim (a.mid.fal b) a.mid.wal,λb _ h=>Ew h,rfl,rfl,List.nodup_nil,λ_ _ h=>by exact Ae h⟩<|b9 a.mid e N) m
end
structure ClsG(X:Cx)(K:Frag):Prop where
 inB:K.In X.hB
 nm:X.mg X.G.cls=some (.ref X.C)
 keep:keepIn K (.ref X.C)=true
 ga:findIn K (.ref X.C) "__getattribute__" = some (some (.builtin "object.__getattribute__"))
 gn:findIn K (.ref X.C) "__getattr__" = some none
 sa:findIn K (.ref X.C) "__setattr__" = some (some (.builtin "object.__setattr__"))
 po:plainOver K X.C=true
 hd:hasDictIn K X.C=true
 mks:makesIn K X.C=true
 fld:∀a∈X.G.flds,findIn K (.ref X.C) a=some none
 ini:∃fI o fd,findIn K (.ref X.C) "__init__" = some (some (.ref fI))/\typeIn K (.ref fI)=some (.type "function")/\FnAt X.hB fI X.G.init o fd
 mth:∀m f,AJ m X.G.meths=some f->∃a o fd,findIn K (.ref X.C) m=some (some (.ref a))/\typeIn K (.ref a)=some (.type "function")/\FnAt X.hB a f o fd/\m∉X.G.flds
 fin:∀x f,AJ x X.G.fns=some f->x≠X.G.cls
theorem FnAt.keeps{h d:Heap}{a:Addr}{f:Fn}{o:Obj}{e:FuncData}(x:FnAt h a f o e)(c:∀b o,h.get? b=some o->d.get? b=some o):FnAt d a f o e:={x with at_:=c _ _ x.at_,code:=x.code.keeps c}
section
variable{P:Params}{I:Iota}{T:Sm}{x:Str}{c:List (Str×V)}{v:V}{u:Value}
def Op{y:Str}{t:Tok}(h:¬x=y):(Value.str y t).isStr x=false:=beq_eq_false_iff_ne.mpr λe=>h e.symm
def Dv.look:∀{d:List DictEntry},Dv P I T c d->AJ x c=some v->∃e,d.find? (·.key.isStr x)=some e/\AE I T v e.val:=by induction c with|nil=>exact λ_ h=>by exact Ae h|cons p c i=>intro d r h;obtain⟨t,u,j,rfl,g,f⟩:=r;have h:(if x=p.1 then some p.2 else AJ x c)=some v:=h;rw[List.find?_cons];by_cases a:x=p.1;rw[A5 a] at h;obtain rfl:=Option.some.inj h;rw[show(Value.str p.1 t).isStr x=true from a▸beq_self_eq_true x];exact⟨_,rfl,g⟩;rw[A1 a] at h;rw[Op a];exact i f h
def Dv.miss:∀{a:List DictEntry},Dv P I T c a->AJ x c=.none->a.find? (·.key.isStr x)=.none:=by induction c with|nil=>intro a r _;subst r;rfl|cons p c f=>intro a r h;obtain⟨t,u,g,rfl,i,e⟩:=r;have h:(if x=p.1 then some p.2 else AJ x c)=.none:=h;rw[List.find?_cons];by_cases d:x=p.1;rw[A5 d] at h;exact FO h;rw[A1 d] at h;rw[Op d];exact f e h
def Dv.norefs:∀{a:List DictEntry},Dv P I T c a->a.any (·.refKey)=false:=by induction c with|nil=>intro a r;subst r;rfl|cons p c e=>intro a r;obtain⟨t,u,f,rfl,g,d⟩:=r;exact(Bool.false_or _).trans<|e d
def Dv.put{t:Tok}(h:AE I T v u):∀{d:List DictEntry},Dv P I T c d->Dv P I T (AS x v c) (putL x (PyData.keyHash P x) (.str x t) u d):=by induction c with|nil=>intro d r;subst r;exact⟨t,u,[],rfl,h,rfl⟩|cons p c k=>intro d r;obtain⟨e,i,f,rfl,j,g⟩:=r;show Dv P I T (if x=p.1 then(x,v)::c else p::AS x v c) _;unfold putL;by_cases a:x=p.1;rw[A5 a,show(Value.str p.1 e).isStr x=true from a▸beq_self_eq_true x];rw[<-a];exact⟨e,u,f,rfl,h,g⟩;rw[A1 a,Op a];exact⟨e,i,_,rfl,j,k g⟩
def Dv.len:∀{a:List DictEntry},Dv P I T c a->a.length=c.length:=by induction c with|nil=>intro a r;subst r;rfl|cons p c e=>intro a r;obtain⟨t,u,f,rfl,g,d⟩:=r;exact A3 (·+1)<|e d
def bC{a:Type}{v:a}(l:List<|Str×a):(AS x v l).length<=l.length+1:=by induction l with|nil=>exact Au _|cons p l d=>show(if x=p.1 then(x,v)::l else p::AS x v l).length<=_;by_cases h:x=p.1;rw[A5 h];exact Nat.le_succ _;rw[A1 h];exact CV d
def bD{d:Type}{v:d}{l:List (Str×d)}(h:(l.map (·.1)).Nodup):((AS x v l).map (·.1)).Nodup/\∀y∈(AS x v l).map (·.1),y=x\/y∈l.map (·.1):=by induction l with|nil=>exact⟨Bi.mpr ⟨Ax,List.nodup_nil⟩,λy m=>.inl<|Ao.mp m⟩|cons p l j=>obtain⟨i,g⟩:=Bi.mp h;obtain⟨k,f⟩:=j g;rw[show AS x v (p::l)=if x=p.1 then(x,v)::l else p::AS x v l from rfl];by_cases e:x=p.1;rw[A5 e];exact⟨Bi.mpr ⟨e▸i,g⟩,λz a=>(An.mp a).imp id<|.tail _⟩;rw[A1 e];exact⟨Bi.mpr ⟨λq=>(f _ q).elim (λq=>e q.symm) i,k⟩,λz a=>(An.mp a).elim (λq=>.inr<|q▸.head _) λq=>(f z q).imp id<|.tail _⟩
def bE(r:AE I T v u):handedIn u=true:=by cases v with|loc k=>obtain⟨a,_,rfl⟩:=r;rfl|tup l=>obtain⟨a,_,rfl,_⟩:=r;rfl|d x=>cases x with|none=>subst r;rfl|bool _=>subst r;rfl|int _=>obtain⟨t,rfl⟩:=r;rfl|key _=>obtain⟨t,rfl⟩:=r;rfl|str _=>obtain⟨t,rfl,_⟩:=r;rfl|tup _=>obtain⟨a,_,rfl,_⟩:=r;rfl|lst _=>obtain⟨a,_,rfl,_⟩:=r;rfl
end
section
variable{X:Cx}{K:Frag}{F:Fx}{o:Ops}{n:Nat}{r z:St}{A:Around}{T G B:Sm}{Q E:Value->Shared->Prop}{y:Unit->Shared->Prop}{w:List Cell}{u p:Value}{v:V}{l:List V}{C:List Value}{j:Nat}{a:Addr}{d:List (Str×V)}{m:Str}{P:Prop}
def InsAt.lib{e:Addr}{c:List DictEntry}{k:Nat}(I:InsAt X T a e d c k):InstAt T.s.heap a (instObj X.C e) X.C<|some<|dictOf c k:=⟨I.obj,rfl,rfl,I.dict⟩
def Oq(i:Mid X w T)(t:T.M.ad[j]?=some a)(h:IK w[j]?=some d)(k:∀e f k,T.M.gp[j]?=some [a,e]->InsAt X T a e d f k->P):P:=by cases hc:w[j]? with|none=>rw[hc] at h;exact nK h|some c=>rw[hc] at h;cases c with|inst d=>obtain rfl:=Option.some.inj h;exact i.cell_k t hc λg s q=>q.elim λe q=>q.elim λf q=>q.elim λn q=>k e f n (q.1▸s) q.2|_=>exact nK h
def bF(Y:ClsG X K){f:Bool}(i:Inv X F r T)(H:T.M.ad[j]?=some a)(x:IK r.store[j]?=some d)(t:X.G.flds.contains m=true)(q:AJ m d=some v)(k:KR X F T Q (.val v,r)):WP X A (getAttr (.ref a) m f) Q E T:=
 Oq i.mid H x λL J c _ I=>by
  obtain⟨e,h,g⟩:=I.rep.look q;have s:lookIn m (dictOf J c)=some (some e.val):=by rw[lookIn_dict];unfold getL;rw[h]
  exact get_value (Y.inB.keeps i.mid.top) I.lib Y.ga (findObj_own Y.hd (Y.fld m<|Dp.mp t) rfl s) (bE g)<|k _ _ (.tok i _)<|g.mono (AL.tok i _).mono
def bG(Y:ClsG X K)(i:Inv X F r T)(ha:T.M.ad[j]?=some a)(hc:IK r.store[j]?=some d)(hf:X.G.flds.contains m=true)(h8:d.length<8)(hv:AE X.I T v p)(k:KU X F T y<|r.put j<|.inst<|AS m v d):WP X A (setAttr (.ref a) m p) y E T:=
 Oq i.mid ha hc λg N c J I=>by
  have Xi:K.In T.s.heap:=Y.inB.keeps i.mid.top;have ht:takerIn K X.C m=some none:=by unfold takerIn;rw[Y.fld m<|Dp.mp hf];rfl
  refine set_plain Xi I.lib Y.sa<|osa_open (s:={T.s with toks:=T.s.toks+1}) Xi I.lib Y.po ht λb=>?_;obtain⟨cd,Z,S⟩:=any_some Y.hd;have Xj:Frag.In K ({T.s with toks:=T.s.toks+1}:Shared).heap:=Xi;refine A7<|AR<|A7<|A7<|wpAny_loadPart I.obj<|A7<|(looks_clsIn Xj Z).here ?_;rw[S];refine AR (a:=some g)<|A7<|AR<|A7 ?_;unfold nsSet;refine A7<|A7<|wpAny_askSetting<|AR<|A7<|wpAny_mkText<|A7<|wpAny_loadPart I.dict ?_;dsimp only [dictOf];rw[aRefKeyMayBeTheName_at,show(!N.toArray.any (·.key.isStr m)&&N.toArray.any (·.refKey))=false by have:=I.rep.norefs;simp [this]];refine wpAny_updatePart I.dict ?_;have D':(T.s.heap.update g<|Obj.putName m (PyData.keyHash X.w.params m) (.str m<|T.s.toks+1) p).get? g=some (dictOf (putL m (PyData.keyHash X.w.params m) (.str m<|T.s.toks+1) p N)<|putN m N c):=by rw[<-putName_dict];exact Heap.get?_update_self _ I.dict<|by rw[putName_dict];rfl
  have rp:=I.rep.put (t:=T.s.toks+1) (x:=m) hv;have H:(AS m v d).length<=8:=AB (bC d) h8;refine A7 (wpAny_lookBehind D' (pastItsLine_dict<|by rw[List.size_toArray,rp.len];exact AB H<|by decide)<|AR ?_);have O:a≠g:=λe=>by cases (e▸I.obj).symm.trans I.dict
  have hk:∀b o,b∉[a,g]->T.s.heap.get? b=some o->(T.s.heap.update g<|Obj.putName m (PyData.keyHash X.w.params m) (.str m<|T.s.toks+1) p).get? b=some o:=λb o L e=>(Heap.get?_update_ne _ _ _ _ λq:b=g=>L<|by rw[q];exact Ah _<|Dq g).trans e;have h:(T.s.heap.update g<|Obj.putName m (PyData.keyHash X.w.params m) (.str m<|T.s.toks+1) p).get? a=some (instObj X.C g):=(Heap.get?_update_ne _ _ _ _ O).trans I.obj;have mo:Mono T<|T.hp (T.s.heap.update g<|Obj.putName m (PyData.keyHash X.w.params m) (.str m<|T.s.toks+1) p)<|T.s.toks+1+1:=⟨λ_ f=>f,λb o f=>hk b o λq=>i.mid.fw b f<|Mm.W_of J q,CG _⟩;exact k _ (AL.upd (c:=.inst<|AS m v d) i J ha hk (λb L=>(An.mp L).elim (λe=>by rw[e];exact⟨_,h⟩) λL=>by rw[Ao.mp L];exact⟨_,D'⟩) ⟨g,_,_,rfl,h,D',rp.mono mo,(bD I.nod).1,H⟩).s
end
section
variable{I:Iota}{T:Sm}{b:Bool}{k:Int}{v:V}{u:Value}{a:List (Int×V)}
def Bf.set(m:AE I T v u):∀{c:List (Int×Value)},Bf I T b a c->(c.map (·.1)).Nodup->Bf I T b (BX k v a) (stored c (I.f b k) u):=by induction a with|nil=>intro c r _;subst r;exact⟨u,[],rfl,m,rfl⟩|cons p a s=>
 intro c r w;obtain⟨x,d,rfl,o,l⟩:=r;obtain⟨z,y⟩:=Bi.mp w;show Bf I T b (if k=p.1 then(k,v)::a else p::BX k v a) _;by_cases i:k=p.1;rw[A5 i,<-i];have h:d.map (λg=>if g.1=I.f b k then(g.1,u) else g)=d:=(List.map_congr_left λq t=>A1 λe=>z<|by rw[<-i,<-e];exact B9.mpr ⟨q,t,rfl⟩).trans<|List.map_id d;have:stored ((I.f b k,x)::d) (I.f b k) u=(I.f b k,u)::d:=by unfold stored;rw[List.any_cons,Ac rfl,Bool.true_or,A5 rfl,List.map_cons,A5 rfl,h]
 rw[this];exact⟨u,d,rfl,m,l⟩;rw[A1 i];have n:¬I.f b p.1=I.f b k:=λe=>i (Iota.inj e).symm;have:stored ((I.f b p.1,x)::d) (I.f b k) u=(I.f b p.1,x)::stored d (I.f b k) u:=by unfold stored;rw[List.any_cons,decide_eq_false n,Bool.false_or,List.map_cons,A1 n];by_cases j:d.any (λg=>decide (g.1=I.f b k))=true;rw[A5 j,A5 j];rw[A1 j,A1 j];rfl
 rw[this];exact⟨x,_,rfl,o,s l y⟩
def Bf.del:∀{c:List (Int×Value)},Bf I T b a c->(c.map (·.1)).Nodup->Bf I T b (Cd k a) (without c<|I.f b k):=by induction a with|nil=>intro c r _;subst r;exact rfl|cons p a m=>intro c r n;obtain⟨x,i,rfl,l,j⟩:=r;obtain⟨q,o⟩:=Bi.mp n;show Bf I T b (if k=p.1 then a else p::Cd k a) _;unfold without;by_cases g:k=p.1;rw[A5 g,<-g,List.filter_cons_of_neg (p:=λd:Int×Value=>decide (d.1≠I.f b k))<|mt D2 λh=>h rfl];rw[show i.filter (λd=>decide (d.1≠I.f b k))=i from without_of_not_mem i _<|g▸q];exact j;rw[A1 g,List.filter_cons_of_pos (p:=λd:Int×Value=>decide (d.1≠I.f b k))<|Ac λe=>g (Iota.inj e).symm];exact⟨x,_,rfl,l,m j o⟩
end
def Os{a:Type}{k:Int}{v:a}(l:List<|Int×a):(BX k v l).length<=l.length+1:=by induction l with|nil=>exact Au _|cons p l c=>show(if k=p.1 then(k,v)::l else p::BX k v l).length<=_;by_cases h:k=p.1;rw[A5 h];exact Nat.le_succ _;rw[A1 h];exact CV c
def TD{a:Type}{k:Int}(l:List<|Int×a):(Cd k l).length<=l.length:=by induction l with|nil=>exact Au _|cons p l c=>show(if k=p.1 then l else p::Cd k l).length<=_;by_cases h:k=p.1;rw[A5 h];exact Nat.le_succ _;rw[A1 h];exact CV c
def TE{a:Type}{k:Int}{l:List (Int×a)}(h:AX k l=.none):Cd k l=l:=by induction l with|nil=>rfl|cons p l c=>have h:(if k=p.1 then some p.2 else AX k l)=.none:=h;by_cases e:k=p.1;rw[A5 e] at h;exact FO h;rw[A1 e] at h;show(if k=p.1 then l else p::Cd k l)=_;rw[A1 e,c h]
section
variable{X:Cx}{F:Fx}{o:Ops}{n:Nat}{s N:St}{A:Around}{T S O:Sm}{Q E:Value->Shared->Prop}{Y:Unit->Shared->Prop}{M:List Cell}{u H:Value}{v:V}{l:List V}{us us':List Value}{j c tk:Nat}{a:Addr}{m:Str}{P:Prop}{b:Bool}{G K:List (Int×V)}{B J:List (Int×Value)}{p:R×List Cell}
structure LstAt(X:Cx)(T:Sm)(j:Nat)(a:Addr)(l:List V)(us:List Value)(c:Nat):Prop where
 ad:T.M.ad[j]?=some a
 gp:T.M.gp[j]?=some [a]
 obj:T.s.heap.get? a=some (seqObj "list" (List.toArray us) c)
 rep:AC (AE X.I T) l us
 len:l.length<=lim
def MQ(i:Mid X M T)(d:T.M.ad[j]?=some a)(h:M[j]?=some (.lst l))(k:∀us c,LstAt X T j a l us c->P):P:=i.cell_k d h λg e q=>q.2.elim λus w=>w.1.elim λc o=>k us c ⟨d,q.1▸e,o,w.2.1,w.2.2⟩
theorem LstAt.lim(L:LstAt X T j a l us c):us.toArray.size<=sizeLine:=L.rep.lim L.len
def Ot(i:Mid X M T)(e:T.M.ad[j]?=some a)(h:M[j]?=some (.dct b G))(k:∀B,DctAt X T j a b G B->T.M.gp[j]?=some [a]->P):P:=i.cell_k e h λg d q=>q.2.elim λB w=>k B ⟨e,.inl<|q.1▸d,w.1,w.2.1,w.2.2⟩<|q.1▸d
def DctAt.nod(D:DctAt X T j a b G B):(B.map (·.1)).Nodup:=D.obj.elim λ_ q=>q.elim λ_ q=>q.elim λ_ q=>q.2.2.2.2.2
def IQ(i:Inv X F s T)(L:LstAt X T j a l us c)(f:Array Value->Array Value)(w:f us.toArray=us'.toArray){l':List V}(r:AC (AE X.I T) l' us')(t:l'.length<=lim):AL X F T (s.put j<|.lst l')<|T.hp (T.s.heap.update a<|Obj.mapSeq f) tk:=by have q:=PySem.IsL.update (h:=T.s.heap) (l:=a) (items:=us.toArray) (n:=c) L.obj f;rw[w] at q;have g:∀b o,b∉[a]->T.s.heap.get? b=some o->(T.s.heap.update a<|Obj.mapSeq f).get? b=some o:=λb o d e=>(Heap.get?_update_ne _ _ _ _ λz:b=a=>d<|by rw[z];exact Dq a).trans e;have k:Mono T<|T.hp (T.s.heap.update a<|Obj.mapSeq f) tk:=⟨λ_ f=>f,λb o f=>g b o λz=>i.mid.fw b f<|Mm.W_of L.gp z,CG _⟩;exact AL.upd (c:=.lst l') i L.gp L.ad g (λb d=>by rw[Ao.mp d];exact⟨_,q⟩) ⟨rfl,us',⟨_,q⟩,r.mono k,t⟩
def Ou{h:Heap}(i:Inv X F s T)(D:DctAt X T j a b G B)(t:T.M.gp[j]?=some [a])(x:h.DictOf (intKind X.prog X.w) a J)(d:Heap.SameBut a T.s.heap h){k:Bool}(C:Bf X.I T k K J)(L:K.length<=lim):AL X F T (s.put j<|.dct k K)<|T.hp h tk:=by have r:∀b o,b∉[a]->T.s.heap.get? b=some o->h.get? b=some o:=λb o g e=>(d.2 b λz=>g<|by rw[z];exact Dq a).trans e;have y:Mono T<|T.hp h tk:=⟨λ_ f=>f,λb o f=>r b o λz=>i.mid.fw b f<|Mm.W_of t z,CG _⟩;exact AL.upd (c:=.dct k K) i t D.ad r (λb g=>by rw[Ao.mp g];exact x.imp λo q=>q.elim λ_ q=>q.elim λ_ q=>q.1) ⟨rfl,J,x,C.mono y,L⟩
def TF{j:Int}(d:0<=j)(h:j<2^62):Builtin.List.listFitsIndex j=true:=fitsIndex_of d<|Int.lt_trans h<|by decide
structure MethAt(X:Cx)(A:Around)(Q E:Value->Shared->Prop)(T:Sm)(ty:String)(m:Str)(u:Value)(us:List Value)(id:String):Prop where
 slot:Slot ty m id
 desc:typeOf (.builtin id)=pure (.type "method_descriptor")
 wp:WP X A (call (.builtin id) (u::us)) Q E T
def bH(i:Inv X F s T)(L:LstAt X T j a l us c)(f:AE X.I T v u)(d:Rb s.store j l v=some p)(k:KR X F T Q (p.1,s.sto p.2)):WP X A (call (.builtin "list.append") [.ref a,u]) Q E T:=pK d λg d=>by have k:=sQ (C:=λp:R×List Cell=>KR X F T Q (p.1,s.sto p.2)) d k;have x:=IQ (tk:=T.s.toks) i L (us':=us++[u]) (λe=>e.push u) (List.push_toArray _ _) (L.rep.append<|.one f) (by rw[A9];exact g);exact call_meets PySem.F.slot_list_append ⟨_,L.obj,rfl⟩ PySem.F.entry_list_append (PySem.F.args_list_append_2 _ _) (PySem.list_append a us.toArray c u L.lim) ⟨L.obj,k _ _ x rfl⟩
def bI(us:List Value)(u:Value){i:Int}(d:0<=i):(have k:=if i<0 then(i+(us.toArray.size:Int)).toNat else min i.toNat us.toArray.size;(us.toArray.extract 0 k).push u++us.toArray.extract k)=(us.take (min i.toNat us.length)++u::us.drop (min i.toNat us.length)).toArray:=by rw[A1<|Int.not_lt.mpr d];apply Array.toList_inj.mp;simp;rw[List.take_of_length_le<|by simp]
def bJ{q:V×V}(i:Inv X F s T)(L:LstAt X T j a l us c)(hi:AE X.I T q.1 u)(hv:AE X.I T q.2 H)(g:Rc s.store j l q=some p)(k:KR X F T Q (p.1,s.sto p.2)):WP X A (call (.builtin "list.insert") [.ref a,u,H]) Q E T:=
 bK g λx y g=>iK g λd g=>bK y λz hz y=>JB (P:=λv=>AE X.I T v u->WP X A (call (.builtin "list.insert") [.ref a,u,H]) Q E T) hz (λhi=>AZ.num_k (P:=λu=>WP X A (call (.builtin "list.insert") [.ref a,u,H]) Q E T) hi λt=>Gd (P:=λz=>WP X A (call (.builtin "list.insert") [.ref a,.int (X.I.f z.1 z.2) t,H]) Q E T) y (Aq d λd Z=>Aq d λr hs=>by
  have r:=Bn r;have Z:=Bn Z;have k:=sQ (C:=λp:R×List Cell=>KR X F T Q (p.1,s.sto p.2)) g k;have e:¬(!Builtin.List.listFitsIndex x)=true:=by rw[TF r<|Int.lt_of_le_of_lt (Int.natAbs_of_nonneg r▸Int.ofNat_le.mpr (Bn hs))<|by decide];intro h;exact Bw h
  have x1:=IQ (tk:=T.s.toks) i L (us':=us.take (min x.toNat us.length)++H::us.drop (min x.toNat us.length)) (λw=>have k:=if x<0 then(x+(w.size:Int)).toNat else min x.toNat w.size;(w.extract 0 k).push H++w.extract k) (bI us H r) (l':=II l (min x.toNat l.length) q.2) (by rw[II,<-L.rep.length];exact(L.rep.take _).append<|.cons hv<|L.rep.drop _) (by rw[II,A9,CK,<-Bv,<-A9,List.take_append_drop];exact Z);exact call_meets PySem.F.slot_list_insert ⟨_,L.obj,rfl⟩ PySem.F.entry_list_insert (PySem.F.args_list_insert_3 _ _ _) (PySem.AutoSeq1.list_insert_list_int_val_1 a us.toArray c x t H e L.lim) ⟨L.obj,k _ _ x1 rfl⟩)) hi
def bL(i:Inv X F s T)(L:LstAt X T j a l us c)(w:AE X.I T v u)(q:Rd s.store j l v=some p)(k:KR X F T Q (p.1,s.sto p.2)):WP X A (call (.builtin "list.extend") [.ref a,u]) Q E T:=
 bK q λd hd q=>bK q λe hl q=>iK q λy q=>OS (P:=λv=>AE X.I T v u->WP X A (call (.builtin "list.extend") [.ref a,u]) Q E T) hd (λw=>AE.loc_k (I:=X.I) (P:=λu=>WP X A (call (.builtin "list.extend") [.ref a,u]) Q E T) w λb hb=>OV i.mid hb hl λf ⟨t,r⟩ g z=>Aq y λ_ hz=>by
  have k:=sQ (C:=λp:R×List Cell=>KR X F T Q (p.1,s.sto p.2)) q k;have h:(l++e).length<=lim:=by rw[A9];exact Bn hz
  have x:=IQ (tk:=T.s.toks) i L (us':=us++f) (λZ=>Z++f.toArray) (List.append_toArray _ _) (L.rep.append g) h;refine call_meets PySem.F.slot_list_extend ⟨_,L.obj,rfl⟩ PySem.F.entry_list_extend (PySem.F.args_list_extend_2 _ _) (PySem.AutoSeq1.list_extend_list_list_0 a us.toArray c b f.toArray t ?_ L.lim<|by rw[<-Array.size_append,List.append_toArray];exact Nat.le_succ_of_le<|(L.rep.append g).lim h) ⟨L.obj,r,k _ _ x rfl⟩;have h2:(us.length+f.length:Nat)<=lim:=by rw[<-A9,(L.rep.append g).length];exact h
  have:=JF;simp only [List.size_toArray,Bool.and_eq_true,not_and,Builtin.List.listTooLong];intro _;simp only [decide_eq_true_eq];first|exact Nat.not_lt.mpr (AB h2 JF)|omega) w
def Ov{us:List Value}{i:Nat}(h:i<us.length):us.toArray.eraseIdxIfInBounds i=(us.eraseIdx i).toArray:=by apply Array.toList_inj.mp;simp [Array.eraseIdxIfInBounds,h]
def bM(i:Inv X F s T)(L:LstAt X T j a l us c)(w:Re s.store j l=some p)(k:KR X F T Q (p.1,s.sto p.2)):WP X A (call (.builtin "list.pop") [.ref a]) Q E T:=mQ (C:=λp:R×List Cell=>KR X F T Q (p.1,s.sto p.2)) w k λy t k=>by have e:l[l.length-1]?=some y:=List.getLast?_eq_getElem?▸t;have f:=(List.getElem?_eq_some_iff.mp e).1;obtain⟨q,g,r⟩:=L.rep.get e;have d:=L.rep.length;rw[<-d] at g f;have x:=IQ (tk:=T.s.toks) i L (us':=us.eraseIdx<|us.length-1) (λh=>h.eraseIdxIfInBounds<|us.toArray.size-1) (Ov f) (l':=l.dropLast) (by rw[<-List.eraseIdx_length_sub_one,<-d];exact L.rep.erase _)<|AB (List.length_dropLast▸Nat.sub_le _ _) L.len;exact call_meets PySem.F.slot_list_pop ⟨_,L.obj,rfl⟩ PySem.F.entry_list_pop (PySem.F.args_list_pop_1 _) (PySem.MeetsSeq.list_pop_last a us.toArray c q (List.getElem?_toArray.trans g) L.lim) ⟨L.obj,k _ _ x<|r.mono x.mono⟩
def bN(i:Inv X F s T)(L:LstAt X T j a l us c)(q:AE X.I T v u)(e:Rf s.store j l v=some p)(k:KR X F T Q (p.1,s.sto p.2)):WP X A (call (.builtin "list.pop") [.ref a,u]) Q E T:=bK e λx h e=>pK e λh0 e=>bK h λz hz h=>JB (P:=λv=>AE X.I T v u->WP X A (call (.builtin "list.pop") [.ref a,u]) Q E T) hz (λq=>AZ.num_k (P:=λu=>WP X A (call (.builtin "list.pop") [.ref a,u]) Q E T) q λt=>Gd (P:=λz=>WP X A (call (.builtin "list.pop") [.ref a,.int (X.I.f z.1 z.2) t]) Q E T) h<|by subst h0;cases l with|nil=>exact nK e|cons y l=>have k:=sQ (C:=λp:R×List Cell=>KR X F T Q (p.1,s.sto p.2)) e k;obtain⟨g,d,rfl,Z,w⟩:=L.rep;have x:=IQ (tk:=T.s.toks) i L (us':=d) (λr=>r.eraseIdxIfInBounds 0) (Ov (us:=g::d)<|Nat.succ_pos _) w<|Nat.le_of_succ_le L.len;exact call_meets PySem.F.slot_list_pop ⟨_,L.obj,rfl⟩ PySem.F.entry_list_pop (PySem.F.args_list_pop_2 _ _) (PySem.MeetsSeq.list_pop_at a (g::d).toArray c 0 t 0 g (by decide) (by simp [seqIndex?]) rfl L.lim) ⟨L.obj,k _ _ x<|Z.mono x.mono⟩) q
def bO{g:List V}(i:Inv X F s T)(L:LstAt X T j a l us c)(e:AC (AE X.I T) g us')(d:J6 s.store j l m g=some p)(k:KR X F T Q (p.1,s.sto p.2))(f:∀id,MethAt X A Q E T "list" m (.ref a) us' id->P):P:=
 eK d (λr d=>bK d λv h d=>f "list.append" ⟨r▸PySem.F.slot_list_append,PySem.F.type_list_append,FQ (C:=λg=>AC (AE X.I T) g us'->WP X A (call (.builtin "list.append")<|.ref a::us') Q E T) h (λe=>e.k1 (C:=λus'=>WP X A (call (.builtin "list.append")<|.ref a::us') Q E T) λu q=>bH i L q d k) e⟩) λd=>
 eK d (λr d=>bK d λv h d=>f "list.insert" ⟨r▸PySem.F.slot_list_insert,PySem.F.type_list_insert,HW (C:=λg=>AC (AE X.I T) g us'->WP X A (call (.builtin "list.insert")<|.ref a::us') Q E T) h (λe=>e.k2 (C:=λus'=>WP X A (call (.builtin "list.insert")<|.ref a::us') Q E T) λu w q t=>bJ i L q t d k) e⟩) λd=>
 eK d (λr d=>bK d λv h d=>f "list.extend" ⟨r▸PySem.F.slot_list_extend,PySem.F.type_list_extend,FQ (C:=λg=>AC (AE X.I T) g us'->WP X A (call (.builtin "list.extend")<|.ref a::us') Q E T) h (λe=>e.k1 (C:=λus'=>WP X A (call (.builtin "list.extend")<|.ref a::us') Q E T) λu q=>bL i L q d k) e⟩) λd=>
 eK d (λr d=>f "list.pop" ⟨r▸PySem.F.slot_list_pop,PySem.F.type_list_pop,eK d (λx d=>Ge (C:=λg=>AC (AE X.I T) g us'->WP X A (call (.builtin "list.pop")<|.ref a::us') Q E T) x (λe=>e.k0 (C:=λus'=>WP X A (call (.builtin "list.pop")<|.ref a::us') Q E T)<|bM i L d k) e) λd=>bK d λv h d=>FQ (C:=λg=>AC (AE X.I T) g us'->WP X A (call (.builtin "list.pop")<|.ref a::us') Q E T) h (λe=>e.k1 (C:=λus'=>WP X A (call (.builtin "list.pop")<|.ref a::us') Q E T) λu q=>bN i L q d k) e⟩) λd=>nK d
def bP(HT:Top X)(i:Inv X F s T)(D:DctAt X T j a b G B)(g:AE X.I T v u)(f:Rg s.store b G v=some p)(k:KR X F T Q (p.1,s.sto p.2)):WP X A (call (.builtin "dict.get") [.ref a,u]) Q E T:=bK f λq x f=>iK f λh f=>JB (P:=λv=>AE X.I T v u->WP X A (call (.builtin "dict.get") [.ref a,u]) Q E T) x (λg=>AZ.num_k (P:=λu=>WP X A (call (.builtin "dict.get") [.ref a,u]) Q E T) g λt=>by have k:=sQ (C:=λp:R×List Cell=>KR X F T Q (p.1,s.sto p.2)) f k;refine call_meetsIn PySem.F.slot_dict_get D.obj.typeIs PySem.F.entry_dict_get (PySem.F.args_dict_get_2 _ _) (meets_dict_get (knd:=intKind X.prog X.w) (d:=a) (intKind_is X.prog X.w _ t)<|D.nosys HT i.mid) ⟨_,D.obj.mapOf,k _ _ (.tok i _) ?_⟩;cases hl:AX q.2 G with|some v=>exact D.rep.some_k h hl λu e r=>by rw[e];exact r.mono (AL.tok i _).mono|none=>rw[((D.rep.cls h).look q.2).2 hl];exact rfl) g
def bQ{q:V×V}(HT:Top X)(i:Inv X F s T)(hc:s.store[j]?=some (.dct b G))(D:DctAt X T j a b G B)(hg:T.M.gp[j]?=some [a])(Z:AE X.I T q.1 u)(hn:AE X.I T q.2 H)(z:Rh s.store j b G q=some p)(k:KR X F T Q (p.1,s.sto p.2)):WP X A (call (.builtin "dict.pop") [.ref a,u,H]) Q E T:=
 bK z λx hx z=>iK z λL z=>Aq L λL a3=>JB (P:=λv=>AE X.I T v u->WP X A (call (.builtin "dict.pop") [.ref a,u,H]) Q E T) hx (λZ=>AZ.num_k (P:=λu=>WP X A (call (.builtin "dict.pop") [.ref a,u,H]) Q E T) Z λt=>by
  have hu:H=.none:=by
   revert hn a3;cases q.2 with
   |d y=>cases y<;>first|exact λh _=>h|(intro _ h;exact Bw h)
   |_=>intro _ h;exact Bw h
  subst hu;have k:=sQ (C:=λp:R×List Cell=>KR X F T Q (p.1,s.sto p.2)) z k;have r:=D.rep.cls L;have g:argsOk "dict.pop" ⟨.ref a::.int (X.I.f x.1 x.2) t::[.none],[]⟩:=PySem.F.args_dict_pop_3 _ _ _;cases hl:AX x.2 G with|some v=>refine D.rep.some_k L hl λxv e1 q=>call_meetsIn PySem.F.slot_dict_pop D.obj.typeIs PySem.F.entry_dict_pop g (meets_dict_pop_there (intKind X.prog X.w) a (intKind_is X.prog X.w _ t) [.none] (.inr ⟨_,rfl⟩) rfl) ⟨B,xv,D.obj,r.lim D.len,e1,λh' a4 a2=>?_⟩;have x1:=Ou (tk:=T.s.toks+1) i D hg a4 a2 (Bf.del (k:=x.2) r D.nod)<|AB (TD G) D.len;exact k _ _ x1 (by rw[hl];exact q.mono x1.mono)|none=>
   refine call_meetsIn PySem.F.slot_dict_pop D.obj.typeIs PySem.F.entry_dict_pop g (meets_dict_pop_default (intKind X.prog X.w) a (intKind_is X.prog X.w _ t) (D.nosys HT i.mid) rfl .none) ⟨B,D.obj,(r.look x.2).2 hl,?_⟩;have m1:Mid X (s.store.set j<|.dct x.1<|Cd x.2 G) T:=by have:=i.mid.upd (h:=T.s.heap) (tk:=T.s.toks) (c:=.dct x.1<|Cd x.2 G) hg D.ad (λ_ _ _ e=>e) ⟨rfl,B,D.obj,by rw[TE hl];exact r,by rw[TE hl];exact D.len⟩;exact this
   have i1:Inv X F (s.put j<|.dct x.1<|Cd x.2 G) T:=⟨m1,i.ffa,i.frm⟩;have a1:=AL.tok i1<|T.s.toks+1;exact k _ _ ⟨a1.ext,a1.mono,a1.inv⟩<|by rw[hl];exact rfl) Z
def bR{g:List V}(HT:Top X)(i:Inv X F s T)(y:s.store[j]?=some (.dct b G))(D:DctAt X T j a b G B)(x:T.M.gp[j]?=some [a])(e:AC (AE X.I T) g us')(d:KY s.store j b G m g=some p)(k:KR X F T Q (p.1,s.sto p.2))(f:∀id,MethAt X A Q E T "dict" m (.ref a) us' id->P):P:=
 eK d (λr d=>bK d λv h d=>f "dict.get" ⟨r▸PySem.F.slot_dict_get,PySem.F.type_dict_get,FQ (C:=λg=>AC (AE X.I T) g us'->WP X A (call (.builtin "dict.get")<|.ref a::us') Q E T) h (λe=>e.k1 (C:=λus'=>WP X A (call (.builtin "dict.get")<|.ref a::us') Q E T) λu q=>bP HT i D q d k) e⟩) λd=>
 eK d (λr d=>bK d λv h d=>f "dict.pop" ⟨r▸PySem.F.slot_dict_pop,PySem.F.type_dict_pop,HW (C:=λg=>AC (AE X.I T) g us'->WP X A (call (.builtin "dict.pop")<|.ref a::us') Q E T) h (λe=>e.k2 (C:=λus'=>WP X A (call (.builtin "dict.pop")<|.ref a::us') Q E T) λu w q t=>bQ HT i y D x q t d k) e⟩) λd=>nK d
end
section
variable{X:Cx}{K:Frag}{F:Fx}{o:Ops}{n:Nat}{st st':St}{A:Around}{T T' g:Sm}{Q E:Value->Shared->Prop}{M:Unit->Shared->Prop}{J:List Cell}{u N:Value}{v:V}{l:List V}{B us':List Value}{j c S:Nat}{a:Addr}{m:Str}{P:Prop}{b:Bool}{G Z:List (Int×V)}{O Y:List (Int×Value)}{e:Expr}{t:Tok}{q:Bool×Int}
def bS{f:Int}(i:Inv X F st T)(L:LstAt X T j a l B c)(y:0<=f)(p:f.toNat<l.length)(C:AE X.I T v N)(k:KU X F T M<|st.put j<|.lst<|l.set f.toNat v):WP X A (PySem.setItem (.ref a) (.int f t) N) M E T:=by
 have w:T.s.TypeIs (.ref a) "list":=⟨_,L.obj,rfl⟩;have h:Builtin.List.listFitsIndex f=true:=TF y (Int.lt_trans ((Int.toNat_lt y).mp<|Be p L.len)<|by decide);unfold WP PySem.setItem;try with_reducible refine wpAny_holding ?_
 refine A7 (wpAny_sequenceKey w (by decide) ?_);refine A7<|wpAny_callSpecial?_slot (name:=Str.ofString "__setitem__") w slot_list_setitem<|wpAny_call_entry slot_list_setitem w entry_list_setitem ?_<|args_list_setitem _ _ _;show wpAny _ _ (Builtin.List.listSubscript? (.int f t) >>= _) _ _ T.s;refine A7<|wpAny_listSubscript_int h ?_;clear h;obtain⟨d,rfl⟩:=Int.eq_ofNat_of_zero_le y;have x:=IQ (tk:=T.s.toks) i L (us':=B.set d N) (λz=>z.setIfInBounds d N) (by simp) (L.rep.set C d) (by rw[List.length_set];exact L.len);have H:d<B.length:=L.rep.length▸p;show wpAny _ _ ((seqItemAt a d >>= λr=>pure<|r.map (d,·)) >>= _) _ _ T.s;refine A7<|A7<|wpAny_seqItemAt L.obj rfl<|AR ?_;rw[show B.toArray[d]?=some B[d] from List.getElem?_toArray.trans<|Cv H];show wpAny _ _ (setSeqItemAt a d N >>= _) _ _ T.s;refine A7<|wpAny_setSeqItemAt L.obj rfl ?_;first
  |exact A7<|AR<|AR ⟨.none,rfl,AR<|k _ x.s⟩
  |exact AR ⟨.none,rfl,AR<|k _ x.s⟩
def bT(HT:Top X)(i:Inv X F st T)(ha:T.M.ad[j]?=some a)(H:AE X.I T v N)(h:OM st.store j q v st.store[j]?=some J)(k:KU X F T M<|st.sto J):WP X A (PySem.setItem (.ref a) (.int (X.I.f q.1 q.2) t) N) M E T:=by cases hc:st.store[j]? with|none=>rw[hc] at h;exact nK h|some d=>rw[hc] at h;cases d with|lst l=>exact bK h λx hx h=>iK h λp h=>Gd (P:=λq=>WP X A (PySem.setItem (.ref a) (.int (X.I.f q.1 q.2) t) N) M E T) hx (Aq p λh0 h1=>MQ i.mid ha hc λB c L=>bS i L (Bn h0) (Bn h1) H<|sQ (C:=λJ=>KU X F T M<|st.sto J) h k)|dct b G=>exact iK h λp h=>Aq p λp z=>Ot i.mid ha hc λO D hg=>wpAny_setItem_pairs (intKind_is X.prog X.w _ t) D.obj (λh' y r=>sQ (C:=λJ=>KU X F T M<|st.sto J) h k _ (Ou (tk:=T.s.toks+1) i D hg y r (Bf.set (k:=q.2) H (D.rep.cls p) D.nod)<|AB (Os G)<|Bn z).s) (by have:=Bn z;rw[D.rep.length];exact AB (BS this) JF)|_=>exact nK h
def bU(HT:Top X)(i:Inv X F st T)(ha:T.M.ad[j]?=some a)(h:M6 st.store j q st.store[j]?=some J)(k:KU X F T M<|st.sto J):WP X A (PySem.delItem (.ref a)<|.int (X.I.f q.1 q.2) t) M E T:=by cases hc:st.store[j]? with|none=>rw[hc] at h;exact nK h|some d=>
 rw[hc] at h;cases d with
 |lst l=>
  refine bK h λx hx h=>mQ (C:=λJ=>KU X F T M<|st.sto J) h k λy hy k=>Gd (P:=λq=>WP X A (PySem.delItem (.ref a)<|.int (X.I.f q.1 q.2) t) M E T) hx<|MQ i.mid ha hc λB c L=>?_;have a3:y<B.length:=by rw[L.rep.length];exact Km hy (λr p e=>e▸(Int.toNat_lt r).mpr p) λr p e=>by omega
  have x1:=IQ (tk:=T.s.toks) i L (us':=B.eraseIdx y) (λxs=>xs.eraseIdxIfInBounds y) (Ov a3) (L.rep.erase y)<|AB (List.length_eraseIdx_le l y) L.len;have H:Builtin.List.listFitsIndex x=true:=by
   have a4:-(1000000:Int)<=x/\x<1000000:=by have z:l.length<=1000000:=L.len;exact Km hy (λr p _=>⟨Int.le_trans (by decide) r,Int.lt_of_lt_of_le p<|Int.ofNat_le.mpr z⟩) λr p _=>⟨Int.le_trans (Int.neg_le_neg<|Int.ofNat_le.mpr z) p,Int.lt_trans r<|by decide⟩
   unfold Builtin.List.listFitsIndex;simp;omega
  exact PySem.P.delItem_list (n:=c) L.obj H (by rw[List.size_toArray,L.rep.length];exact hy) (k _ x1.s) L.lim
 |dct b G=>
  refine iK h λho h=>Aq ho λho hs=>Ot i.mid ha hc λO D hg=>?_;unfold WP PySem.delItem;try with_reducible refine wpAny_holding ?_
  refine A7 (wpAny_sequenceKey D.obj.typeIs (by decide) ?_);refine A7 (wpAny_callSpecial?_slot (name:=Str.ofString "__delitem__") D.obj.typeIs PySem.F.slot_dict_delitem<|call_meetsIn PySem.F.slot_dict_delitem D.obj.typeIs PySem.F.entry_dict_delitem (PySem.F.args_dict_delitem_2 _ _) (meets_dict_delitem_pairs (intKind X.prog X.w) a<|intKind_is X.prog X.w _ t) ⟨O,D.obj,D.rep.lim D.len,by rw[D.rep.isSome ho];exact hs,λh' a2 a1=>?_⟩);exact AR<|sQ (C:=λJ=>KU X F T M<|st.sto J) h k _ (Ou (tk:=T.s.toks+1) i D hg a2 a1 (Bf.del (k:=q.2) (D.rep.cls ho) D.nod)<|AB (TD G) D.len).s
 |_=>exact nK h
def Ow(H:Snd X o n){s:Fn}{env:Env}{pos:Pos}{G:List Expr}:∀{st:St}{p:List V×St},Dt o s G st=some p->backTo pos (starEach G env)=G.map λe=>(false,eval e env):=by induction G with|nil=>exact λ_=>rfl|cons e G f=>exact λd=>bK d λq k d=>mK (C:=λ_=>backTo pos (starEach (e::G) env)=(e::G).map λe=>(false,eval e env)) d λr i=>by rw[bK k λ_ h _=>Fo H h,f i];rfl
def bV(G:List Expr)(d:Env):(G.map λe=>(false,eval e d)).any (λx=>x.1)=false:=by induction G with|nil=>rfl|cons e G f=>exact f
def MR(H:Snd X o n){pos:Pos}{f:Value}(w:AW A n){G:List Expr}{p:List V×St}{h:Args->Shared->Prop}(d:Dt o F.fn G st=some p)(i:Inv X F st T)(k:JE X F T (λB s=>h ⟨B,[]⟩ s) p):WP X A (evalArgs f true (backTo pos<|starEach G F.env) []) h E T:=by have r:=Ow (env:=F.env) H (pos:=pos) d;cases G with|nil=>exact PyProof.Rows.evalArgs_none (sQ (C:=JE X F T λB s=>h ⟨B,[]⟩ s) d k [] T (.refl i) rfl)|cons e G=>have:=OT (pos:=pos) (E:=E) H w d i k;unfold WP at this ⊢;rw[r] at this ⊢;exact evalArgs_plain this
def TG(H:Snd X o n){i:Fn}{f:Env}{d:Pos}{G:List Expr}{p:List V×St}(h:Dt o i G st=some p):((backTo d<|starEach G f).any (·.1)||([]:List<|Option Str×Sem Value).any (·.1.isNone))=false:=by rw[Ow H h,bV];rfl
def TH{i:Str}{d:Env}{b:Expr}(h:M0 b=false):attributeBase b i d (eval b d)=eval b d:=by
 cases b with
 |Call f s r k=>
  cases f with
  |Name x p=>
   cases s with
   |nil=>cases r with|nil=>exact Bool.noConfusion h|cons _ _=>rfl
   |cons _ _=>rfl
  |_=>rfl
 |_=>rfl
def TI(H:Snd X o n){b:Expr}{i d:Pos}{s:List Expr}{p:List V×St}(y:Dh b i d s.length=true)(a3:Dt o F.fn s st'=some p) (h:WP X A (eval b F.env) (λov r=>∀pl,wpAny (model X.prog X.w) A (getMethod ov m pl) (λfm k=>wpAny (model X.prog X.w) A (callWith d fm.1 fm.2 (backTo d<|starEach s F.env) []) Q E k) E r) E T):WP X A (eval (.Call (.Attribute b m i) s [] d) F.env) Q E T:=
 Aq y λy a2=>Aq y λhb z=>by
  unfold WP;rw[arm_eval_Call,TH<|Bool.not_eq_true' _ |>.mp hb];refine A7<|wpAny_mono h (λov r L=>A7<|wpAny_standAt ?_) λ_ _ e=>e;have C:methodCallForm (s.length+([]:List Keyword).length) (backTo d<|starEach s F.env) (backToKw d<|keywordEach [] F.env)=true:=by
   unfold methodCallForm;rw[Ow H a3];have h1:(s.map λe=>(false,eval e F.env)).all (λx=>!x.1)=true:=by simp
   rw[h1];exact Ac<|show s.length+0+0<30 from AM (Bn a2)<|by decide
  have a1:methodCallPos true b F.env i d=pure d:=by unfold methodCallPos;simp [z]
  unfold methodCall calleeOf;rw[C];refine A7<|wpAny_holding<|wpAny_mono (L _) (λfm k I=>?_) λ_ _ e=>e;obtain⟨f,first⟩:=fm;exact A7<|wpAny_of_eq a1 I
def TJ{p:Pos}{id:String}{i:Value}{d:List (Bool×Sem Value)}{s:Shared}(r:(d.any (·.1)||([]:List<|Option Str×Sem Value).any (·.1.isNone))=false) (h:wpAny (model X.prog X.w) A (evalArgs (.builtin id) true d []) (λa f=>wpAny (model X.prog X.w) A (call (.builtin id) (i::a.pos) a.kw) Q E f) E s):wpAny (model X.prog X.w) A (callWith p (.builtin id) [i] d []) Q E s:=callWith_of (P:=λ_=>True) r (λh _=>⟨.machine,.inr<|.inl rfl,Looks.now⟩)<|wpAny_mono h (λa f k=>⟨trivial,k⟩) λ_ _ e=>e
def Inv.ofC(i:Inv X F st T)(x:AftC X T J T'):AL X F T (st.sto J) T':=have m:Mono T T':=x.ext.mono i.mid.fw;⟨x.ext,m,x.mid,λa f=>⟨λq=>(x.ext.fnew a q).elim (i.ffa a f).1 λq=>q.elim (i.ffa a f).2 λq=>q<|i.faal f,λq=>(x.ext.wnew a q).elim (i.ffa a f).2 λq=>q<|i.faal f⟩,i.frm.mono m λb o f e=>x.ext.keep b o e (i.ffa b f).2⟩
def RC.rr{r:R}(i:Inv X F st T)(h:RC X T T' r u):RR X F T T' r u:=by cases r with|val v=>exact h|fresh l=>exact h.imp λb q=>q.imp λB q=>⟨q.1,q.2.new,q.2.nf,λz=>z.elim q.2.nw λz=>q.2.new<|i.faal z,q.2.obj,q.2.rep,q.2.len⟩
def bW{y:D×List Cell}(i:Inv X F st T)(w:AE X.I T v u)(h:Ra v st.store=some y)(k:∀T',T'.s=T.s->AL X F T (st.sto y.2) T'->AZ X.I T' y.1 u->P):P:=oK h (λd hd h=>OS (P:=λv=>AE X.I T v u->P) hd (λw=>bK h λp hp h=>mQ (C:=λy:D×List Cell=>∀T',T'.s=T.s->AL X F T (st.sto y.2) T'->AZ X.I T' y.1 u->P) h k λL H k=>AE.loc_k (I:=X.I) (P:=λu=>(∀T',T'.s=T.s->AL X F T (st.sto p.2) T'->AZ X.I T' (.lst L) u->P)->P) w (λa ha k=>Sw (.refl i) ha hp λT' B e x f o r z=>Gc (P:=λl=>AC (AE X.I T') l B->l.length<=lim->P) H (λr z=>k T' e x ⟨a,B,rfl,f,o,A4 (as:=L) V.d▸z,Gb.mpr<|(AC.map (f:=V.d) (P:=AE X.I T')).mp r⟩) r z) k) w) λ_ h=>mQ (C:=λy:D×List Cell=>∀T',T'.s=T.s->AL X F T (st.sto y.2) T'->AZ X.I T' y.1 u->P) h k λx hx k=>J9 (P:=λv=>AE X.I T v u->P) hx (k T rfl<|.refl i) w
def bX{vs:List V}:∀{st:St}{T:Sm}{B:List Value}{y:List V×List Cell},Inv X F st T->AC (AE X.I T) vs B->KQ vs st.store=some y->(∀T' w,T'.s=T.s->AL X F T (st.sto y.2) T'->y.1=w.map .d->AC (AZ X.I T') w B->P)->P:=by induction vs with|nil=>intro st T B y i r e k;subst r;obtain rfl:=Option.some.inj e;exact k T [] rfl (.refl i) rfl rfl|cons v vs ih=>intro st T B y i r e k;obtain⟨u,ws,rfl,r1,r2⟩:=r;exact bK e λq hq e=>mQ (C:=λy:List V×List Cell=>∀T' w,T'.s=T.s->AL X F T (st.sto y.2) T'->y.1=w.map .d->AC (AZ X.I T') w (u::ws)->P) e k λp hp k=>bW i r1 hq λa2 H f L=>ih (st:=st.sto q.2) f.inv (r2.mono f.mono) hp λa1 w z h hd x=>k a1 (q.1::w) (z.trans H) (f.trans h) (A3 (V.d q.1::·) hd)<|.cons (L.mono h.mono) x
def TK(H:Snd X o n){f:Fn}{fa:Addr}{fo:Obj}{fd:FuncData}{vs:List V}{p:R×St}(hA:AW A n)(L:Lz o f vs st=some p)(hf:FnAt X.hB fa f fo fd)(i:Inv X F st T)(hr:AC (AE X.I T) vs B)(k:KR X F T Q p):WP X A (call (.ref fa) B) Q E T:=cK L (λ_ L=>mQ L k λq hq k=>wpAny_call<|H.call hA hq (hf.keeps i.mid.top) i.mid hr λu T' a rc=>k u T' (i.ofC a)<|rc.rr i) λ_ L=>bK L λq hq L=>bK L λq' hc L=>iK L λap L=>bX i hr hq λr ds am a1 hd ab=>by have x:=a1.inv;have k:=sQ L k;rw[hd] at hc;have mc:Mid X []<|r.mm ⟨r.M.F,[],[]⟩:=⟨x.mid.top,x.mid.base,x.mid.fal,λa _ h=>Ew h,rfl,rfl,List.nodup_nil,λ_ _ h=>by exact Ae h⟩;have a4:AC (AE X.I<|r.mm ⟨r.M.F,[],[]⟩) (ds.map .d) B:=AC.map.mpr<|ab.imp λd u h=>AZ.monoF (T:=r) (T':=r.mm ⟨r.M.F,[],[]⟩) ⟨λ_ f=>f,λ_ _ _ e=>e⟩ h;have w:WP X A (call (.ref fa) B) Q E<|r.mm ⟨r.M.F,[],[]⟩:=wpAny_call<|H.call hA hc (hf.keeps x.mid.top) mc a4 λu T' a rc=>?_;unfold WP at w ⊢;rw[<-am];exact w;have C:∀b ob,r.s.heap.get? b=some ob->T'.s.heap.get? b=some ob:=λb ob e=>a.ext.keep b ob e λh=>Ew h;have a2:∀b,T'.M.F b->r.M.F b\/¬Al r.s.heap b:=λb q=>(a.ext.fnew b q).imp_right λq=>q.elim (λh=>Ew h) id;have mo:Mono r<|T'.mm ⟨λb=>r.M.F b\/T'.M.F b,r.M.ad,r.M.gp⟩:=⟨λb q=>.inl q,λb ob _ e=>C b ob e,CG _⟩;have an:AftC X r q.2<|T'.mm ⟨λb=>r.M.F b\/T'.M.F b,r.M.ad,r.M.gp⟩:=⟨⟨a.ext.sh,λb ob e _=>C b ob e,a.ext.al,λb q=>.inl q,λb q=>q.elim .inl λq=>(a2 b q).imp_right .inr,λb q=>.inl q,CG _⟩,a.mid.top,λb q=>.inl<|x.mid.base b q,λb q=>q.elim (λq=>a.ext.al b<|x.mid.fal b q)<|a.mid.fal b,λb q z=>q.elim (λq=>x.mid.fw b q z) λq=>(a2 b q).elim (λq=>x.mid.fw b q z) λq=>q<|x.wal z,x.mid.la,x.mid.lg,x.mid.nod,λl c e=>(x.mid.cell l c e).imp λa q=>q.imp λb1 q=>⟨q.1,q.2.1,q.2.2.mono mo λb ob _=>C b ob⟩⟩;have hs:q'.2=[]:=List.isEmpty_iff.mp ap;have ar:T'.M.ad=[]:=List.length_eq_zero_iff.mp (by rw[a.mid.la,hs];rfl);have af:Mono T'<|T'.mm ⟨λb=>r.M.F b\/T'.M.F b,r.M.ad,r.M.gp⟩:=⟨λb q=>.inr q,λ_ _ _ e=>e,by rw[ar];exact List.nil_prefix⟩;have a3:=x.ofC an;refine k u (T'.mm ⟨λb=>r.M.F b\/T'.M.F b,r.M.ad,r.M.gp⟩) (a1.trans a3) ?_;show RR X F T _ q'.1 u;revert rc;cases q'.1 with|val v=>exact λrc=>AE.mono af rc|fresh l=>exact λrc=>rc.imp λb z=>z.imp λB z=>⟨z.1,λy=>z.2.new<|a1.ext.al b y,λy=>y.elim (λy=>z.2.new<|x.mid.fal b y) z.2.nf,λy=>z.2.new<|y.elim x.wal x.faal,z.2.obj,z.2.rep.mono af,z.2.len⟩
end
section
variable{X:Cx}{K:Frag}{F:Fx}{o:Ops}{n:Nat}{B N:St}{A:Around}{T s O:Sm}{Q E:Value->Shared->Prop}{J:List Cell}{u:Value}{v:V}{l:List V}{G:List Value}{j:Nat}{a:Addr}{m:Str}{P:Prop}{e:Expr}{p:R×St}
def TL{c:String}{x y:String}(h:Slot c m x)(g:Slot c m y):x=y:=by
 have d:(some<|Value.builtin x)=some (Value.builtin y):=by have h:=h.lookup.symm.trans g.lookup;injection h
 cases d;rfl
def bY{f:List V}{q:R×List Cell}(c:J6 J j l m f=some q)(k:∀id,Slot "list" m id->typeOf (.builtin id)=pure (.type "method_descriptor")->P):P:=eK c (λd _=>k _ (d▸PySem.F.slot_list_append) PySem.F.type_list_append) λc=>eK c (λd _=>k _ (d▸PySem.F.slot_list_insert) PySem.F.type_list_insert) λc=>eK c (λd _=>k _ (d▸PySem.F.slot_list_extend) PySem.F.type_list_extend) λc=>eK c (λd _=>k _ (d▸PySem.F.slot_list_pop) PySem.F.type_list_pop) λc=>nK c
def bZ{b:Bool}{f:List (Int×V)}{g:List V}{q:R×List Cell}(c:KY J j b f m g=some q)(k:∀id,Slot "dict" m id->typeOf (.builtin id)=pure (.type "method_descriptor")->P):P:=eK c (λd _=>k _ (d▸PySem.F.slot_dict_get) PySem.F.type_dict_get) λc=>eK c (λd _=>k _ (d▸PySem.F.slot_dict_pop) PySem.F.type_dict_pop) λc=>nK c
def TM(H:Snd X o n)(Z:AW A n){r id:String}{h:Pos}{L:List Expr}{p:List V×St}{M:Sem Bool}(i:Inv X F B T)(Y:T.s.TypeIs (.ref a) r)(S:PlainAttrs r)(f:Slot r m id)(t:typeOf (.builtin id)=pure (.type "method_descriptor"))(x:∃y,T.s.heap.get? a=some y/\y.dict=none)(z:Dt o F.fn L B=some p) (k:∀G c,AL X F T p.2 c->AC (AE X.I c) p.1 G->WP X A (call (.builtin id)<|.ref a::G) Q E c):WP X A (getMethod (.ref a) m M) (λC d=>wpAny (model X.prog X.w) A (callWith h C.1 C.2 (backTo h<|starEach L F.env) []) Q E d) E T:=getMethod_builtin Y S f t (λa' e=>by obtain rfl:=Value.ref.inj e;exact x)<|TJ (TG H z)<|MR H Z z i λG c q g=>k G c q g
def ba{q:Nat×St}(H:Snd X o n)(d:AW A n)(i:Inv X F B T)(h:I9 o F.fn e B=some q)(k:∀a s,AL X F T q.2 s->s.M.ad[q.1]?=some a->Q (.ref a) s.s):WP X A (eval e F.env) Q E T:=Kg H d i (f:=some) (y:=q) (A3 (Option.bind · some) h) λg a s x c e=>by obtain rfl:=Option.some.inj e;exact k a s x c
def Ox{c:Option Cell}{d:Nat}(h:KZ m c=d)(r:d=1->∀l,c=some (.lst l)->P)(q:d=2->∀e,KE c=some e->P)(k:d=3->∀f,c=some (.inst f)->AJ m f=.none->P)(g:d=0->P):P:=by cases c with|none=>exact g h.symm|some c=>cases c with|lst l=>exact r h.symm l rfl|froz l=>exact g h.symm|dct b t=>exact q h.symm _ rfl|inst f=>have h:(if (AJ m f).isNone=true then 3 else 0)=d:=h;by_cases i:(AJ m f).isNone=true;rw[A5 i] at h;exact k h.symm f rfl<|Option.isNone_iff_eq_none.mp i;rw[A1 i] at h;exact g h.symm
def bb(H:Snd X o n)(HT:Top X)(Y:ClsG X K){b:Expr}{Z a4:Pos}{as:List Expr}(hA:AW A n)(b1:Dh b Z a4 as.length=true)(C:Ri X.G o F.fn b m as B=some p)(i:Inv X F B T)(k:KR X F T Q p):WP X A (eval (.Call (.Attribute b m Z) as [] a4) F.env) Q E T:=bK C λd h1 C=>bK C λq h2 C=>iK C λhk C=>TI H b1 h2 (ba H hA i h1 λa ab h ha pl=>by have hk:=beq_iff_eq.mp hk;have S:∀{y:Sm},Mono ab y->y.M.ad[d.1]?=some a:=λmo=>mo.loc ha;cases hc:q.2.store[d.1]? with|none=>rw[hc] at C;exact nK C|some c=>
 rw[hc] at C hk;cases c with
 |froz l=>exact nK C|lst l=>
  refine mQ C k λr hr k=>bY hr λid w a1=>Ox hk (λ_ b3 t=>MQ h.inv.mid ha t λG c L=>?_) (λe=>by exact absurd e<|Nat.ne_of_beq_eq_false rfl) (λe=>by exact absurd e<|Nat.ne_of_beq_eq_false rfl) λe=>by exact absurd e<|Nat.ne_of_beq_eq_false rfl
  exact TM H hA h.inv ⟨_,L.obj,rfl⟩ PySem.F.plainAttrs_list w a1 ⟨_,L.obj,rfl⟩ h2 λws y g x=>MQ g.inv.mid (S g.mono) hc λan bd af=>bO g.inv af x hr (k.then<|h.trans g) λap M=>TL M.slot w▸M.wp
 |dct b es=>
  refine mQ C k λr hr k=>bZ hr λid w a1=>Ox hk (λe=>by exact absurd e<|Nat.ne_of_beq_eq_false rfl) (λ_ b4 t=>SH h.inv.mid ha t λbl D=>?_) (λe=>by exact absurd e<|Nat.ne_of_beq_eq_false rfl) λe=>by exact absurd e<|Nat.ne_of_beq_eq_false rfl
  exact TM H hA h.inv D.obj.typeIs PySem.F.plainAttrs_dict w a1 (D.obj.imp λob z=>z.elim λ_ z=>z.elim λ_ z=>⟨z.1,z.2.1.2.1⟩) h2 λws y g x=>Ot g.inv.mid (S g.mono) hc λam al a3=>bR HT g.inv hc al a3 x hr (k.then<|h.trans g) λap M=>TL M.slot w▸M.wp
 |inst fs=>
  refine bK C λf hf C=>Ox hk (λe=>by exact absurd e<|Nat.ne_of_beq_eq_false rfl) (λe=>by exact absurd e<|Nat.ne_of_beq_eq_false rfl) (λ_ b2 t a2=>Oq h.inv.mid ha (A3 IK t) λdx es cc _ I=>?_) λe=>by exact absurd e<|Nat.ne_of_beq_eq_false rfl
  obtain⟨fa,fo,fd,g1,g2,g3,g4⟩:=Y.mth m f hf;have ar:shadowIn (some<|dictOf es cc) m=some false:=by show(lookIn m<|dictOf es cc).map (·.isSome)=some false;rw[lookIn_dict];unfold getL;rw[I.rep.miss a2,I.rep.norefs];rfl
  exact method_fn (Y.inB.keeps h.inv.mid.top) I.lib Y.ga Y.gn g1 g2 ar<|callWith_function (o:=fo) (fd:=fd)<|MR H hA h2 h.inv λws y g x=>⟨⟨g.inv.mid.top _ _ g3.at_,g3.dat⟩,TK H hA C g3 g.inv (.cons ⟨a,S g.mono,rfl⟩ x)<|k.then<|h.trans g⟩)
def TN(HT:Top X){x:Str}{w:Value}{c:Pos}(d:FL F.fn x=true)(f:X.mg x=some w)(i:Inv X F B T)(k:Q w T.s):WP X A (eval (.Name x c) F.env) Q E T:=Name_function_global i.frm.kind (i.frm.glo x<|beq_iff_eq.mp d) (loadGlobal_global (mg:=X.mg) (by rw[i.frm.glb];exact HT.g.keeps i.mid.top) f k)<|Kj i.frm.dbg.1<|beq_iff_eq.mp d
def bc(H:Snd X o n)(HT:Top X){x:Str}{y f:Pos}{t:List Expr}{g:Fn}{q:List V×St}(r:AW A n)(z:FL F.fn x=true)(C:AJ x X.G.fns=some g)(L:Dt o F.fn t B=some q)(I:Lz o g q.1 q.2=some p)(i:Inv X F B T)(k:KR X F T Q p):WP X A (eval (.Call (.Name x y) t [] f) F.env) Q E T:=by obtain⟨Z,S,fd,M,h⟩:=HT.fns x g C;exact wpAny_Call_Name_kw<|TN HT z M i<|callWith_function (o:=S) (fd:=fd)<|MR H r L i λY w c d=>⟨⟨c.inv.mid.top _ _ h.at_,h.dat⟩,TK H r I h c.inv d<|k.then c⟩
def AW.make{C:Addr}{G:List Value}(h:AW A<|n+1):AW (A.under<|.builtin "type.__call__" ⟨.ref C::G,[]⟩) n:=by
 refine⟨h.h,?_,?_⟩;have:=h.d;show A.depth+1+n<_;rw[DB];exact this;have:=h.u;have e:(A.under<|.builtin "type.__call__" ⟨.ref C::G,[]⟩).units<=A.units+8:=by show A.units+Code.cUnits _<=_;exact BW (Nat.le_of_ble_eq_true rfl) _
 exact AO (Ds (AB (Ds e _)<|by rw[Bv,Nat.mul_succ,C7 8];exact Au _) 300) this
def be{r:R}(h:Ro r=true)(c:RC X T s r u):u=.none:=by cases r with|fresh _=>exact Bw h|val v=>cases v with
 |d x=>cases x with|none=>exact c|_=>exact Bw h
 |_=>exact Bw h
def bf(H:Snd X o n)(HT:Top X)(Y:ClsG X K){x:Str}{p' ab:Pos}{as:List Expr}(hA:AW A<|n+1)(hx:FL F.fn x=true)(hg:x=X.G.cls)(L:Rp X.G o F.fn as B=some p)(i:Inv X F B T)(k:KR X F T Q p):WP X A (eval (.Call (.Name x p') as [] ab) F.env) Q E T:=
 bK L λq h1 L=>bK L λr hc L=>iK L λaf L=>by
  have k:=sQ L k;obtain⟨fI,fo,fd,g1,g2,g3⟩:=Y.ini;refine wpAny_Call_Name_kw (TN HT hx (by rw[hg];exact Y.nm) i<|callWith_of (P:=λh=>Frag.In K h) (TG H h1) (λh X=>keeps_K Y.keep h X)<|MR H (hA.less<|Nat.le_succ _) h1 i λG I w a1=>⟨Y.inB.keeps w.inv.mid.top,wpAny_call ?_⟩);have Xi:Frag.In K I.s.heap:=Y.inB.keeps w.inv.mid.top;obtain⟨⟨f,g,d,t,os⟩,M⟩:=I;refine make_core (makes_of Xi Y.mks) (looks_findIn Xi g1) (λZ=>bind_fn Xi Z g2) (.inl rfl) ?_;have a3:∀a,f.objs.size<=a->¬Al f a:=λa ha q=>absurd q.lt<|Nat.not_lt.mpr ha;have a4:AL X F ⟨⟨f,g,d,t,os⟩,M⟩ q.2 ⟨⟨(f.push emptyDict).push<|instObj X.C f.objs.size,g,d,t,os⟩,M⟩:=AL.grow (tk:=t) w.inv λb ob e=>E1 _<|E1 _ e;have oa:((f.push emptyDict).push<|instObj X.C f.objs.size).get? (f.objs.size+1)=some (instObj X.C f.objs.size):=by rw[<-Heap.size_push f emptyDict];exact De _ rfl
  have z:∀b∈[f.objs.size+1,f.objs.size],¬Al f b:=λb S=>(An.mp S).elim (λe=>e▸a3 _ (Nat.le_succ _)) λS=>Ao.mp S▸a3 _ (Au _);have y:=a4.new (a:=f.objs.size+1) (g:=[f.objs.size+1,f.objs.size]) (c:=.inst []) (λb S=>⟨λq=>z b S<|w.inv.mid.fal b q,λq=>z b S<|q.elim w.inv.wal w.inv.faal,z b S⟩) (by simp) ⟨f.objs.size,[],0,rfl,oa,E1 _<|De _ rfl,rfl,List.nodup_nil,Bm _⟩;have a2:(M.new (f.objs.size+1) [f.objs.size+1,f.objs.size]).ad[q.2.store.length]?=some (f.objs.size+1):=by show(M.ad++[f.objs.size+1])[q.2.store.length]?=_;rw[<-w.inv.mid.la];exact List.getElem?_concat_length
  refine H.call (T:=⟨⟨(f.push emptyDict).push<|instObj X.C f.objs.size,g,d,t,os⟩,M.new (f.objs.size+1) [f.objs.size+1,f.objs.size]⟩) hA.make hc (g3.keeps y.inv.mid.top) y.inv.mid (.cons ⟨f.objs.size+1,a2,rfl⟩<|a1.mono y.mono) λu s x' q'=>⟨be af q',?_⟩;have xx:AftC X ⟨⟨f,g,d,t,os⟩,M⟩ r.2 s:=⟨y.ext.trans x'.ext y.ext.wnew,x'.mid⟩;exact k _ s (w.trans<|w.inv.ofC xx) ⟨f.objs.size+1,Mono.loc (T:=⟨⟨(f.push emptyDict).push<|instObj X.C f.objs.size,g,d,t,os⟩,M.new (f.objs.size+1) [f.objs.size+1,f.objs.size]⟩) (x'.ext.mono y.inv.mid.fw) a2,rfl⟩
def bg(H:Snd X o n)(HT:Top X){t:Expr}{gs:List Comprehension}{sc:Scope}{I:Pos}(hA:AW A n)(he:Ly X.G o F.fn t gs sc B=some p)(i:Inv X F B T)(k:KR X F T Q p):WP X A (eval (.ListComp t gs sc I) F.env) Q E T:=by unfold WP;rw[eval_ListComp];refine T8 H HT hA he i λa2 L s C=>?_;obtain⟨mm,Z⟩:=C.ns;refine⟨mm,Z,λr Y=>?_⟩;have h:∀b d,b≠L->s.s.heap.get? b=some d->r.get? b=some d:=λb d hb e=>(Y.2 b hb).trans e;have a1:¬FA F.env L:=λq=>C.new<|i.faal q;have hn:∀b,s.M.F b\/s.M.W b\/FA F.env b->b≠L:=λb q z=>q.elim (λq=>C.f<|z▸q) λq=>q.elim (λq=>C.w<|z▸q) λq=>a1<|z▸q;have S:Mono s<|s.hp r s.s.toks:=⟨λ_ f=>f,λb o f=>h b o<|hn b<|.inl f,CG _⟩;have x:=C.aft.ext;obtain⟨a4,a3,e⟩:=x.sh;refine k a2 (s.hp r s.s.toks) ⟨⟨⟨r,s.s.toks,by show {s.s with heap:=r,toks:=s.s.toks}=_;rw[e]⟩,λa d y n1=>h a d (λq=>C.new<|q▸⟨_,y⟩)<|x.keep a d y n1,λa q=>(x.al a q).imp λd y=>h a d (λz=>C.new<|z▸q) y,x.F,x.fnew,x.wnew,x.ad⟩,C.aft.mono.trans S,C.aft.inv.hp λb o q=>h b o<|hn b q⟩ ?_;have g:=C.rr;revert g;cases p.1 with|val v=>exact λg=>AE.mono S g|fresh l=>exact λg=>g.imp λb z=>z.imp λG z=>⟨z.1,z.2.new,z.2.nf,z.2.nw,z.2.obj.imp λc e=>h b _ (λq=>C.ne<|q▸z.1) e,z.2.rep.mono S,z.2.len⟩
end
section
variable{c:Type}{y:Str}{v:c}{l:List (Str×c)}
noncomputable def JK:List (Str×V)->St->St|[],a=>a|p::r,a=>JK r<|a.set p.1 p.2
def TO(l:List<|Str×V):∀(a:St),(JK l a).store=a.store:=by induction l with|nil=>exact λ_=>rfl|cons p l d=>exact λa=>d _
def Oy(h:AJ y l=some v):(y,v)∈l:=by induction l with|nil=>exact Ae h|cons p l a=>have h:(if y=p.1 then some p.2 else AJ y l)=some v:=h;by_cases e:y=p.1;rw[A5 e] at h;obtain rfl:=Option.some.inj h;rw[e];exact .head _;rw[A1 e] at h;exact .tail _<|a h
def TR(d:(l.map (·.1)).Nodup)(h:(y,v)∈l):AJ y l=some v:=by induction l with|nil=>exact absurd h Ax|cons p l a=>obtain⟨g,f⟩:=Bi.mp d;show(if y=p.1 then some p.2 else AJ y l)=some v;cases h with|head=>exact A5 rfl|tail _ h=>rw[A1 λe:y=p.1=>g<|B9.mpr ⟨_,h,e⟩];exact a f h
def TT{a:Type}{l:List a}(h:l.Nodup):l.reverse.Nodup:=List.pairwise_reverse.mpr<|List.Pairwise.imp (λh e=>h e.symm) h
def bh(d:(l.map (·.1)).Nodup):AJ y l.reverse=AJ y l:=by
 have a:(l.reverse.map (·.1)).Nodup:=by rw[List.map_reverse];exact TT d
 cases h:AJ y l with|some v=>exact TR a (List.mem_reverse.mpr<|Oy h)|none=>cases h':AJ y l.reverse with|none=>rfl|some v=>cases h.symm.trans (TR d<|List.mem_reverse.mp<|Oy h')
def TU{l:List (Str×V)}:∀{a:St},(l.map (·.1)).Nodup->AJ y (JK l a).vars=(AJ y l).or (AJ y a.vars):=by induction l with|nil=>exact λ_=>rfl|cons p l d=>
 intro a e;obtain⟨g,f⟩:=Bi.mp e;show AJ y (JK l<|a.set p.1 p.2).vars=(if y=p.1 then some p.2 else AJ y l).or _;rw[d f];show(AJ y l).or (AJ y<|AS p.1 p.2 a.vars)=_;rw[S8];by_cases h:y=p.1;rw[A5 h,A5 h];cases hl:AJ y l with|none=>rfl|some u=>exact absurd (B9.mpr ⟨_,Oy hl,h⟩) g
 rw[A1 h,A1 h]
def bi{l:List Str}(h:M8 l=true):l.Nodup:=by induction l with|nil=>exact List.nodup_nil|cons x l a=>exact Aq (show(!l.contains x&&M8 l)=true from h) λe d=>Bi.mpr ⟨λq=>absurd e<|by rw[Dp.mpr q];exact Cb,a d⟩
def bj{f e:Type}{l:List f}:∀{m:List e},l.length=m.length->l.reverse.zip m.reverse=(l.zip m).reverse:=by
 induction l with
 |nil=>intro m h;cases m with|nil=>rfl|cons _ _=>exact absurd h<|Nat.ne_of_beq_eq_false rfl
 |cons a l g=>intro m h;cases m with|nil=>exact absurd h (Nat.ne_of_beq_eq_false rfl)|cons b m=>have d:l.length=m.length:=Nat.succ.inj h;rw[List.reverse_cons,List.reverse_cons,List.zip_append<|by rw[List.length_reverse,List.length_reverse,d],g d];show _=((a,b)::l.zip m).reverse;rw[List.reverse_cons];rfl
end
section
variable{X:Cx}{K:Frag}{F:Fx}{o:Ops}{n:Nat}{st st':St}{A:Around}{T g d:Sm}{Q:Unit->Shared->Prop}{E:Value->Shared->Prop}{u:Value}{v:V}{c:List Value}{t:Expr}
theorem Inv.vars(i:Inv X F st T)(h:∀y,AJ y st'.vars=AJ y st.vars)(hs:st'.store=st.store):Inv X F st' T:=⟨hs.symm▸i.mid,i.ffa,{i.frm with has:=by obtain⟨m,k,f,e,a⟩:=i.frm.has;exact⟨m,k,f,e,λx v j=>a x v<|(h x).symm.trans j⟩}⟩
def MT(H:Snd X o n)(HT:Top X)(Y:ClsG X K)(L:AW A n)(j:Ga X.G o F.fn t v st=some st')(i:Inv X F st T)(C:AE X.I T v u)(k:KU X F T Q st'):WP X A (assign t F.env u) Q E T:=by cases t with|Name x p=>exact iK j λM j=>wpAny_assign_Name (IO M i C<|sQ j k)|Attribute b m p=>unfold WP;rw[assign_Attribute];refine A7<|wpAny_holding<|Kg H L i j λq a y f J j=>bK j λfs O j=>iK j λN j=>Aq N λZ S=>A7<|wpAny_standAt<|A7<|wpAny_holding<|bG Y f.inv J O Z (Bn S) (C.mono f.mono) λl h=>wpAny_release ?_;exact sQ j k l (f.s.trans h)|Subscript b e p=>unfold WP;rw[assign_Subscript];exact A7 (wpAny_holding<|Kg H L i j λq a y f J j=>A7<|wpAny_holding<|JC H L f.inv j λz tk l h j=>mQ j k λσ B k=>A7<|wpAny_standAt<|A7<|wpAny_holding<|bT HT h.inv (h.mono.loc J) (C.mono<|f.mono.trans h.mono) B λw r=>wpAny_release<|k w<|(f.trans h).s.trans r)|_=>exact nK j
def JL{i:Fn}{e:Env}{f:List Expr}(h:Ga X.G o i t v st=some st'):assignEach (t::f) e=(false,assign t e)::assignEach f e:=by cases t with|Starred a b=>exact nK h|_=>rfl
def bk(H:Snd X o n)(HT:Top X)(Y:ClsG X K)(x:AW A n){h:List Expr}:∀{f:List V}{c:List Value}{st st':St}{T:Sm},GD X.G o F.fn h f st=some st'->Inv X F st T->AC (AE X.I T) f c->KU X F T Q st'->WP X A (assignInOrder ((assignEach h F.env).map (·.2)) c) Q E T:=by induction h with|nil=>exact λe i r k=>PyProof.Rows.assignInOrder_nil (iK e λ_ e=>sQ e k _ (AL.refl i).s)|cons t h w=>intro f c st st' T e i r k;cases f with|nil=>exact nK e|cons v f=>obtain⟨u,z,rfl,q,p⟩:=r;refine bK e λj l y=>?_;unfold WP;rw[JL l];exact PyProof.Rows.assignInOrder_cons<|MT H HT Y x l i q λm a=>w y a.inv (p.mono a.mono)<|k.then a
structure StL(fn:Fn)(env:Env)(ts:List Expr)(vs:List V):Prop where
 len:vs.length=ts.length
 lenE:(assignEach ts env).length=ts.length
 idx:(assignEach ts env).findIdx? (·.1)=none
def TV{h:Fn}{env:Env}{a:List Expr}:∀{vs:List V}{st st':St},GD X.G o h a vs st=some st'->StL h env a vs:=by induction a with|nil=>exact λe=>iK e λk _=>Ge (C:=λvs=>StL h env [] vs) k ⟨rfl,rfl,rfl⟩|cons t a j=>intro vs st st' e;cases vs with|nil=>exact nK e|cons v vs=>refine bK e λf i l=>?_;have q:=j (vs:=vs) l;refine⟨A3 (·+1) q.len,?_,?_⟩;rw[JL i];exact A3 (·+1) q.lenE;rw[JL i,List.findIdx?_cons,A1 Cb,q.idx];rfl
structure StN(fn:Fn)(xs:List Str)(vs:List V)(st st':St):Prop where
 len:vs.length=xs.length
 can:∀x∈xs,DD fn x=true
 eq:st'=JK (xs.zip vs) st
def bm{k:Fn}{m:List Expr}:∀{j:List Str}{f:List V}{st st':St},J7 m=some j->GD X.G o k m f st=some st'->StN k j f st st':=by induction m with|nil=>intro j f st st' i h;obtain rfl:=Option.some.inj i;exact iK h λB h=>Ge (C:=λf=>StN k [] f st st') B (by obtain rfl:=Option.some.inj h;exact⟨rfl,λ_ h=>Ew h,rfl⟩)|cons t m s=>intro j f st st' i h;cases f with|nil=>exact nK h|cons v f=>refine bK i λx z i=>mK (C:=λj=>StN k j (v::f) st st') i λr i=>bK h λa l I=>?_;have l:=JD (C:=λt=>Ga X.G o k t v st=some a->(if DD k x=true then some (st.set x v) else .none)=some a) z (λp h=>h) l;refine iK l λH l=>?_;obtain rfl:=Option.some.inj l;have q:=s i I;exact⟨A3 (·+1) q.len,λy w=>(An.mp w).elim (λe=>e▸H)<|q.can y,q.eq⟩
def bn{xs:List Str}:∀{vs:List V}{c:List Value}{st:St}{T:Sm},vs.length=xs.length->(∀x∈xs,DD F.fn x=true)->Inv X F st T->AC (AE X.I T) vs c->KU X F T Q (JK (xs.zip vs) st)->WP X A (assignInOrder (xs.map λn=>bindName F.env n) c) Q E T:=by induction xs with|nil=>exact λ_ _ i _ k=>PyProof.Rows.assignInOrder_nil (k _ (AL.refl i).s)|cons x xs m=>intro vs c st T e f i r k;cases vs with|nil=>exact absurd e (Nat.ne_of_beq_eq_false rfl)|cons v vs=>obtain⟨u,q,rfl,l,j⟩:=r;exact PyProof.Rows.assignInOrder_cons<|wpAny_bindName<|IO (f x<|.head _) i l λh a=>m (Nat.succ.inj e) (λy p=>f y<|.tail _ p) a.inv (j.mono a.mono)<|k.then a
def bp(H:Snd X o n)(HT:Top X)(Y:ClsG X K)(C:AW A n){q:List Expr}:∀{st st':St}{T:Sm},M7 X.G o F.fn v q st=some st'->Inv X F st T->AE X.I T v u->KU X F T Q st'->WP X A (assignAll u<|(assignEach q F.env).map (·.2)) Q E T:=by induction q with|nil=>exact λx i r k=>AR (sQ x k _ (AL.refl i).s)|cons t q L=>intro st st' T x i r k;refine bK x λl z y=>?_;unfold WP;rw[JL z];cases q with|nil=>exact MT H HT Y C z i r (sQ y k)|cons B p=>obtain⟨f,j,hf⟩:∃f j,(assignEach (B::p) F.env).map (·.2)=f::j:=bK y λ_ h _=>⟨_,_,by rw[JL h];rfl⟩;have a:=λ{T:Sm}=>L (st:=l) (st':=st') (T:=T) y;unfold WP at a;show wpAny (model X.prog X.w) A (assignAll u<|assign t F.env::(assignEach (B::p) F.env).map (·.2)) Q E T.s;rw[hf] at a ⊢;exact A7 (m:=holding [u]<|assign t F.env u)<|wpAny_holding<|MT H HT Y C z i r λJ e=>a e.inv (r.mono e.mono)<|k.then e
def bq(H:Snd X o n){s:Pos}(I:AW A n){x:List Expr}:∀{j:List Expr}{p:List V×St}{st:St}{T:Sm}{Q:List Value->Shared->Prop},Kb o F.fn x j st=some p->Inv X F st T->JE X F T Q p->WP X A (spliced<|backTo s<|starEach j F.env) Q E T:=by induction x with|nil=>exact λ{j p st T Q} f i k=>iK f λG f=>Ge (C:=λj=>WP X A (spliced<|backTo s<|starEach j F.env) Q E T) G (spliced_nil<|sQ (C:=JE X F _ _) f k [] _ (.refl i) rfl)|cons t x B=>intro j p st T Q f i k;cases j with|nil=>exact nK f|cons e j=>refine bK f λa y f=>?_;unfold WP;rw[bK y λ_ h _=>Fo H h];exact spliced_cons<|JA H I i y λu z m r=>mQ f k λb J k=>B J m.inv λc w l q=>k (u::c) w (m.trans l)<|.cons (r.mono l.mono) q
end
def MU{i g:Type}{c:Prop}[Decidable c]{a x:i}{f:g->i}{P:g->Prop}{b:g}(e:a=f b)(k:P b)(h:¬c->∃q,x=f q/\P q):∃q,(if c then a else x)=f q/\P q:=(Decidable.em c).elim (λd=>⟨b,(A5 d).trans e,k⟩) λd=>(h d).elim λq j=>⟨q,(A1 d).trans j.1,j.2⟩
def br{ts f:List Expr}{k k':Nat}{p p':Pos}{env:Env}(g:¬f.all (constantsAlone 8)=true):∃q,swappedStores [.Tuple ts k p] (.Tuple f k' p') env=pure q/\∀a,q=some a->a.length=ts.length/\a=ts.filterMap (λ|.Name id d=>if env.kindOf id==some .local&&d.line==((ts.head?.map (·.pos.line)).getD 0) then some id else none|_=>none):=by have c:∀{P:List Str->Prop}(a:List Str),(Option.none:Option<|List Str)=some a->P a:=λ_ h=>nK h;refine MU rfl c λ_=>MU rfl c λ_=>MU rfl c λe=>MU rfl c λ_=>⟨_,A1 g,λa h=>?_⟩;obtain rfl:=Option.some.inj h;refine⟨?_,rfl⟩;have e:=Bool.or_eq_false_iff.mp<|Bool.not_eq_true _▸e;exact Decidable.of_not_not λq=>bne_iff_ne.mpr q |>.symm.trans e.1 |> Bool.noConfusion
def bt{c:Str->Pos->Bool}{t:Expr}{x:Str}(h:(λ|.Name id a=>if c id a then some id else none|_=>none:Expr->Option Str) t=some x):FM t=some x:=by cases t with|Name id a=>exact iK h λ_ h=>h|_=>exact nK h
def bu{c:Str->Pos->Bool}{f:List Expr}:∀{a:List Str},a=f.filterMap (λ|.Name id d=>if c id d then some id else none|_=>none)->a.length=f.length->J7 f=some a:=by generalize j:(λ|.Name id d=>if c id d then some id else none|_=>none:Expr->Option Str)=g;have l:∀{t:Expr}{x:Str},g t=some x->FM t=some x:=λ{t x} h=>bt<|j▸h;clear j;induction f with|nil=>intro a h _;rw[h];rfl|cons t f k=>intro a h i;rw[List.filterMap_cons] at h;cases e:g t with|none=>rw[e] at h;exact absurd i (Nat.ne_of_lt<|D0<|h▸List.length_filterMap_le g f)|some x=>rw[e] at h;rw[h] at i ⊢;show(FM t).bind _=_;rw[l e];exact A3 (Option.map (x::·))<|k rfl<|Nat.succ.inj i
section
variable{X:Cx}{K:Frag}{F:Fx}{o:Ops}{n:Nat}{j g:St}{A:Around}{T B G:Sm}{Q:Flow->Shared->Prop}{E:Value->Shared->Prop}{u:Value}{v:V}{w:List Value}{t e:Expr}
def KN(X:Cx)(F:Fx)(T:Sm)(Q:Flow->Shared->Prop)(j:St):Prop:=∀B,AftS X F T j B->Q .next B.s
def AC.rev{d:Type}{P:d->Value->Prop}{l:List d}:∀{c:List Value},AC P l c->AC P l.reverse c.reverse:=by induction l with|nil=>intro c r;subst r;exact rfl|cons a l k=>intro c r;obtain⟨u,f,rfl,i,h⟩:=r;rw[List.reverse_cons,List.reverse_cons];exact(k h).append<|.one i
def TW(H:Snd X o n)(HT:Top X)(Y:ClsG X K){m:List Expr}{d:Nat}{c:Pos}{l:List V}{x:Addr}{y:Unit->Shared->Prop}(p:AW A n)(q:GD X.G o F.fn m l j=some g)(i:Inv X F j T)(C:T.s.heap.IsTuple x w.toArray)(r:AC (AE X.I T) l w)(k:KU X F T y g):WP X A (assign (.Tuple m d c) F.env<|.ref x) y E T:=by have L:=TV (env:=F.env) q;refine wpAny_assign_Tuple p.h C (by rw[List.size_toArray,r.length,L.len,L.lenE]) L.idx λJ f=>?_;have a:AL X F T j<|T.hp J T.s.toks:=.grow i λb z e=>f b z (Nat.ne_of_lt<|Heap.lt_size e) e;exact bk H HT Y p q a.inv (r.mono a.mono)<|k.then a.s
def bv(H:Snd X o n)(HT:Top X)(Y:ClsG X K){Z es:List Expr}{J O:Nat}{I M a1:Pos}{p:List V×St}(hA:AW A n)(ht:J8 Z=true)(hc:¬es.all (constantsAlone 8)=true)(h1:Kb o F.fn Z es j=some p)(h2:GD X.G o F.fn Z p.1 p.2=some g)(i:Inv X F j T)(k:KN X F T Q g):WP X A (exec (.Assign [.Tuple Z J I] (.Tuple es O M) a1) F.env) Q E T:=by
 unfold WP;rw[PyProof.Rows.exec_Assign];refine A7<|wpAny_standAt ?_;show wpAny _ _ ((pure false:Sem Bool) >>= _) _ _ _;refine A7<|AR<|A7<|Tuple_<|bq H hA h1 i λw a S r=>?_;have L:=TV (env:=F.env) h2;have hz:w.length<=sizeLine:=by rw[r.length,L.len];exact AB (Bn (CN.mp ht).1)<|by decide
 refine wpAny_newTuple ?_ hz;have l:AL X F a p.2<|a.hp (a.s.heap.push {cls:=.type "tuple",data:=.seq w.toArray}) a.s.toks:=.grow S.inv<|Dw _ _;have hT:(a.s.heap.push {cls:=.type "tuple",data:=.seq w.toArray}).IsTuple a.s.heap.objs.size w.toArray:=⟨_,De _ rfl,rfl,0,rfl⟩;have q:=S.trans l;obtain⟨sw,ad,af⟩:=br (ts:=Z) (k:=J) (k':=O) (p:=I) (p':=M) (env:=F.env) hc;refine A7<|wpAny_of_eq ad ?_;cases sw with|none=>exact A7 (m:=assign (.Tuple Z J I) F.env<|.ref a.s.heap.objs.size) (TW H HT Y hA h2 l.inv hT (r.mono l.mono) λab f=>AR<|k ab<|q.s.trans f)|some d=>
  obtain⟨al,am⟩:=af d rfl;have C:=bu (c:=λid a1=>F.env.kindOf id==some .local&&a1.line==((Z.head?.map (·.pos.line)).getD 0)) am al;have N:=bm C h2;have an:d.Nodup:=bi (by have:=(CN.mp ht).2;rw[C] at this;exact this);show wpAny _ _ (rule _ >>= _) _ _ _;refine A7<|wpAny_rule ?_;rw[show d.length=w.toArray.size by rw[List.size_toArray,r.length,N.len]];refine A7<|wpAny_unpackItems_tuple (s:={a.s with heap:=a.s.heap.push {cls:=.type "tuple",data:=.seq w.toArray} }) hA.h hT λh' ap=>?_;have f:AL X F (a.hp (a.s.heap.push {cls:=.type "tuple",data:=.seq w.toArray}) a.s.toks) p.2<|a.hp h' a.s.toks:=.grow l.inv λb ob e=>ap b ob (Nat.ne_of_lt<|Heap.lt_size e) e;refine A7 (bn (xs:=d.reverse) (vs:=p.1.reverse) (by rw[List.length_reverse,List.length_reverse,N.len]) (λx hx=>N.can x<|List.mem_reverse.mp hx) f.inv (r.mono<|l.mono.trans f.mono).rev λa4 a3=>AR ?_);have a2:((d.zip p.1).map (·.1)).Nodup:=by rw[List.map_fst_zip<|BB N.len.symm];exact an
  have z:=(q.trans f).s.trans a3;refine k a4 ⟨z.ext,z.mono,z.inv.vars (λy=>?_) ?_⟩;rw[N.eq,TU a2,bj N.len.symm,TU<|by rw[List.map_reverse];exact TT a2,bh a2];rw[N.eq,TO,TO]
def TX(H:Snd X o n){m:Fn}{k:Env}{l:Option Expr}{f:Nat}{q:R×St}(h:o.ev m e j=some q)(i:GY e=false):swapsWith e l f k=pure false:=by cases e with|ListComp a b c d=>exact Kd i|SetComp a b c d=>exact nK ((H.setc _ _ _ _ _ _).symm.trans h)|DictComp a b c d e=>exact nK ((H.dctc _ _ _ _ _ _ _).symm.trans h)|_=>rfl
def bw{k:List Expr}{f:Nat}{d:Pos}{i:Env}(h:HP e=.none):swappedStores [.Tuple k f d] e i=pure none:=by cases e with|Tuple a b c=>exact FO h|_=>rfl
def bx{h:List Expr}{d:Nat}{a:Pos}{f:Env}{c:Nat}:swapsWithSole [.Tuple h d a] e c f=pure false:=by show swapsWith e (some<|.Tuple h d a) c f=pure false;cases e<;>rfl
def bz(H:Snd X o n)(HT:Top X)(Y:ClsG X K){z:List Expr}{c:Nat}{a I:Pos}{p:V×St}{l:List V}(L:AW A n)(J:HP e=.none)(O:En o false F.fn e j=some p)(M:I5 p.1=some l)(N:GD X.G o F.fn z l p.2=some g)(i:Inv X F j T)(k:KN X F T Q g):WP X A (exec (.Assign [.Tuple z c a] e I) F.env) Q E T:=by unfold WP;rw[PyProof.Rows.exec_Assign];refine A7<|wpAny_standAt<|A7<|wpAny_of_eq bx ?_;refine A7<|JA H L i O λu y d h=>A7<|wpAny_of_eq (bw J) ?_;refine OW (C:=λu=>wpAny (model X.prog X.w) A (assignAll u ((assignEach [.Tuple z c a] F.env).map (·.2)) >>= λ_=>pure Flow.next) Q E y.s) h M λS w f ⟨m,o⟩ r _=>?_;exact A7 (m:=assign (.Tuple z c a) F.env<|.ref S)<|TW H HT Y L N d.inv ⟨_,o,rfl,m,rfl⟩ r λx q=>AR<|k x<|d.s.trans q
def cB{x:Str}{px:Pos}{L:Addr}{S:Value}{b:Bool}{p:R×St}{q:V×St}(hx:DD F.fn x=true)(i:Inv X F j T)(C:CompEnd X F T p B S L)(a3:O8 b p.1 p.2=some q)(k:KN X F T Q<|q.2.set x q.1):compPost (model X.prog X.w) A E (some λv=>assignAll v<|(assignEach [.Name x px] F.env).map (·.2)) (λ_ s'=>Q .next s') S L (.ok .next) B.s:=
 SE C.aft C.rr a3 λh r l N Y=>by
  rw[<-r];show wpAny (model X.prog X.w) A (assign (.Name x px) F.env S) _ E h.s;have I:¬FA F.env L:=λq=>C.new<|i.faal q;have a4:¬h.M.F L:=λq=>C.f<|(l L C.ne).1 q;have O:¬h.M.W L:=λq=>C.w<|(l L C.ne).2 q;refine wpAny_assign_Name<|IO hx N.inv Y λc d=>?_;obtain⟨m,Z⟩:=C.ns;have J:Al h.s.heap L:=by rw[r];exact Z.imp λo q=>q.elim λ_ q=>q.elim λ_ q=>q.1
  have a1:¬c.M.F L/\¬c.M.W L:=⟨λq=>(d.ext.fnew L q).elim a4 λq=>q.elim O λq=>q J,λq=>(d.ext.wnew L q).elim O λq=>q J⟩;refine⟨m,Z.at' λy e=>d.ext.keep L y (r▸e) λq=>q.elim O λq=>I q.fa,λh' a2=>?_⟩;have hk:∀b y,b≠L->c.s.heap.get? b=some y->h'.get? b=some y:=λb y hb e=>(a2.2 b hb).trans e;have hn:∀b,c.M.F b\/c.M.W b\/FA F.env b->b≠L:=λb q z=>q.elim (λq=>a1.1<|z▸q) λq=>q.elim (λq=>a1.2<|z▸q) λq=>I<|z▸q;have H:=N.s.trans d;obtain⟨af,ab,e⟩:=H.ext.sh;exact k (c.hp h' c.s.toks) ⟨⟨⟨h',c.s.toks,by show {c.s with heap:=h',toks:=c.s.toks}=_;rw[e]⟩,λa y e1 n1=>hk a y (λq=>C.new<|q▸⟨_,e1⟩)<|H.ext.keep a y e1 n1,λa q=>(H.ext.al a q).imp λy e1=>hk a y (λz=>C.new<|z▸q) e1,H.ext.F,H.ext.fnew,H.ext.wnew,H.ext.ad⟩,H.mono.trans ⟨λ_ f=>f,λb o f=>hk b o<|hn b<|.inl f,CG _⟩,d.inv.hp λb o q=>hk b o<|hn b q⟩
def Ko(X:Cx)(o:Ops)(n:Nat)(fn:Fn):Prop:=∀{elt gs sc p j q},o.ev fn (.ListComp elt gs sc p) j=some q->∃a c,c<=n/\Snd X a c/\Ly X.G a fn elt gs sc j=some q
def cC(H:Snd X o n)(HT:Top X)(Y:ClsG X K){pos:Pos}{p:V×St}{b:Bool}(x:AW A n)(z:En o b F.fn e j=some p)(q:Ga X.G o F.fn t p.1 p.2=some g)(i:Inv X F j T)(k:KN X F T Q g)(hs:swapsWithSole [t] e pos.line F.env=pure false):WP X A (exec (.Assign [t] e pos) F.env) Q E T:=by
 unfold WP;rw[PyProof.Rows.exec_Assign];have r:swappedStores [t] e F.env=pure none:=by cases t with|Tuple a b c=>exact nK q|List a b=>exact nK q|_=>rfl
 refine A7<|wpAny_standAt<|A7<|wpAny_of_eq hs<|A7<|JA H x i z λu y d f=>A7<|wpAny_of_eq r ?_;rw[JL q];exact A7 (m:=assign t F.env u)<|MT H HT Y x q d.inv f λl h=>AR<|k l<|d.s.trans h
def cD(H:Snd X o n)(HT:Top X)(Y:ClsG X K)(Z:Ko X o n F.fn){a:Pos}{p:V×St}{b:Bool}(s:AW A n)(f:En o b F.fn e j=some p)(d:Ga X.G o F.fn t p.1 p.2=some g)(i:Inv X F j T)(k:KN X F T Q g):WP X A (exec (.Assign [t] e a) F.env) Q E T:=by have plain:=cC (pos:=a) (E:=E) H HT Y s f d i k;cases hlc:GY e with|false=>exact plain (bK f λq c _=>TX H c hlc)|true=>
 revert f plain;refine ZC (C:=λe=>En o b F.fn e j=some p->(swapsWithSole [t] e a.line F.env=pure false->WP X A (exec (.Assign [t] e a) F.env) Q E T)->WP X A (exec (.Assign [t] e a) F.env) Q E T) hlc λm O z J f plain=>?_;cases t with
 |Name x I=>obtain⟨b,hb⟩:∃b,swapsWithSole [.Name x I] (.ListComp m O z J) a.line F.env=pure b:=⟨_,rfl⟩;cases b with|false=>exact plain hb|true=>refine bK f λq c l=>iK d λM d=>?_;unfold WP;rw[PyProof.Rows.exec_Assign];refine A7<|wpAny_standAt<|A7<|wpAny_of_eq hb ?_;obtain⟨o',n',h,H',N⟩:=Z c;exact A7<|A7<|wpAny_mono (T8 (Q:=λ_ r=>Q .next r) H' HT (s.less h) N i λS L y C=>cB M i C l<|sQ d k) (λ_ r c=>AR<|AR c) λ_ _ e=>e
 |Attribute _ _ _=>exact plain rfl|Subscript _ _ _=>exact plain rfl|_=>exact nK d
def cE(H:Snd X o n)(HT:Top X)(Y:ClsG X K){d:List Expr}{h:Pos}{p:V×St}(x:AW A n)(r:one d=.none)(C:En o false F.fn e j=some p)(z:M7 X.G o F.fn p.1 d p.2=some g)(i:Inv X F j T)(k:KN X F T Q g):WP X A (exec (.Assign d e h) F.env) Q E T:=by
 unfold WP;rw[PyProof.Rows.exec_Assign];have hs:swapsWithSole d e h.line F.env=pure false/\swappedStores d e F.env=pure none:=by cases d with|nil=>exact⟨rfl,rfl⟩|cons a l=>cases l with|nil=>exact FO r|cons b l=>refine⟨rfl,?_⟩;cases a<;>rfl
 refine A7<|wpAny_standAt<|A7<|wpAny_of_eq hs.1<|A7<|JA H x i C λu y c f=>A7<|wpAny_of_eq hs.2<|A7 ?_;exact bp H HT Y x z c.inv f λq m=>AR<|k q<|c.s.trans m
end
section
variable{X:Cx}{K:Frag}{F:Fx}{o:Ops}{n:Nat}{y g:St}{A:Around}{T w J:Sm}{Q:Flow->Shared->Prop}{E:Value->Shared->Prop}{u:Value}{v:V}{t e:Expr}
def cF(H:Snd X o n){h:Fn}{d:Env}{q:It×St}(f:Fk X.G o h e y=some q)(x:Value):foldedSetIterable e d x=pure x:=by cases e with|Set a b c=>exact nK ((A3 (Option.bind · _)<|H.set _ _ _ _ _).symm.trans f)|_=>rfl
def cG{x:Str}{Q:Value->Shared->Prop}(i:Inv X F y T)(f:DD F.fn x=true)(p:AJ x y.vars=some v)(k:∀u,AE X.I T v u->Q u T.s):WP X A (loadName F.env x) Q E T:=by
 obtain⟨m,C,r,B,j⟩:=i.frm.has;obtain⟨u,l,q⟩:=j x v p;refine Si f (λf=>?_) λf=>?_;have d:=i.frm.loc x f;exact q.elim (λq=>wpAny_loadName_local i.frm.kind q.1 r q.2<|k u l) λq=>q.1.elim (λz=>by cases d.symm.trans z) λz=>by cases d.symm.trans z
 have d:=i.frm.cel x f;refine q.elim (λq=>by cases d.symm.trans q.1) λq=>?_;obtain⟨c,h⟩:=i.frm.cells x<|.inl d;have a:=B x c h;rw[q.2] at a;exact wpAny_loadName_cell i.frm.kind d h a<|k u l
def cH(H:Snd X o n)(HT:Top X)(G:AW A n){x:Unit->Shared->Prop}{m:List Expr}:∀{y g:St}{T:Sm},Kc o F.fn m y=some g->Inv X F y T->KU X F T x g->WP X A (deleteEach m F.env) x E T:=by induction m with|nil=>exact λc i k=>wpAny_deleteEach_nil (sQ c k _ (AL.refl i).s)|cons t m S=>intro y g T c i k;exact bK c λp Y c=>ZA (C:=λt=>WP X A (deleteEach (t::m) F.env) x E T) Y λO=>wpAny_deleteEach_cons<|wpAny_delete_Subscript<|Kg H G i c λq a M l Z c=>JC H G l.inv c λz N r h c=>bK c λd h3 c=>mK (C:=λd=>Kc o F.fn m d=some g->wpAny (model X.prog X.w) A (PySem.delItem (.ref a)<|.int (X.I.f z.1.1 z.1.2) N) (λ_ s=>wpAny (model X.prog X.w) A (deleteEach m F.env) x E s) E r.s) h3 (λσ B c=>bU HT h.inv (h.mono.loc Z) B λL j=>S c j.inv<|k.then<|(l.trans h).s.trans j) c
def TY{fl:Fl}{f:Flow}(h:ON fl=true)(a:SD X F T w fl f):f=.next:=by cases fl with|next=>exact a|ret _=>exact Bw h
structure ForSt(X:Cx)(F:Fx)(o:Ops)(tg:Tg)(body:List Stmt)(it:It)(g:St)(T TS:Sm)(N:Nat)(fp wr:List Addr)(Sf:Nat->Heap->Prop)(kk:Nat)(s:Shared)(j:Nat)(w:Sm)(st'':St):Prop where
 s:s=w.s
 kk:kk=N+1-j
 le:j<=N
 ext:DK (λ_=>False) F T w
 mono:Mono T w
 inv:Inv X F st'' w
 li:LI F (λ_=>False) fp wr Sf TS j w
 rest:forLoop' o F.fn tg body (it.items.drop j) st''=some g
def DK.s{B:Addr->Prop}(x:DK (λ_=>False) F T w):Ext (Wr F T) T w:=x.weaken λ_ q=>.inl<|q.elim id False.elim
def cI(H:Snd X o n)(HT:Top X){h:List Stmt}{ad:Pos}{p:It×St}{tg:Tg}(hA:AW A n)(h1:Fk X.G o F.fn e y=some p)(O:Dg t=some tg)(Y:Ci F.fn p.1.pr tg=true)(h2:forLoop' o F.fn tg h p.1.items p.2=some g)(i:Inv X F y T)(k:KN X F T Q g):WP X A (exec (.For t e h [] ad) F.env) Q E T:=by refine wpAny_For (On H HT hA (ML O) Y h1 i λI C l q=>?_)<|cF H h1;obtain⟨N,fp,wr,P,Md,Sf,S⟩:=q;refine codeAny_forLoop_any (λkk s'=>∃j w M,ForSt X F o tg h p.1 g T C N fp wr Sf kk s' j w M) ?_ (N+1) ⟨0,C,p.2,rfl,rfl,Bm _,.ofW l.ext,l.mono,l.inv,⟨S.st0,λb hb=>⟨(S.fp b hb).1,id⟩,λb hb=>(S.wr b hb).1,.refl _⟩,h2⟩;rintro kk b1 ⟨j,b3,ab,L⟩;obtain rfl:=L.s;obtain rfl:=L.kk;refine T3 S.turns S.item S.len (λb hb=>(S.wr b hb).2) L.li L.inv L.ext (λaf a2 f=>?_) (λx v ar hx an=>?_) L.le;subst af;have c:=L.rest;rw[List.drop_eq_nil_of_le<|BB S.len] at c;exact wpAny_execs_nil<|sQ c k a2 ⟨f.ext.s (B:=λ_=>False),L.mono.trans f.mono,f.inv⟩;have Z:j<p.1.items.length:=(List.getElem?_eq_some_iff.mp hx).1;have c:=L.rest;rw[List.drop_eq_getElem_cons Z,(List.getElem?_eq_some_iff.mp hx).2] at c;refine bK c λa4 f1 c=>bK c λq f2 c=>iK c λhn c=>an λa1 d a3 am=>Sk hA O Y f1 d.inv am λb2 r=>H.ex hA f2 r.inv λfl z m ap=>?_;cases TY hn ap;have a:=r.trans m;have xx:DK (λ_=>False) F a1 z:=.of a.ext;have hj:j<N:=S.len▸Z;exact⟨_,Nat.sub_lt_sub_left (D0 L.le)<|CY j,j+1,z,q.2,rfl,rfl,hj,d.ext.trans xx,(L.mono.trans d.mono).trans a.mono,m.inv,a3.ext S.turns S.al xx a.mono,c⟩
def cJ(H:Snd X o n){c:List Stmt}{z:Pos}{N:Nat}(I:AW A n)(Y:whileLoop' o F.fn t c N y=some g)(i:Inv X F y T)(k:KN X F T Q g):WP X A (exec (.While t c [] z) F.env) Q E T:=by refine wpAny_While<|codeAny_whileLoop (λj M=>∃w h,M=w.s/\AftS X F T h w/\whileLoop' o F.fn t c j h=some g) ?_ N ⟨T,y,rfl,(AL.refl i).s,Y⟩;rintro j G ⟨L,x,rfl,f,a⟩;cases j with|zero=>exact nK a|succ j=>refine bK a λq Z a=>H.tt I Z f.inv λp d=>cK a (λC a=>?_) λC a=>?_;rw[A5 C];refine bK a λr S a=>iK a λO a=>H.ex I S d.inv λfl m l B=>?_;cases TY O B;exact⟨j,CY _,m,r.2,rfl,(f.trans d.s).trans l,a⟩;rw[A1<|by rw[C];exact Cb];exact wpAny_execs_nil<|sQ a k p<|f.trans d.s
def cN(H:Snd X o n)(HT:Top X)(Y:ClsG X K)(O:Ko X o n F.fn){j:List Expr}{d:Pos}(m:AW A n)(a:Ry X.G o F.fn j e y=some g)(i:Inv X F y T)(k:KN X F T Q g):WP X A (exec (.Assign j e d) F.env) Q E T:=oK a (λt I a=>FQ (C:=λj=>WP X A (exec (.Assign j e d) F.env) Q E T) I<|oK a (λz B a=>OR (C:=λt=>WP X A (exec (.Assign [t] e d) F.env) Q E T) B λc q=>iK a λr a=>oK a (λZ x a=>OR (C:=λe=>WP X A (exec (.Assign [.Tuple z c q] e d) F.env) Q E T) x λc' S=>cK a (λ_ a=>nK a) λN a=>bK a λp h f=>bv H HT Y m r (by rw[N];nofun) h f i k) λs a=>bK a λp h a=>bK a λl M f=>bz H HT Y m s h M f i k) λ_ a=>bK a λp h f=>cD H HT Y O m h f i k) λL a=>iK a λ_ a=>bK a λp h f=>cE H HT Y m L h f i k
def cO(H:Snd X o n){x:Str}{N B:Pos}(Y:AW A n)(m:Rz o F.fn x e y=some g)(i:Inv X F y T)(k:KN X F T Q g):WP X A (exec (.AugAssign (.Name x N) .Add e B) F.env) Q E T:=iK m λL m=>bK m λv O m=>bK m λa G m=>bK G λq S G=>wpAny_AugAssign_Name<|cG i L O λu C=>JB (P:=λv=>AE X.I T v u->wpAny (model X.prog X.w) A (eval e F.env) _ E T.s) S (λC=>AZ.num_k (P:=λu=>wpAny (model X.prog X.w) A (eval e F.env) (λc h=>wpAny (model X.prog X.w) A (inplaceOp .Add u c) _ E h) E T.s) C λM=>Gd (P:=λq=>wpAny (model X.prog X.w) A (eval e F.env) (λc h=>wpAny (model X.prog X.w) A (inplaceOp .Add (.int (X.I.f q.1 q.2) M) c) _ E h) E T.s) G<|OP H Y i m k λz Z l j k=>P.iadd_int<|IO (v:=.d<|.int<|a+z.1) L (AL.tok j.inv<|l.s.toks+1).inv ⟨_,rfl⟩ λr p=>k r<|(j.trans<|AL.tok j.inv<|l.s.toks+1).s.trans p) C
def nx{k:KX X F T Q (next g)}:KN X F T Q g:=λw a=>k .next w a rfl
def cQ(H:Snd X o n)(HT:Top X)(Y:ClsG X K)(HE:Ko X o n F.fn){c:Stmt}{p:Fl×St}(m:AW A n)(d:OO X.G o F.fn c y=some p)(i:Inv X F y T)(k:KX X F T Q p):WP X A (exec c F.env) Q E T:=by
 cases c with
 |Assign ts e f=>exact mQ d k λz d k=>cN H HT Y HE m d i (nx (k:=k))|AugAssign t op e f=>cases op with|Add=>exact bK d λx hx d=>mQ d k λz d k=>JD (C:=λt=>WP X A (exec (.AugAssign t .Add e f) F.env) Q E T) hx λpx=>cO H m d i (nx (k:=k))|_=>exact nK d
 |If t b e f=>refine bK d λq r d=>wpAny_If<|H.tt m r i λZ j=>cK d (λS d=>?_) λS d=>?_;rw[A5 S];exact H.ex m d j.inv<|k.then j.s;rw[A1<|by rw[S];exact Cb];exact H.ex m d j.inv (k.then j.s)|For t e L B f=>cases B with|cons _ _=>exact nK d|nil=>exact bK d λq r d=>bK d λtg M d=>iK d λN d=>mQ d k λl I k=>cI H HT m r M N I i<|nx (k:=k)
 |While t L B f=>cases B with|cons _ _=>exact nK d|nil=>exact mQ d k λl I k=>cJ H m I i<|nx (k:=k)
 |Return e f=>cases e with|some e=>exact mQ d k λq r k=>wpAny_Return_some (H.ev m r i λu w a q=>k _ w a.s ⟨u,rfl,q⟩)|none=>exact wpAny_Return_none<|sQ d k _ T (AL.refl i).s ⟨_,rfl,rfl⟩
 |Expr e f=>refine eK d (λ_ d=>nK d) λO=>?_;cases hlc:GY e with|true=>exact eK d (λ_ d=>nK d) λ_=>absurd d (by show(if GY e=true then _ else _)≠_;rw[A5 hlc];intro h;exact Ae h)|false=>exact mQ O k λq r k=>wpAny_Expr_any (H.ev m r i λu w a _=>k .next w a.s rfl) (by unfold interactive;rw[i.frm.kind];rfl)<|TX H r hlc
 |Delete ts f=>exact mQ d k λl I k=>wpAny_Delete (cH H HT m I i λw a=>k .next w a rfl)|_=>exact nK d
def cR(H:Snd X o n)(HT:Top X)(Y:ClsG X K)(C:Ko X o n F.fn){m:List Stmt}{p:Fl×St}(z:AW A n)(h:S5 X.G o F.fn m y=some p)(i:Inv X F y T)(k:KX X F T Q p):WP X A (execs m F.env) Q E T:=by cases m with|nil=>exact wpAny_execs_nil (sQ h k .next T (AL.refl i).s rfl)|cons c x=>refine bK h λq B h=>wpAny_execs_cons<|cQ H HT Y C z B i λfl j a d=>?_;obtain⟨f,l⟩:=q;cases f with|next=>subst d;exact H.ex z h a.inv (k.then a)|ret r=>obtain⟨u,rfl,q⟩:=d;exact sQ h k _ j a ⟨u,rfl,q⟩
end
open PySem.Spec
def cS:typeLookup (.type "list") "keys" = pure none:=by rw[typeLookup_type,builtinLookup_eq_fast];kernel_rfl
def cU{n:Program}{w:World}{A:Around}{E:Value->Shared->Prop}{s:Shared}{a:Addr}{o:Obj}{t:Array Value}{k:Nat}{f:Str}{Q:Option Value->Shared->Prop} (v:s.heap.get? a=some o) (y:o.cls=.type "list") (i:o.data=.seq t k) (x:o.dict=none) (l:typeLookup (.type "list") f=pure none) (j:(["__module__","__name__","__qualname__","__doc__","__annotations__"]:List Str).contains f=false) (H:A.handled=none) (h:∀r u,(∀b o,s.heap.get? b=some o->r.get? b=some o)->Q none {s with heap:=r,toks:=u}) (q:f.length+100<=sizeLine:=by size_fits):wpAny (model n w) A (getAttr? (.ref a) f) Q E s:=by
 obtain⟨c,I,J,B⟩:=o;simp only at y i x;subst y i x;obtain⟨G,g,d,u,C⟩:=s;have z:∀m,(⟨G,g,d,m,C⟩:Shared).TypeIs (.ref a) "list":=λ_=>⟨_,v,rfl⟩;have T:=sub_AttributeError;have S:=F.slot_list_getattribute.lookup;have O:=F.slot_list_getattribute.bind<|.ref a;have N:=am_list_getattr_none;unfold getAttr? getAttrBy? getAttrBy;repeat (any_goals (first|assumption|exact z _|((with_reducible show wpAny _ _ (call (Value.builtin "list.__getattribute__") _ _) _ _ _);refine call_meets F.slot_list_getattribute (z _) am_entry_list_getattribute (F.args_list_getattribute_2 _ _) (meets_getattribute_miss_list a t k B f _ l j q) ⟨v,H,λr m e p=>?_⟩)|wp_step))
 obtain⟨L,K,M⟩:=p.there;show wpAny _ _ (getattributeRaised _ _ _ _ _ _ _) _ _ _;unfold getattributeRaised;repeat (any_goals (first|assumption|wp_step))
 exact h _ _ p.keeps
def TZ:entryFor table "dict.update.loop" = some Builtin.«dict.update.loop»:=entryFor_of_tree<|by kernel_rfl
def MV:plainId "dict.update.loop" = true:=by decide +kernel
section
variable{X:Cx}{F:Fx}{o:Ops}{n:Nat}{w B:St}{A:Around}{T T' G:Sm}{Q E:Value->Shared->Prop}{I:Iota}{c:Bool}{l:List V}{us:List Value}{prs:List (Int×V)}{r:R}{u:Value}
structure PrD(I:Iota)(T:Sm)(c:Bool)(p:Int×V)(u:Value)(a:Addr)(m:Nat)(t:Tok)(ux:Value):Prop where
 u:u=.ref a
 f:T.M.F a
 obj:T.s.heap.get? a=some (seqObj "tuple" (List.toArray [.int (I.f c p.1) t,ux]) m)
 rep:AE I T p.2 ux
def cV{d x:D}{q:Bool×Int}{C:D->Prop}(h:OA d=some (q,x))(k:C<|.tup [Eo q,x]):C d:=by
 cases d with
 |tup l=>cases l with|nil=>exact nK h|cons y l=>cases l with|nil=>exact nK h|cons z l=>cases l with|cons _ _=>exact nK h|nil=>have h:(E3 y).map (λq=>(q,z))=some (q,x):=h;cases hq:E3 y with|none=>rw[hq] at h;exact Ae h|some a=>rw[hq] at h;obtain⟨rfl,rfl⟩:=Prod.mk.inj<|Option.some.inj h;exact Kn (C:=λy=>C<|.tup [y,_]) hq k
 |_=>exact nK h
def cW:∀{l:List V}{us:List Value}{prs:List (Int×V)},IA c l=some prs->AC (AE I T) l us->AC (λp u=>∃a m t e,PrD I T c p u a m t e) prs us/\prs.length=l.length:=by intro l;induction l with|nil=>intro us prs h r;obtain rfl:=Option.some.inj h;exact⟨r,rfl⟩|cons v l L=>intro us prs h r;obtain⟨u,z,rfl,g,H⟩:=r;refine bK h λd N h=>bK h λp M h=>iK h λO h=>mK (C:=λprs=>AC (λp u=>∃a m t e,PrD I T c p u a m t e) prs (u::z)/\prs.length=l.length+1) h λs hs=>?_;have q:=L hs H;refine⟨.cons ?_ q.1,A3 (·+1) q.2⟩;obtain⟨⟨y,k⟩,x⟩:=p;cases beq_iff_eq.mp O;refine J9 (P:=λv=>AE I T v u->_) N (λg=>cV (C:=λd=>AZ I T d u->_) M (λg=>?_) g) g;obtain⟨a,us,rfl,f,⟨m,o⟩,_,j,Z,rfl,K,i,Y,rfl,J,rfl⟩:=g;exact AZ.num_k (P:=λj=>T.s.heap.get? a=some (seqObj "tuple" (List.toArray [j,i]) m)->∃S m t e,PrD I T y (k,.d x) (.ref a) S m t e) K (λt o=>⟨a,m,t,i,rfl,f,o,J⟩) o
def cX{T₀:Sm}{d Ia la:Addr}{R:Result->Shared->Prop}(hh:A.handled=none)(hF:∀a,T₀.M.F a->a≠d/\a≠Ia)(an:d≠Ia)(ap:la≠d)(ar:la≠Ia)(hz:prs.length<=lim) (hp:AC (λp u=>∃a m t ux,PrD I T₀ c p u a m t ux) prs us) (L:T₀.s.heap.IsList la us.toArray):∀(kk j:Nat)(h:Heap)(z:Nat)(Y:List<|Int×V)(y:List<|Int×Value),j+kk=prs.length->(∀b g,b≠d->b≠Ia->T₀.s.heap.get? b=some g->h.get? b=some g)->h.IsListIter Ia la j->h.DictOf (intKind X.prog X.w) d y->Bf I (T₀.hp h z) c Y y->y.length<=j->(∀h z J,(∀b g,b≠d->b≠Ia->T₀.s.heap.get? b=some g->h.get? b=some g)->h.DictOf (intKind X.prog X.w) d J->Bf I (T₀.hp h z) c ((prs.drop j).foldl (λY p=>BX p.1 p.2 Y) Y) J->R (.ok<|.ret .none) {T₀.s with heap:=h,toks:=z})->codeAny (model X.prog X.w) A (.builtin "dict.update.loop" ⟨[.ref d,.ref Ia,rawInt j,.none],[]⟩) R {T₀.s with heap:=h,toks:=z}:=by intro kk;induction kk with|zero=>intro j h z Y y hk i af hd hr ad hR;have hk:j=prs.length:=hk;have hL:h.IsList la us.toArray:=L.at λg e=>i la g ap ar e;refine codeAny_builtin TZ ?_;rw[Around.under_plainId MV _];show wpAny _ A.in1 (pyNext (.ref Ia) >>= _) _ _ _;refine A7 (wpAny_pyNext_list_end hh af hL (List.getElem?_toArray.trans<|List.getElem?_eq_none<|by rw[hp.length,hk];exact Au _) λh' al=>?_);show wpAny _ A.in1 (Builtin.Dict.addKeywords d [] >>= _) _ _ _;refine A7<|AR<|AR ?_;rw[List.drop_eq_nil_of_le<|BB hk.symm] at hR;exact hR h' z y (λb g h1 h2 e=>al b g h2<|i b g h1 h2 e) (hd.at λg e=>al d g an e) (Bf.mono (T:=T₀.hp h z) (T':=T₀.hp h' z) ⟨λ_ f=>f,λb g f e=>al b g (hF b f).2 e,CG _⟩ hr)|succ kk ih=>
 intro j h z Y y hk i af hd hr ad hR;have ab:j<prs.length:=by rw[<-hk];exact Nat.lt_add_of_pos_right<|Nat.succ_pos _
 have hL:h.IsList la us.toArray:=L.at λg e=>i la g ap ar e;obtain⟨uj,b3,a,m,t,ux,P⟩:=hp.get<|Cv ab;refine codeAny_builtin TZ ?_;rw[Around.under_plainId MV _];show wpAny _ A.in1 (pyNext (.ref Ia) >>= _) _ _ _;refine A7<|wpAny_pyNext_list_item af hL (x:=uj) (List.getElem?_toArray.trans b3) λZ S H=>?_;have O:∀b g,b≠d->b≠Ia->T₀.s.heap.get? b=some g->Z.get? b=some g:=λb g e1 e2 e=>(H.2 b e2).trans<|i b g e1 e2 e;have o2:=O a _ (hF a P.f).1 (hF a P.f).2 P.obj;rw[P.u];dsimp only;refine A7<|wpAny_holding<|A7<|wpAny_tryCatch ?_;unfold Builtin.Dict.pairItems;refine A7<|wpAny_typeOf (T:="tuple") ⟨_,o2,rfl⟩ ?_;rw[A5<|by decide];refine A7<|wpAny_seqItems o2 rfl<|AR ?_;show wpAny _ _ (holding _<|dictSet d (.int (I.f c prs[j].1) t) ux) _ _ _;refine wpAny_holding<|wpAny_dictSet_pairs (s:={T₀.s with heap:=Z,toks:=z}) (intKind_is X.prog X.w (I.f c prs[j].1) t) (hd.at λg e=>(H.2 d an).trans e) (λv am C=>AR ⟨plainId_quiet MV _,?_⟩)<|AB ad<|AB (BS ab)<|AB hz JF;have N:∀b g,b≠d->b≠Ia->T₀.s.heap.get? b=some g->v.get? b=some g:=λb g e1 e2 e=>(C.2 b e1).trans<|O b g e1 e2 e;have K:Bf I (T₀.hp v<|z+1) c Y y:=Bf.mono (T:=T₀.hp h z) (T':=T₀.hp v<|z+1) ⟨λ_ f=>f,λb g f e=>(C.2 b (hF b f).1).trans<|(H.2 b (hF b f).2).trans e,CG _⟩ hr;have a4:AE I (T₀.hp v<|z+1) prs[j].2 ux:=AE.mono (T:=T₀) (T':=T₀.hp v<|z+1) ⟨λ_ f=>f,λb g f e=>N b g (hF b f).1 (hF b f).2 e,CG _⟩ P.rep;have b2:(y.map (·.1)).Nodup:=hd.elim λ_ q=>q.elim λ_ q=>q.elim λ_ q=>q.2.2.2.2.2;have rs:=Bf.set (k:=prs[j].1) a4 K b2;have:=ih (j+1) v (z+1) (BX prs[j].1 prs[j].2 Y) (stored y (I.f c prs[j].1) ux) (by rw[<-hk,DB];rfl) N (S.at λg e=>(C.2 Ia<|Ne.symm an).trans e) am rs (by rw[rs.length];exact AB (Os Y)<|CV<|K.length▸ad) (λh' b1 J a1 a2 a3=>hR h' b1 J a1 a2<|by rw[List.drop_eq_getElem_cons ab,List.foldl_cons];exact a3);exact this
def cY{es:List (Int×V)}:(prs.foldl (λes p=>BX p.1 p.2 es) es).length<=es.length+prs.length:=by induction prs generalizing es with|nil=>exact Au _|cons p prs a=>exact AB a<|by rw[CK,C7 prs.length 1,<-Bv];exact Ds (Os es) _
def cZ(HT:Top X){σ:List Cell}(hA:AW A n)(i:Inv X F w T)(hr:RR X F T' T r u)(he:Rj w.store r=some σ)(k:KR X F T Q (.val<|.loc w.store.length,w.sto σ)):WP X A (call (.type "dict") [u]) Q E T:=bK he λl hl he=>mQ (C:=λσ=>KR X F T Q (.val<|.loc w.store.length,w.sto σ)) he k λprs hp k=>lst_k (C:=λu=>WP X A (call (.type "dict") [u]) Q E T) i.mid hr hl λla us ⟨m,o1⟩ r1 z1=>by have Z:=cW hp r1;have hz:prs.length<=lim:=Z.2▸z1;have ab:la<T.s.heap.objs.size:=Heap.lt_size o1;refine callType_codes (Q₁:=λO K=>O=.ref T.s.heap.objs.size/\K={T.s with heap:=T.s.heap.push {cls:=.type "dict",data:=.dict #[]} }) PySem.F.kt_called_dict (PySem.F.kt_typeCall_dict_1 _) PySem.F.entry_dict_init (kt_code_dict_new _ ⟨rfl,rfl⟩) ?_;rintro O K ⟨rfl,rfl⟩;have H:(T.s.heap.push {cls:=.type "dict",data:=.dict #[]}).DictOf (intKind X.prog X.w) T.s.heap.objs.size []:=Heap.DictOf.new T.s.heap;have o2:(T.s.heap.push {cls:=.type "dict",data:=.dict #[]}).get? la=some (seqObj "list" us.toArray m):=E1 _ o1;refine⟨H.typeIs,PySem.F.args_dict_init_2 _ _,?_⟩;unfold Builtin.«dict.__init__» Builtin.Dict.selfAndRest;refine A7<|A7<|wpAny_notOrdered_dict H.typeIs ?_;show wpAny _ _ (pure (T.s.heap.objs.size,[Value.ref la])) _ _ _;refine AR ?_;show wpAny _ _ (Builtin.Dict.updateFrom "dict.__init__" T.s.heap.objs.size (.ref la) [] .none) _ _ _;unfold Builtin.Dict.updateFrom;refine A7<|wpAny_typeOf (T:="list") ⟨_,o2,rfl⟩ ?_;rw[A5<|by decide];refine A7 (cU (s:={T.s with heap:=T.s.heap.push {cls:=.type "dict",data:=.dict #[]} }) o2 rfl rfl rfl cS (by decide) hA.h (λj v x=>?_)<|by decide);rw[A5 (c:=(none:Option Value).isNone=true) rfl];refine A7<|wpAny_rule ?_;have o3:j.get? la=some (seqObj "list" us.toArray m):=x _ _ o2;have a2:j.IsList la us.toArray:=⟨_,o3,rfl,m,rfl⟩;refine A7<|wpAny_pyIter_list (s:={T.s with heap:=j,toks:=v}) a2<|AR ⟨plainId_quiet MV _,?_⟩;have a1:j.DictOf (intKind X.prog X.w) T.s.heap.objs.size []:=H.keep x;have Y:T.s.heap.objs.size<j.objs.size:=a1.elim λy q=>q.elim λ_ q=>q.elim λ_ q=>Heap.lt_size q.1;have kp:=Dw j {cls:=.type "list_iterator",data:=.fields #[.ref la,.int 0 0]};have z:∀b y,T.s.heap.get? b=some y->(j.push {cls:=.type "list_iterator",data:=.fields #[.ref la,.int 0 0]}).get? b=some y:=λb y e=>kp b y<|x b y<|E1 _ e;have J:∀b,Al T.s.heap b->b≠T.s.heap.objs.size/\b≠j.objs.size:=λb q=>⟨Nat.ne_of_lt q.lt,Nat.ne_of_lt<|AM q.lt Y⟩;have mo:Mono T<|T.hp (j.push {cls:=.type "list_iterator",data:=.fields #[.ref la,.int 0 0]}) v:=⟨λ_ f=>f,λb y _=>z b y,CG _⟩;refine cX (X:=X) (A:=A.in1) (I:=X.I) (T₀:=T.hp (j.push {cls:=.type "list_iterator",data:=.fields #[.ref la,.int 0 0]}) v) (d:=T.s.heap.objs.size) (Ia:=j.objs.size) (la:=la) (us:=us) (prs:=prs) (c:=E5 l) (R:=PySem.wants (λr N=>r=Value.none/\Q (.ref T.s.heap.objs.size) N) E) hA.h (λb f=>J b<|i.mid.fal b f) (Nat.ne_of_lt Y) (J la ⟨_,o1⟩).1 (J la ⟨_,o1⟩).2 hz (Z.1.imp λp u=>Exists.imp λa=>Exists.imp λm=>Exists.imp λt=>Exists.imp λux P=>⟨P.u,P.f,z _ _ P.obj,P.rep.mono mo⟩) (a2.at λy e=>kp _ _ e) prs.length 0 _ v [] [] (Nat.zero_add _) (λb y _ _ e=>e) ⟨_,De _ rfl,rfl,rfl⟩ (a1.keep kp) rfl (Bm _) λh tk S hk hd hr=>⟨rfl,?_⟩;have a4:AL X F T w<|T.hp h tk:=.grow i λb y e=>hk b y (J b ⟨_,e⟩).1 (J b ⟨_,e⟩).2<|z b y e;have L:=Eu T.s.heap;have a3:=a4.new (a:=T.s.heap.objs.size) (g:=[T.s.heap.objs.size]) (c:=.dct (E5 l)<|DC prs) (λb hb=>by rw[Ao.mp hb];exact⟨λq=>L<|i.mid.fal _ q,λq=>L<|q.elim i.wal i.faal,L⟩) (Bi.mpr ⟨Ax,List.nodup_nil⟩) ⟨rfl,S,hd,Bf.mono (T:=T.hp h tk) (.new _ _) hr,AB (Nat.zero_add prs.length▸cY (es:=[])) hz⟩;exact k _ _ a3 ⟨T.s.heap.objs.size,by show(T.M.ad++[T.s.heap.objs.size])[w.store.length]?=_;rw[<-i.mid.la];exact List.getElem?_concat_length,rfl⟩
end
def Tb{c:Bool}{f:List (Int×V)}:∀{a:List D},IB c f=some a->a.length=f.length/\∀{j:Nat}{d:D},a[j]?=some d->∃p x,f[j]?=some p/\p.2=.d x/\d=.tup [Eo (c,p.1),x]:=by induction f with|nil=>intro a h;obtain rfl:=Option.some.inj h;exact⟨rfl,λe=>by exact Ae e⟩|cons p f g=>intro a h;refine bK h λx i h=>mK (C:=λa=>a.length=f.length+1/\∀{j:Nat}{d:D},a[j]?=some d->∃q x,(p::f)[j]?=some q/\q.2=.d x/\d=.tup [Eo (c,q.1),x]) h λs hs=>⟨A3 (·+1) (g hs).1,λ{j d} e=>?_⟩;cases j with|zero=>obtain rfl:=Option.some.inj e;exact⟨p,x,rfl,J9 (P:=λv=>v=.d x) i rfl,rfl⟩|succ j=>exact(g hs).2 (j:=j) e
section
variable{X:Cx}{F:Fx}{o:Ops}{n:Nat}{m st':St}{A:Around}{T G L:Sm}{Q E:Value->Shared->Prop}{I:Iota}{c:Bool}{l:List V}{M:List Value}{r:R}{u:Value}{a:Addr}{j:Nat}{b:Bool}{B:List (Int×V)}{g:List (Int×Value)}{J:List D}{P:Heap->Addr->List Int->Prop}{p:R×St}{e:Expr}{f:Str}{K w:Pos}
def ca(HT:Top X){vw:Addr}(hA:AW A n)(i:Inv X F m T)(D:DctAt X T j a b B g)(hv:T.s.heap.IsItemsView vw a)(hi:IB b B=some J)(Y:GV J=true)(k:KR X F T Q (.fresh<|(C8 kd J).map .d,m)):WP X A (call (.builtin "sorted") [.ref vw]) Q E T:=MH HT i (λ{Q' E'} k'=>by obtain⟨ep,a1⟩:=D.obj.dictAt;refine kdx_collect (knd:=intKind X.prog X.w) (kvs:=g) (ep:=ep) hA.h hv a1 (D.rep.lim D.len) λh' tk S hk hl Z=>?_;have z:AL X F T m<|T.hp h' tk:=.grow i hk;have y:∀a∈S,¬Al T.s.heap a:=λa H q=>absurd q.lt<|Nat.not_lt.mpr<|BS<|Z.above a H;refine k' (S.map .ref) _ J (z.frz (P:=(·∈S)) λa H=>⟨?_,λf=>y a H<|f.elim i.wal i.faal,y a H⟩) (AC.ext (by rw[A4,hl,D.rep.length,(Tb hi).1]) λj d u e1 N=>?_) Y rfl;obtain⟨j,hj⟩:=List.mem_iff_getElem?.mp H;obtain⟨_,_,_,_,_,e⟩:=Z.pairs j a hj;exact⟨_,e⟩;rw[CP] at N;refine mK (C:=λu=>AZ X.I ((T.hp h' tk).mm<|T.M.frz (·∈S)) d u) N λa N=>?_;obtain⟨a3,a2,v,q1,q2,q3⟩:=Z.pairs j a N;obtain⟨t,rfl⟩:=Oj q2;obtain⟨p,q4,rfl,O⟩:=D.rep.get q1;obtain⟨p',x,q6,q7,rfl⟩:=(Tb hi).2 e1;cases q4.symm.trans q6;rw[q7] at O;have O:AZ X.I T x v:=O;exact⟨a,[.int (X.I.f b p.1) t,v],rfl,.inr<|List.mem_of_getElem? N,⟨0,q3⟩,by show 2<=1000000;decide,_,_,rfl,AZ.num (b,p.1) t,_,_,rfl,(O.mono<|z.mono).mono<|.frz _,rfl⟩) k
def cb(H:Snd X o n)(HT:Top X){b:Expr}(Z:AW A n)(N:Dh b K w 0=true)(x:OG o F.fn b m=some p)(i:Inv X F m T)(k:KR X F T Q p):WP X A (eval (.Call (.Attribute b "items" K) [] [] w) F.env) (λu s=>wpAny (model X.prog X.w) A (call (.builtin "sorted") [u]) Q E s) E T:=TI H N (st':=m) (p:=([],m)) rfl<|FP H Z i x λq u h t y x pl=>bK x λd hd x=>bK x λl hl x=>mQ x k λS O k=>MJ (C:=λS=>KR X F T Q (.fresh<|S.map .d,q.2)->_) O (λho k=>Ki (C:=λu=>wpAny (model X.prog X.w) A (getMethod u "items" pl) _ E h.s) t.inv.mid y hd λj a g D=>by have hs:=D.nosys HT t.inv.mid;refine getMethod_builtin D.obj.typeIs PySem.F.plainAttrs_dict PySem.F.slot_dict_items PySem.F.type_dict_items (λa' e=>by obtain rfl:=Value.ref.inj e;exact D.obj.imp λob z=>z.elim λ_ z=>z.elim λ_ z=>⟨z.1,z.2.1.2.1⟩) ?_;refine TJ rfl<|PyProof.Rows.evalArgs_none ?_;refine call_meetsIn PySem.F.slot_dict_items D.obj.typeIs PySem.F.entry_dict_items (PySem.F.args_dict_items_1 _) (meets_dict_items (intKind X.prog X.w) a hs) ⟨⟨g,D.obj⟩,?_⟩;have Y:=Dw h.s.heap {cls:=.type "dict_items",data:=.fields #[.ref a]};have v:AL X F h q.2<|h.hp (h.s.heap.push {cls:=.type "dict_items",data:=.fields #[.ref a]}) h.s.toks:=.grow t.inv Y;exact ca HT Z v.inv ⟨D.ad,D.wf,D.obj.keep Y,D.rep.mono v.mono,D.len⟩ ⟨_,De _ rfl,rfl,rfl⟩ hl ho<|k.then<|t.trans v) k
def Bf.keys:∀{g:List (Int×Value)},Bf I T false B g->g.map (·.1)=B.map (·.1):=by induction B with|nil=>intro g h;subst h;rfl|cons p B d=>intro g h;obtain⟨v,i,rfl,_,r⟩:=h;exact A3 (p.1::·)<|d r
structure SetK(d:Bool×List (Int×V)):Prop where
 b:d.1=false
 len:d.2.length<=20
 k:∀k∈d.2.map (·.1),0<=k/\k<64
def JM{d:Bool×List (Int×V)}(h:Ka d=true):SetK d:=Aq h λh t=>Aq h λx v=>⟨(Bool.not_eq_true' _).mp x,Bn v,λk s=>by obtain⟨p,i,rfl⟩:=B9.mp s;have q:=List.all_eq_true.mp t p i;exact Aq q λa b=>⟨Bn a,Bn b⟩⟩
def Td(H:Snd X o n)(HT:Top X)(S:SetG X.prog X.w P){x:Expr}{d:Bool×List (Int×V)}(hA:AW A n)(hb:DJ X.G F.fn "set" = true)(h1:o.ev F.fn x m=some p)(h2:Ep p.2.store p.1=some d)(z:SetK d)(i:Inv X F m T) (k:∀a G,AL X F T p.2 G->¬Al T.s.heap a->¬G.M.W a->P G.s.heap a (d.2.map (·.1))->Q (.ref a) G.s):WP X A (eval (.Call (.Name "set" K) [x] [] w) F.env) Q E T:=IN HT hb (v:=.type "set") rfl (.inr ⟨_,rfl⟩) (Fo H h1) i (H.ev hA h1 i λu O t N=>Ki (C:=λu=>wpAny (model X.prog X.w) A (call (.type "set") [u]) Q E O.s) t.inv.mid N h2 λj a g D=>by have Y:=D.rep;rw[z.b] at Y;have y:=Y.keys;refine S.make hA.h (D.nosys HT t.inv.mid) D.obj (Y.length▸z.len) (λq hq=>z.k q.1<|y▸List.mem_map_of_mem hq) λh' tk c hk hc Z=>?_;rw[y] at Z;exact k c _ (t.trans<|.grow t.inv hk) (λq=>hc<|t.ext.al _ q) (λq=>hc<|t.inv.wal q) Z)
def ce(H:Snd X o n)(HT:Top X)(S:SetG X.prog X.w P){x y:Expr}{af ad ab a4 a3:Pos}(hA:AW A n)(hb:DJ X.G F.fn "set" = true)(v:OH o F.fn x y m=some p)(i:Inv X F m T)(k:KR X F T Q p):WP X A (eval (.BinOp (.Call (.Name "set" af) [x] [] a4) .BitOr (.Call (.Name "set" ad) [y] [] a3) ab) F.env) (λu s=>wpAny (model X.prog X.w) A (call (.builtin "sorted") [u]) Q E s) E T:=bK v λq h1 v=>bK v λd h2 v=>bK v λq' h3 v=>bK v λd' h4 v=>iK v λan v=>Aq an λho a1=>mQ v k λl hl k=>MJ (C:=λl=>KR X F T Q (.fresh<|l.map .d,q'.2)->_) hl (λhs k=>wpAny_BinOp (Td H HT S hA hb h1 h2 (JM ho) i λa ar Y na nw pa=>Td H HT S hA hb h3 h4 (JM a1) Y.inv λb O N nb _ pb=>by have Z:=S.keep pa λob e=>N.ext.keep a ob e nw;refine S.union hA.h (λe=>nb<|e▸S.al pa) Z pb (A4 (as:=d.2) (·.1)▸(JM ho).len) (A4 (as:=d'.2) (·.1)▸(JM a1).len) (JM ho).k (JM a1).k λh' tk c hk hc pc=>?_;have z:AL X F O q'.2<|O.hp h' tk:=.grow N.inv hk;refine MH (T:=O.hp h' tk) HT z.inv (λ{Q' E'} k'=>S.coll hA.h pc λap am vs ns a2 hI t=>k' vs _ (ns.map .int) (.grow z.inv a2) (Sd hI) ?_<|aB t)<|k.then<|(Y.trans N).trans z;refine CN.mpr ⟨?_,Bool.or_eq_true_iff.mpr<|.inl<|Bool.or_eq_true_iff.mpr<|.inl<|aA ns⟩;rw[A4,t.length_eq,<-A4 (f:=D.int)];exact(CN.mp hs).1)) k
end
def Te{c:Bool}{a:Type}{C:a->Prop}{x y:a}(h:c=true->C x)(d:C y):C<|if c=true then x else y:=by cases c with|true=>exact h rfl|false=>exact d
def Tf{d c:Type}{C:c->Prop}{x:Option d}{f:d->c}{b:c}(h:∀a,x=some a->C (f a))(e:C b):C<|BK x f b:=by cases x with|none=>exact e|some a=>exact h a rfl
noncomputable def Form.Is(G:Gl)(j:Fn)(e:Expr):Form->Prop|.items b=>∃i h,Dh b i h 0=true/\e=.Call (.Attribute b "items" i) [] [] h|.union x y=>DJ G j "set" = true/\∃g c f a d,e=.BinOp (.Call (.Name "set" g) [x] [] c) .BitOr (.Call (.Name "set" f) [y] [] a) d|.plain=>True
def Th{g:Str}{e x:Expr}{C:Expr->Prop}(h:OI g e=some x)(k:∀p q,C<|.Call (.Name g p) [x] [] q):C e:=bK h λl d j=>pK j λc i=>OQ d λp q=>by obtain⟨f,a⟩:=l;subst c;exact FQ (C:=λa=>C<|.Call (.Name f p) a [] q) i<|k p q
def cf(G:Gl)(a:Fn)(e:Expr):(Rl G a e).Is G a e:=by
 cases e with
 |Call f n s j=>cases s with|cons _ _=>exact trivial|nil=>cases f with|Attribute b m o=>exact Te (C:=Form.Is G a _) (λh=>Aq h λh k=>Aq h λv z=>by cases Bn v;exact Ge (C:=λn=>Form.Is G a (.Call (.Attribute b "items" o) n [] j)<|.items b) z ⟨o,j,k,rfl⟩) trivial|_=>exact trivial
 |BinOp l q r p=>cases q with|BitOr=>exact Te (C:=Form.Is G a _) (λw=>Tf (C:=Form.Is G a _) (λx u=>Tf (C:=Form.Is G a _) (λy t=>Th (C:=λl=>Form.Is G a (.BinOp l .BitOr r p)<|.union x y) u λd c=>Th (C:=λr=>Form.Is G a (.BinOp (.Call (.Name "set" d) [x] [] c) .BitOr r p)<|.union x y) t λi g=>⟨w,d,c,i,g,p,rfl⟩) trivial) trivial) trivial|_=>exact trivial
 |_=>exact trivial
section
variable{X:Cx}{K:Frag}{F:Fx}{o:Ops}{n:Nat}{j z:St}{A:Around}{T I G:Sm}{Q E:Value->Shared->Prop}{P:Heap->Addr->List Int->Prop}{p:R×St}{e:Expr}{f:Str}{s d:Pos}
def ch(H:Snd X o n)(HT:Top X)(S:SetG X.prog X.w P){O:Form}(m:AW A n)(L:DJ X.G F.fn f=true)(hf:O.Is X.G F.fn e)(c:Rm o F.fn f e j O=some p)(i:Inv X F j T)(k:KR X F T Q p):WP X A (eval (.Call (.Name f s) [e] [] d) F.env) Q E T:=by cases O with|items b=>obtain⟨ab,a4,N,rfl⟩:=hf;exact pK c λhs c=>IN HT L (v:=.builtin "sorted") (hs▸rfl) (.inl ⟨_,rfl⟩) rfl i (cb H HT m N c i k)|union x y=>obtain⟨hB,a3,Z,a2,Y,a1,rfl⟩:=hf;exact pK c λhs c=>IN HT L (v:=.builtin "sorted") (hs▸rfl) (.inl ⟨_,rfl⟩) rfl i (ce H HT S m hB c i k)|plain=>
 exact eK c (λhs c=>bK c λq t c=>mQ c k λσ M k=>IN HT L (v:=.type "dict") (hs▸rfl) (.inr ⟨_,rfl⟩) (Fo H t) i<|H.ev m t i λu C a g=>cZ HT m a.inv g M<|k.then a) λc=>bK c λq t c=>mQ c k λr hr k=>by
   have J:∃v,HV.lookup f=some v/\((∃id,v=.builtin id)\/∃id,v=.type id):=by have q:=hr;exact eK q (λh _=>⟨.builtin "len",h▸rfl,.inl ⟨_,rfl⟩⟩) λq=>eK q (λh _=>⟨.type "list",h▸rfl,.inr ⟨_,rfl⟩⟩) λq=>eK q (λh _=>⟨.type "tuple",h▸rfl,.inr ⟨_,rfl⟩⟩) λq=>eK q (λh _=>⟨.builtin "sorted",h▸rfl,.inl ⟨_,rfl⟩⟩) λq=>eK q (λh _=>⟨.builtin "max",h▸rfl,.inl ⟨_,rfl⟩⟩) λq=>eK q (λh _=>⟨.builtin "min",h▸rfl,.inl ⟨_,rfl⟩⟩) λq=>eK q (λh _=>⟨.builtin "sum",h▸rfl,.inl ⟨_,rfl⟩⟩) λq=>nK q
   obtain⟨v,J,l⟩:=J;exact IN HT L J l (Fo H t) i<|H.ev m t i λu C a g=>aM HT m a.inv g hr (k.then a) λv' B=>by cases J.symm.trans B.val;exact B.wp
def ci(H:Snd X o n)(HT:Top X)(Y:ClsG X K)(S:SetG X.prog X.w P){h:List Expr}(r:AW A<|n+1)(a:Es X.G o F.fn f h j=some p)(i:Inv X F j T)(k:KR X F T Q p):WP X A (eval (.Call (.Name f s) h [] d) F.env) Q E T:=have c:AW A n:=r.less<|Nat.le_succ _;iK a λm a=>eK a (λu a=>bf H HT Y r m u a i k) λa=>oK a (λg t a=>bK a λq l a=>bc H HT c m t l a i k) λ_ a=>iK a λv a=>bK a λe l a=>FQ (C:=λh=>WP X A (eval (.Call (.Name f s) h [] d) F.env) Q E T) l<|ch H HT S c v (cf _ _ e) a i k
def cj(H:Snd X o n)(Y:ClsG X K){v:Expr}{a:Str}(J:AW A n)(g:Rq X.G o F.fn v a j=some p)(i:Inv X F j T)(k:KR X F T Q p):WP X A (eval (.Attribute v a d) F.env) Q E T:=iK g λr g=>Aq r λy B=>by unfold WP;rw[arm_eval_Attribute,TH<|(Bool.not_eq_true' _).mp B];exact A7<|Kg H J i g λq a t c C g=>A7<|wpAny_standAt<|bK g λL r g=>mQ g k λw x k=>A7<|wpAny_holding<|bF Y c.inv C r y x λu m l h=>A7<|wpAny_letTemporaryGo<|AR<|k u m (c.trans l) h
def ck(H:Snd X o n)(HT:Top X)(Y:ClsG X K)(S:SetG X.prog X.w P)(hA:AW A<|n+1)(r:Rt X.G o F.fn e j=some p)(i:Inv X F j T)(k:KR X F T Q p):WP X A (eval e F.env) Q E T:=by
 have y:AW A n:=hA.less<|Nat.le_succ _;cases e with
 |Constant c kk d=>exact ZG r i k|Name x d=>exact ZF HT r i k|List es d=>exact ZH H y r i k|Tuple es kk d=>exact ZI H y r i k|ListComp a4 gs sc d=>exact bg H HT y r i k|Subscript v e d=>exact Zb H HT y r i k|Attribute v a d=>exact cj H Y y r i k|BinOp l op rr d=>exact wpAny_BinOp (FP H y i r λq u J h O r=>FP H y h.inv r λq' u' a3 B N r=>mQ r k λx hx k=>ZO HT B.inv (O.mono B) N hx<|k.then<|h.trans B)|IfExp t b e d=>exact bK r λq h1 r=>wpAny_IfExp (H.tt y h1 i λJ h=>by revert r;cases q.1 with|true=>exact λr=>H.ev y r h.inv (k.then h)|false=>exact λr=>H.ev y r h.inv<|k.then h)|UnaryOp op x d=>cases op with|USub=>exact wpAny_UnaryOp (OP H y i r k λq t J h k=>PySem.P.neg_int<|k _ _ (h.trans<|.tok h.inv _) ⟨_,rfl⟩)|_=>exact nK r
 |Dict ks vs d=>refine iK r λhc r=>Aq hc λh1 h2=>Ge (C:=λks=>WP X A (eval (.Dict ks vs d) F.env) Q E T) h1<|Ge (C:=λvs=>WP X A (eval (.Dict [] vs d) F.env) Q E T) h2<|wpAny_Dict_empty ?_;have B:AL X F T j<|T.hp (T.s.heap.push {cls:=.type "dict",data:=.dict #[]}) T.s.toks:=.grow i<|Dw _ _;have L:=Eu T.s.heap;have Z:=B.new (a:=T.s.heap.objs.size) (g:=[T.s.heap.objs.size]) (c:=.dct false []) (λb hb=>by rw[Ao.mp hb];exact⟨λq=>L<|i.mid.fal _ q,λq=>L<|q.elim i.wal i.faal,L⟩) (Bi.mpr ⟨Ax,List.nodup_nil⟩) ⟨rfl,[],Heap.DictOf.new T.s.heap,rfl,Bm _⟩;exact sQ r k _ _ Z ⟨T.s.heap.objs.size,by show(T.M.ad++[T.s.heap.objs.size])[j.store.length]?=_;rw[<-i.mid.la];exact List.getElem?_concat_length,rfl⟩|Call f as a1 d=>cases a1 with|cons _ _=>exact nK r|nil=>cases f with|Name x px=>exact ci H HT Y S hA r i k|Attribute b m s=>exact iK r λa2 r=>bb H HT Y y a2 r i k|_=>exact nK r
 |_=>exact nK r
def snd(HT:Top X)(Y:ClsG X K)(S:SetG X.prog X.w P):∀n,Snd X (AY X.G n) n:=by
 have c:∀n,Snd X (AY X.G n) n/\∀g,Ko X (AY X.G n) n g:=by intro n;induction n with|zero=>exact⟨⟨λ_ _ _ _=>rfl,λ_ _ _ _ _=>rfl,λ_ _ _ _ _ _=>rfl,λ_ _ _ _ _ _ _=>rfl,λ_ h=>nK h,λ_ h=>nK h,λ_ h=>nK h,λ_ h=>nK h⟩,λ_ _ _ _ _ _ _ h=>nK h⟩|succ n l=>obtain⟨H,t⟩:=l;exact⟨⟨λ_ _ _ _=>rfl,λ_ _ _ _ _=>rfl,λ_ _ _ _ _ _=>rfl,λ_ _ _ _ _ _ _=>rfl,λa h i k=>ck H HT Y S a h i k,λa h i k=>Zp H HT (a.less<|Nat.le_succ _) h i k,λa h i k=>cR H HT Y (t _) (a.less<|Nat.le_succ _) h i k,λa h r m q k=>bB H HT a h r m q k⟩,λg _ _ _ _ _ _ h=>⟨AY X.G n,n,Nat.le_succ _,H,h⟩⟩
 exact λn=>(c n).1
end
abbrev pw:Program:=Challenge.pw_sx_r033_2
noncomputable def HY:Stmt->Expr×List Stmt×List Stmt×List Str×List (Str×NameKind)|.FunctionDef _ a b _ _ _ c _ _ _=>(.Constant .none 0 default,b,[],a.args.map (·.arg),c.names)|.ClassDef _ _ _ b _ _ _ _ _ _ _=>(.Constant .none 0 default,b,[],[],[])|.Assign _ e _=>(e,[],[],[],[])|.For t _ b _ _=>(t,b,[],[],[])|.While t b _ _=>(t,b,[],[],[])|.If t b e _=>(t,b,e,[],[])|_=>(.Constant .none 0 default,[],[],[],[])
noncomputable def CH(c a:Bool)(mv:List Str)(s:Stmt):Fn:=⟨(HY s).2.2.2.1,(HY s).2.1,(HY s).2.2.2.2,c,a,mv⟩
noncomputable def cp(s:Stmt):List Stmt:=(HY s).2.1
noncomputable def B8(k:Nat):Stmt:=pw.main.body[k]?.getD<|.Pass default
noncomputable def Dx(k:Nat):Stmt:=(cp<|B8 1)[k]?.getD<|.Pass default
noncomputable def Oz:Nat->Expr->D|_,.Constant (.int i) _ _=>.int i|_,.Constant (.str s) _ _=>.str s|n+1,.Tuple a _ _=>.tup (a.map<|Oz n)|n+1,.List a _=>.lst (a.map<|Oz n)|_,_=>.none
noncomputable def EC(s:Stmt):D:=Oz 10 (HY s).1
noncomputable def Gi:Fn:=CH true true []<|Dx 0
noncomputable def Ti:Fn:=CH true true []<|Dx 1
noncomputable def JN:Fn:=CH true true []<|Dx 2
noncomputable def HZ:Fn:=CH true true []<|Dx 3
noncomputable def Tj:Fn:=CH true true []<|Dx 4
noncomputable def Ey:Fn:=CH true true []<|Dx 5
noncomputable def P1:Fn:=CH true true []<|Dx 6
noncomputable def DE:Fn:=CH true true []<|Dx 7
noncomputable def GE:Fn:=CH false false []<|B8 2
noncomputable def Kq:Fn:=CH false true []<|B8 3
noncomputable def MW:Fn:=CH false false []<|B8 4
noncomputable def Kr:Fn:=CH false false []<|B8 5
noncomputable def JO:Fn:=CH false false []<|B8 6
noncomputable def Ed:Fn:=CH false false ["out"]<|B8 7
noncomputable def Ee:Fn:=CH false false []<|B8 8
noncomputable def EO:Fn:=CH false false []<|B8 9
noncomputable def Di:Fn:=CH false false ["out"]<|B8 15
noncomputable def JP:Fn:=CH false false []<|B8 16
noncomputable def MX:Fn:=CH false false []<|B8 17
noncomputable def IR:Fn:=CH false false []<|B8 18
noncomputable def JQ:Fn:=CH false false []<|B8 19
noncomputable def DX:Fn:=CH false false []<|B8 20
noncomputable def C9:Fn:=CH false false []<|B8 21
noncomputable def BF:Fn:=CH false false []<|B8 22
noncomputable def Co:Fn:=CH false false ["pages"]<|B8 23
noncomputable def GF:Fn:=CH false false ["out"]<|B8 24
noncomputable def Gj:Fn:=CH false false ["left"]<|B8 25
noncomputable def MY:Fn:=CH false false []<|B8 26
noncomputable def GG:Fn:=CH false false []<|B8 27
noncomputable def DL:Fn:=CH false false []<|B8 28
noncomputable def gl:Gl where
 fns:=[("get",GE),("_pairs",Kq),("scan",MW),("put",Kr),("remove",JO),("changes",Ed),("replay",Ee),("play",EO),("_law_actions",Di),("_law_row",JP),("_law_new",MX),("_law_nums",IR),("_law_page",JQ),("_law_put",DX),("_law_mend",C9),("_law_remove",BF),("_law_tree",Co),("_law_changes",GF),("_law_left",Gj),("_law_last",MY),("_law_play",GG),("law",DL)]
 meths:=[("out",Ti),("new",JN),("child",HZ),("put",Tj),("put_in",Ey),("remove",P1),("remove_in",DE)]
 cls:="_Tree"
 init:=Gi
 tabs:=[("_LAW_WORDS",EC<|B8 11),("_LAW_COUNTS",EC<|B8 12),("_LAW_SETTLE",EC<|B8 13),("_LAW_KINDS",EC<|B8 14)]
 flds:=["pages","root"]
def cq{a:List Str}(d:a.Nodup):∀{c:List Value},c.length=a.length->(a.filter λn=>((a.zip c).lookup n).isNone)=[]/\(a.filterMap λn=>((a.zip c).lookup n).map (n,·))=a.zip c:=by
 have f:∀(a:List Str),a.Nodup->∀(c:List Value),c.length=a.length->(∀n∈a,((a.zip c).lookup n).isNone=false)/\(a.filterMap λn=>((a.zip c).lookup n).map (n,·))=a.zip c:=by intro a;induction a with|nil=>intro _ c _;exact⟨λ_ h=>Ew h,rfl⟩|cons x a i=>intro d c g;cases c with|nil=>exact absurd g (Nat.ne_of_beq_eq_false rfl)|cons v c=>
  have k:∀n∈a,(n==x)=false:=λn h=>beq_eq_false_iff_ne.mpr λe=>(Bi.mp d).1<|e▸h;have q:=i (Bi.mp d).2 c<|Nat.succ.inj g;have lk:∀n∈a,((x::a).zip<|v::c).lookup n=(a.zip c).lookup n:=λn h=>by show(match n==x with|true=>some v|false=>(a.zip c).lookup n)=_;rw[k n h]
  have j:((x::a).zip<|v::c).lookup x=some v:=by show(match x==x with|true=>some v|false=>(a.zip c).lookup x)=_;rw[beq_self_eq_true]
  refine⟨λn h=>?_,?_⟩;cases An.mp h with|inl e=>rw[e,j];rfl|inr h=>rw[lk n h];exact q.1 n h
  rw[List.filterMap_cons,j];show(x,v)::_=(x,v)::_;refine A3 _<|Eq.trans ?_ q.2;have:∀(l:List Str),(∀n∈l,n∈a)->(l.filterMap λn=>(((x::a).zip<|v::c).lookup n).map (n,·))=l.filterMap λn=>((a.zip c).lookup n).map (n,·):=by intro l;induction l with|nil=>exact λ_=>rfl|cons y l i=>exact λh=>by rw[List.filterMap_cons,List.filterMap_cons,lk y<|h y AT,i λn d=>h n<|Ah _ d]
  exact this a λ_ h=>h
 intro c g;refine⟨List.filter_eq_nil_iff.mpr λn h=>by rw[(f a d c g).1 n h];exact Cb,(f a d c g).2⟩
noncomputable def Tk(a:Arguments):Bool:=a.posonlyargs.isEmpty&&a.kwonlyargs.isEmpty&&a.vararg.isNone&&a.kwarg.isNone
def cu{d a c:Type}{L:List d}{i:a}{f:d->a->Sem (ForInStep a)}{k:a->Sem c}{y:Sem c}(h:L=[])(e:k i=y):(forIn L i f >>= k)=y:=by subst h;exact e
def cw{j i:Str}{a:List Arg}{kd df bd sc gl cl kk dc pm an co ct bl}{d:List Str}(c:List Value)(hs:a.map Arg.arg=d)(m:c.length=d.length)(g:(d.filter λn=>((d.zip c).lookup n).isNone)=[]):bindArgs ⟨j,i,⟨[],a,none,[],kd,none,df⟩,bd,sc,gl,cl,.none,kk,dc,pm,an,co,ct,bl⟩ ⟨c,[]⟩=pure (d.filterMap λn=>((d.zip c).lookup n).map (n,·)):=by
 subst hs;have f:¬(decide (c.length>(a.map Arg.arg).length)&&true)=true:=λh=>Nat.lt_irrefl _<|m▸D2 (CN.mp h).1;have e:∀k,¬(!(((a.map Arg.arg).take<|(a.map Arg.arg).length-(List.drop k ([]:List Value)).length).filter λn=>(((a.map Arg.arg).zip c).lookup n).isNone).isEmpty)=true:=λk=>by rw[List.drop_nil,show(a.map Arg.arg).length-([]:List Value).length=(a.map Arg.arg).length from rfl,List.take_length,g];exact Bool.noConfusion
 refine(A1 f).trans<|(A1<|e _).trans<|cu ?_ ?_;exact(A3 _ List.drop_nil).trans List.zip_nil_right;exact A3 (λl=>(pure (List.filterMap (λn=>(((a.map Arg.arg).zip c).lookup n).map (n,·)) l):Sem<|List<|Str×Value))<|BJ<|a.map Arg.arg
def cy{fd:FuncData}(c:Tk fd.params=true)(k:fd.defaults=.none)(d:(fd.params.args.map (·.arg)).Nodup)(a:List Value)(e:a.length=(fd.params.args.map (·.arg)).length):bindArgs fd ⟨a,[]⟩=pure ((fd.params.args.map (·.arg)).zip a):=by have z:=cq d e;refine Eq.trans ?_<|A3 pure z.2;have f:=z.1;clear z d;generalize hs:fd.params.args.map (·.arg)=ns at *;obtain⟨n,m,⟨h,x,g,i,kd,j,p⟩,w,l,gl,u,q,o,r,pm,y,t,s,v⟩:=fd;subst k;cases h with|cons _ _=>exact Bool.noConfusion c|nil=>cases i with|cons _ _=>exact Bool.noConfusion c|nil=>cases g with|some _=>exact Bool.noConfusion c|none=>cases j with|some _=>exact Bool.noConfusion c|none=>exact cw a hs e f
structure FSeen where
 body:FuncBody
 params:Arguments
 scope:Scope
 glb:Addr
 clo:List (Str×Addr)
 dfl:Value
 blt:Addr
 code:Bool
noncomputable def Tl(q:Str):Option Value->Bool|some (.str a _)=>decide (a=q)|_=>false
noncomputable def P2(q:Str):Data->Bool|.fields a=>Tl q a[1]?|_=>false
noncomputable def MZ(h:Heap)(a:Value)(q:Str):Bool:=match a with|.ref c=>BK (h.get? c) (λo=>P2 q o.data) false|_=>false
noncomputable def Tm(h:Heap):Data->Option FSeen|.func a=>some ⟨a.body,a.params,a.scope,a.globals,a.closure,a.defaults,a.builtins,MZ h a.code a.qualname⟩|_=>.none
noncomputable def Ha:Option Value->Option Addr|some (.ref a)=>some a|_=>.none
noncomputable def Ma(h:Heap)(v:Option Value):Option FSeen:=(Ha v).bind λa=>(h.get? a).bind λo=>Tm h o.data
noncomputable def Mb:Stmt->Option FSeen|.FunctionDef _ a b _ _ _ c _ _ _=>some ⟨.stmts b,a,c,mainGlobals,[],.none,builtinsNs,true⟩|_=>.none
noncomputable def Mc:List Str->Bool|[]=>true|x::r=>!r.contains x&&Mc r
def P3:∀{l:List Str},Mc l=true->l.Nodup:=by intro l;induction l with|nil=>exact λ_=>List.nodup_nil|cons x l a=>exact λh=>Aq h λd c=>Bi.mpr ⟨λm=>absurd (Dp.mpr m)<|by rw[(Bool.not_eq_true' _).mp d];exact Cb,a c⟩
noncomputable def Tp:ScopeKind->Bool|.function=>true|_=>false
noncomputable def JR:Stmt->Bool|.FunctionDef _ a b _ _ _ c _ _ _=>Tk a&&Mc (a.args.map (·.arg))&&Tp c.kind&&(c.names.lookup ("__debug__" : Str)).isNone&&(c.names.lookup ("__classdict__" : Str)).isNone&&!c.isCoroutine&&!c.isGenerator&&(a.args.map (·.arg)).all (λx=>c.names.lookup x==some .local||c.names.lookup x==some .cell)&&Mc (c.names.map (·.1))&&c.names.all (λx=>!(x.2 == .free))|_=>false
def fK{P:Prop}(h:false=true):P:=Bool.noConfusion h
def cz{q:Str}{v:Option Value}(e:Tl q v=true):∃t,v=some (.str q t):=by cases v with|none=>exact fK e|some v=>cases v with|str a t=>exact⟨t,by rw[show a=q from Bn e]⟩|_=>exact fK e
def d0{q:Str}{d:Data}(e:P2 q d=true):∃a t,d=.fields a/\a[1]?=some (.str q t):=by cases d with|fields a=>obtain⟨t,r⟩:=cz e;exact⟨a,t,rfl,r⟩|_=>exact fK e
def d3{h:Heap}{a:Value}{q:Str}(e:MZ h a q=true):h.CodeRec a q:=by
 cases a with
 |ref c=>have e:BK (h.get? c) (λo=>P2 q o.data) false=true:=e;cases ho:h.get? c with|none=>rw[ho] at e;exact fK e|some f=>rw[ho] at e;obtain⟨d,t,i,g⟩:=d0 e;exact⟨c,f,d,t,rfl,ho,i,g⟩
 |_=>exact fK e
def d4{h:Heap}{d:Data}{x:FSeen}(e:Tm h d=some x):∃a,d=.func a/\x=⟨a.body,a.params,a.scope,a.globals,a.closure,a.defaults,a.builtins,MZ h a.code a.qualname⟩:=by cases d with|func a=>exact⟨a,rfl,(Option.some.inj e).symm⟩|_=>exact nK e
def Tq{v:Option Value}{a:Addr}(h:Ha v=some a):v=some (.ref a):=by cases v with|none=>exact nK h|some v=>cases v with|ref b=>exact A3 (λx=>some<|Value.ref x) (Option.some.inj h)|_=>exact nK h
def d5{k:ScopeKind}(h:Tp k=true):k=.function:=by cases k with|function=>rfl|_=>exact fK h
def P4{h:Heap}{v:Option Value}{f:Stmt}{hm sh:Bool}{mv:List Str}(c:JR f=true)(e:Ma h v=Mb f):∃a o d,v=some (.ref a)/\FnAt h a (CH hm sh mv f) o d:=by cases f with|FunctionDef Q a b S O N m M T n=>refine bK e λL p e=>bK e λo r e=>?_;obtain⟨d,t,e⟩:=d4 e;have K:FuncBody.stmts b=d.body:=A3 FSeen.body e;have i:a=d.params:=A3 FSeen.params e;have g:m=d.scope:=A3 FSeen.scope e;have J:mainGlobals=d.globals:=A3 FSeen.glb e;have I:[]=d.closure:=A3 FSeen.clo e;have H:Value.none=d.defaults:=A3 FSeen.dfl e;have G:builtinsNs=d.builtins:=A3 FSeen.blt e;have E:true=MZ h d.code d.qualname:=A3 FSeen.code e;refine Aq c λc j=>Aq c λc u=>Aq c λc w=>Aq c λc x=>Aq c λc y=>Aq c λc z=>Aq c λc A=>Aq c λc B=>Aq c λC k=>?_;exact⟨L,o,d,Tq p,⟨r,t,K.symm,A3 Scope.names g.symm,g▸d5 B,⟨Option.isNone_iff_eq_none.mp A,Option.isNone_iff_eq_none.mp z⟩,g▸(Bool.not_eq_true' _).mp y,g▸(Bool.not_eq_true' _).mp x,I.symm,J.symm,G.symm,d3 E.symm,λl s=>by have q:=cy (fd:=d) (i▸C) H.symm (i▸P3 k) l<|i▸s;rw[<-i] at q;exact q,w,P3 u,j,P3 k⟩⟩|_=>exact fK c
noncomputable def Ts:Data->Option (List Value×Nat)|.seq a n=>some (a.toList,n)|_=>.none
noncomputable def Tu(a:String):Value->Bool|.type t=>decide (t=a)|_=>false
noncomputable def P5(a:String)(o:Obj):Option<|List Value:=if (Tu a o.cls&&o.dict.isNone&&o.slots.isEmpty)=true then(Ts o.data).map (·.1) else .none
mutual
noncomputable def Me(h:Heap):D->Value->Bool|.none,v=>(match v with|.none=>true|_=>false)|.bool _,_=>false|.int i,v=>(match v with|.int j _=>decide (i=j)|_=>false)|.key _,_=>false|.str s,v=>(match v with|.str d _=>decide (s=d)&&PyData.strOk s|_=>false)|.tup l,v=>BK (Ha<|some v) (λa=>BK ((h.get? a).bind<|P5 "tuple") (λc=>decide (l.length<=lim)&&Mf h l c) false) false|.lst l,v=>BK (Ha<|some v) (λa=>BK ((h.get? a).bind<|P5 "list") (λc=>decide (l.length<=lim)&&Mf h l c) false) false
noncomputable def Mf(h:Heap):List D->List Value->Bool|[],a=>a.isEmpty|d::r,a=>(match a with|u::a=>Me h d u&&Mf h r a|[]=>false)
end
def d6{a:String}{v:Value}(h:Tu a v=true):v=.type a:=by cases v with|type t=>exact A3 Value.type (Bn h)|_=>exact fK h
def d7{d:Data}{p:List Value×Nat}(h:Ts d=some p):d=.seq p.1.toArray p.2:=by cases d with|seq a n=>obtain rfl:=Option.some.inj h;rfl|_=>exact nK h
def Tv{e:String}{o:Obj}{a:List Value}(h:P5 e o=some a):∃n,o=seqObj e a.toArray n:=iK h λf h=>Aq f λf i=>Aq f λk j=>mK (C:=λa=>∃n,o=seqObj e a.toArray n) h λp g=>⟨p.2,by obtain⟨c,d,m,l⟩:=o;cases d6 k;cases Option.isNone_iff_eq_none.mp j;cases d7 g;cases Array.isEmpty_iff.mp i;rfl⟩
def P6{v:Value}{a:Addr}(h:Ha (some v)=some a):v=.ref a:=Option.some.inj<|Tq h
def JS{c:Type}{x:Option c}{f:c->Bool}(h:BK x f false=true):∃a,x=some a/\f a=true:=by cases x with|none=>exact Bw h|some a=>exact⟨a,rfl,h⟩
def d8{h:Heap}{I:Iota}{T:Sm}(y:∀b o,h.get? b=some o->T.s.heap.get? b=some o)(z:∀a,Al h a->T.M.F a)(d:D){v:Value}(e:Me h d v=true):AZ I T d v:=by
 refine D.rec (motive_1:=λd=>∀v,Me h d v=true->AZ I T d v) (motive_2:=λl=>∀c,Mf h l c=true->EB I T l c) ?_ ?_ ?_ ?_ ?_ ?_ ?_ ?_ ?_ d v e<;>clear e;intro v e;cases v<;>first|exact rfl|exact Bw e
 intro _ v e;exact Bw e;intro i v e;cases v with|int j t=>exact⟨t,by rw[show i=j from Bn e]⟩|_=>exact Bw e
 intro _ v e;exact Bw e;intro s v e;cases v with|str A t=>exact Aq e λk g=>⟨t,by rw[show s=A from Bn k],g⟩|_=>exact Bw e
 intro l w v e;obtain⟨a,x,e⟩:=JS e;obtain⟨c,f,e⟩:=JS e;refine bK f λo m f=>Aq e λk g=>?_;obtain⟨n,rfl⟩:=Tv f;exact⟨a,c,P6 x,z a ⟨_,m⟩,⟨n,y _ _ m⟩,Bn k,w c g⟩;intro l w v e;obtain⟨a,x,e⟩:=JS e;obtain⟨c,f,e⟩:=JS e;refine bK f λo m f=>Aq e λk g=>?_;obtain⟨n,rfl⟩:=Tv f;exact⟨a,c,P6 x,z a ⟨_,m⟩,⟨n,y _ _ m⟩,Bn k,w c g⟩;intro c e;exact List.isEmpty_iff.mp e;intro d r p q c e;cases c with|nil=>exact Bw e|cons u c=>exact Aq e λk g=>⟨u,c,rfl,p u k,q c g⟩
structure FE where
 x:Str
 hm:Bool
 sh:Bool
 mv:List Str
 st:Stmt
noncomputable def FE.fn(e:FE):Fn:=CH e.hm e.sh e.mv e.st
noncomputable def Hb:List FE:=[⟨"get",false,false,[],B8 2⟩,⟨"_pairs",false,true,[],B8 3⟩,⟨"scan",false,false,[],B8 4⟩,⟨"put",false,false,[],B8 5⟩,⟨"remove",false,false,[],B8 6⟩,⟨"changes",false,false,["out"],B8 7⟩,⟨"replay",false,false,[],B8 8⟩,⟨"play",false,false,[],B8 9⟩,⟨"_law_actions",false,false,["out"],B8 15⟩,⟨"_law_row",false,false,[],B8 16⟩,⟨"_law_new",false,false,[],B8 17⟩,⟨"_law_nums",false,false,[],B8 18⟩,⟨"_law_page",false,false,[],B8 19⟩,⟨"_law_put",false,false,[],B8 20⟩,⟨"_law_mend",false,false,[],B8 21⟩,⟨"_law_remove",false,false,[],B8 22⟩,⟨"_law_tree",false,false,["pages"],B8 23⟩,⟨"_law_changes",false,false,["out"],B8 24⟩,⟨"_law_left",false,false,["left"],B8 25⟩,⟨"_law_last",false,false,[],B8 26⟩,⟨"_law_play",false,false,[],B8 27⟩,⟨"law",false,false,[],B8 28⟩]
noncomputable def Gk:List FE:=[⟨"out",true,true,[],Dx 1⟩,⟨"new",true,true,[],Dx 2⟩,⟨"child",true,true,[],Dx 3⟩,⟨"put",true,true,[],Dx 4⟩,⟨"put_in",true,true,[],Dx 5⟩,⟨"remove",true,true,[],Dx 6⟩,⟨"remove_in",true,true,[],Dx 7⟩]
noncomputable def P7:List Str:="__init__"::Gk.map (·.x)
noncomputable def JT(h:Heap):Option Addr:=Ha<|h.nsMap mainGlobals "_Tree"
noncomputable def Tw:Obj->Addr|⟨_,_,.cls a,_⟩=>a.ns|_=>0
noncomputable def P8(h:Heap)(c:List Addr):Frag:=c.filterMap λa=>(h.get? a).map λo=>(a,o)
noncomputable def EP(h:Heap)(C:Addr):Frag:=P8 h<|C::BK (h.get? C) Tw 0::P7.filterMap λm=>Ha<|h.nsMap (BK (h.get? C) Tw 0) m
noncomputable def JU(K:Frag)(C:Addr)(m:Str):Option Value:=match findIn K (.ref C) m with|some v=>v|.none=>.none
noncomputable def oo(x:Option<|Option Value)(y:Option<|Option Value):Bool:=decide (x=y)
noncomputable def ov(x:Option Value)(y:Option Value):Bool:=decide (x=y)
noncomputable def P9:List Str:=["pages","root"]
noncomputable def Tx:List<|Str×D:=[("_LAW_WORDS",EC<|B8 11),("_LAW_COUNTS",EC<|B8 12),("_LAW_SETTLE",EC<|B8 13),("_LAW_KINDS",EC<|B8 14)]
noncomputable def d9(h:Heap)(C:Addr):Bool:=keepIn (EP h C) (.ref C)&&oo (findIn (EP h C) (.ref C) "__getattribute__") (some<|some<|.builtin "object.__getattribute__")&&oo (findIn (EP h C) (.ref C) "__getattr__") (some .none)&&oo (findIn (EP h C) (.ref C) "__setattr__") (some<|some<|.builtin "object.__setattr__")&&plainOver (EP h C) C&&hasDictIn (EP h C) C&&makesIn (EP h C) C&&P9.all (λa=>oo (findIn (EP h C) (.ref C) a)<|some .none)&&P7.all (λm=>BK (Ha<|JU (EP h C) C m) (λa=>ov (typeIn (EP h C)<|.ref a)<|some<|.type "function") false)
noncomputable def Ty(h:Heap):Bool:=h.isNs mainGlobals&&h.isNs builtinsNs&&h.isNs cStatics&&(h.nsMap cStatics "sys.recursionlimit").isNone&&(h.get? sysModules).isSome&&Tx.all (λp=>BK (h.nsMap mainGlobals p.1) (Me h p.2) false)&&HV.all (λp=>(h.nsMap mainGlobals p.1).isNone&&ov (h.nsMap builtinsNs p.1) (some p.2))&&BK (JT h) (d9 h) false
noncomputable def Tz(h:Heap):List<|Option FSeen:=Hb.map (λe=>Ma h<|h.nsMap mainGlobals e.x)++(Ma h (JU (EP h<|(JT h).getD 0) ((JT h).getD 0) "__init__")::Gk.map λe=>Ma h<|JU (EP h<|(JT h).getD 0) ((JT h).getD 0) e.x)
noncomputable def Mg:List<|Option FSeen:=Hb.map (λe=>Mb e.st)++(Mb (Dx 0)::Gk.map λe=>Mb e.st)
noncomputable def PA(s:Shared):Bool×List (Option FSeen):=(Ty s.heap,Tz s.heap)
def dA{h:Heap}{c:List Addr}:(P8 h c).In h:=by intro a o e;induction c with|nil=>exact Ae e|cons b c d=>unfold P8 at e d;rw[List.filterMap_cons] at e;cases hb:h.get? b with|none=>rw[hb] at e;exact d e|some f=>rw[hb] at e;have e:(match a==b with|true=>some f|false=>List.lookup a<|c.filterMap λa=>(h.get? a).map λo=>(a,o))=some o:=e;cases hab:a==b with|true=>rw[hab] at e;obtain rfl:=Option.some.inj e;rw[beq_iff_eq.mp hab];exact hb|false=>rw[hab] at e;exact d e
def Mh{x y:Option (Option Value)}(h:oo x y=true):x=y:=Bn h
def U1{x y:Option Value}(h:ov x y=true):x=y:=Bn h
def PB{x:Str}{f:Fn}:∀{l:List FE},AJ x (l.map λe=>(e.x,e.fn))=some f->∃e∈l,x=e.x/\f=e.fn:=by intro l;induction l with|nil=>exact λh=>by exact Ae h|cons e l a=>intro h;have h:(if x=e.x then some e.fn else AJ x (l.map λe=>(e.x,e.fn)))=some f:=h;exact eK h (λc h=>by obtain rfl:=Option.some.inj h;exact⟨e,AT,c,rfl⟩) λh=>(a h).imp λe q=>⟨Ah _ q.1,q.2⟩
def U2{l:List FE}{g d:FE->Option FSeen}:∀{r r':List (Option FSeen)},l.map g++r=l.map d++r'->(∀e∈l,g e=d e)/\r=r':=by induction l with|nil=>exact λh=>⟨λ_ h=>Ew h,h⟩|cons e l a=>intro r r' h;injection h with i c;exact⟨λj f=>(An.mp f).elim (λq=>q▸i)<|(a c).1 j,(a c).2⟩
def dB:∀e∈Hb,JR e.st=true:=List.all_eq_true.mp (by decide +kernel:Hb.all (λe=>JR e.st)=true)
def dC:∀e∈Gk,JR e.st=true:=List.all_eq_true.mp (by decide +kernel:Gk.all (λe=>JR e.st)=true)
def dD:JR (Dx 0)=true:=by decide +kernel
def dE:∀e∈Gk,e.x∉P9:=λe a q=>absurd (Dp.mpr q)<|by rw[(Bool.not_eq_true' _).mp<|List.all_eq_true.mp (by decide +kernel:Gk.all (λe=>!P9.contains e.x)=true) e a];exact Cb
def dF:∀e∈Hb,e.x≠"_Tree":=λe a q=>absurd (Ac q)<|by rw[(Bool.not_eq_true' _).mp<|List.all_eq_true.mp (by decide +kernel:Hb.all (λe=>!decide (e.x ="_Tree"))=true) e a];exact Cb
def dG{x:Str}{d:D}:∀{l:List (Str×D)},AJ x l=some d->(x,d)∈l:=by intro l;induction l with|nil=>exact λh=>by exact Ae h|cons p l a=>intro h;exact eK (h:(if x=p.1 then some p.2 else AJ x l)=some d) (λc h=>by obtain rfl:=Option.some.inj h;subst c;exact AT) λh=>Ah _<|a h
def dH{x:Str}{v:Value}:∀{l:List (Str×Value)},l.lookup x=some v->(x,v)∈l:=by intro l;induction l with|nil=>exact λh=>by exact Ae h|cons p l a=>intro h;have h:(match x==p.1 with|true=>some p.2|false=>l.lookup x)=some v:=h;cases hx:x==p.1 with|true=>rw[hx] at h;obtain rfl:=Option.some.inj h;rw[beq_iff_eq.mp hx];exact AT|false=>rw[hx] at h;exact Ah _<|a h
noncomputable def cx(w:World)(h:Heap)(C:Addr)(a c:Str->Option Value)(I:Iota):Cx:=⟨pw,w,C,h,I,gl,a,c⟩
def JV(w:World)(h:Heap):Prop:=∃C K mg mb,∀I,Top (cx w h C mg mb I)/\ClsG (cx w h C mg mb I) K
def U3{K:Frag}{C:Addr}{m:Str}{a:Addr}(h:JU K C m=some (.ref a)):findIn K (.ref C) m=some (some<|.ref a):=by unfold JU at h;cases hf:findIn K (.ref C) m with|none=>rw[hf] at h;exact Ae h|some v=>rw[hf] at h;exact A3 some h
def dJ(w:World)(s:Shared)(e:PA s=(true,Mg)):JV w s.heap:=by
 have g:Ty s.heap=true:=A3 (·.1) e;have A:Tz s.heap=Mg:=A3 (·.2) e;obtain⟨Y,z⟩:=U2 A;injection z with z y;obtain⟨y,_⟩:=U2 (l:=Gk) (r:=[]) (r':=[])<|(BJ _).trans<|y.trans (BJ _).symm;refine Aq g λg L=>Aq g λg M=>Aq g λg N=>Aq g λg O=>Aq g λg Q=>Aq g λg S=>Aq g λX T=>?_;obtain⟨C,B,c⟩:=JS L;rw[B] at z y;refine Aq c λc c9=>Aq c λc c8=>Aq c λc c7=>Aq c λc c6=>Aq c λc c5=>Aq c λc c4=>Aq c λc c3=>Aq c λc1 c2=>?_;have Z:s.heap.nsMap mainGlobals "_Tree" = some (.ref C):=by revert B;unfold JT;cases s.heap.nsMap mainGlobals "_Tree" with|none=>exact λh=>by exact Ae h|some v=>exact λh=>A3 some<|P6 h
 have p:∀{m:Str}{a:Addr},m∈P7->JU (EP s.heap C) C m=some (.ref a)->typeIn (EP s.heap C) (.ref a)=some (.type "function"):=λ{m a} n J=>by have q:=List.all_eq_true.mp c9 m n;rw[J] at q;exact U1 q
 refine⟨C,EP s.heap C,s.heap.nsMap mainGlobals,s.heap.nsMap builtinsNs,λI=>⟨⟨⟨_,.of_isNs S,Option.isNone_iff_eq_none.mp Q⟩,.of_isNs X,.of_isNs T,λx d k=>?_,λx f k=>?_,λx v k _ _ _=>?_,Option.isSome_iff_exists.mp O⟩,⟨dA,Z,c1,Mh c2,Mh c3,Mh c4,c5,c6,c7,λa K=>Mh<|List.all_eq_true.mp c8 a K,?_,λm f n=>?_,λx f k=>?_⟩⟩⟩;obtain⟨v,E,G⟩:=JS<|List.all_eq_true.mp N _<|dG (l:=Tx) k;exact⟨v,E,λH A=>d8 H A d G⟩;obtain⟨e,i,rfl,rfl⟩:=PB (l:=Hb) k;obtain⟨a,o,u,j,t⟩:=P4 (hm:=e.hm) (sh:=e.sh) (mv:=e.mv) (dB e i)<|Y e i;exact⟨a,o,u,j,t⟩;exact Aq (List.all_eq_true.mp M _<|dH k) λa b=>⟨Option.isNone_iff_eq_none.mp a,U1 b⟩;obtain⟨a,o,u,j,t⟩:=P4 (hm:=true) (sh:=true) (mv:=[]) dD z;exact⟨a,o,u,U3 j,p AT j,t⟩;obtain⟨e,i,rfl,rfl⟩:=PB (l:=Gk) n;obtain⟨a,o,u,j,t⟩:=P4 (hm:=e.hm) (sh:=e.sh) (mv:=e.mv) (dC e i)<|y e i;exact⟨a,o,u,U3 j,p (Ah _<|List.mem_map_of_mem i) j,t,dE e i⟩;obtain⟨e,i,rfl,_⟩:=PB (l:=Hb) k;exact dF e i
def dK(w:World)(h i:Heap)(x:JV w h)(k:∀b o,h.get? b=some o->i.get? b=some o):JV w i:=by obtain⟨C,K,l,n,x⟩:=x;refine⟨C,K,l,n,λI=>?_⟩;obtain⟨HT,Y⟩:=x I;exact⟨⟨HT.nolim.keeps k,HT.g.keeps k,HT.b.keeps k,λx d c=>(HT.tabs x d c).imp λv q=>⟨q.1,λr t=>q.2 (λb o e=>r b o<|k b o e) λa s=>t a<|s.imp λo e=>k a o e⟩,λx f c=>(HT.fns x f c).imp λa q=>q.imp λo q=>q.imp λj q=>⟨q.1,q.2.keeps k⟩,HT.blt,HT.sysm.imp λo e=>k _ o e⟩,⟨Y.inB.keeps k,Y.nm,Y.keep,Y.ga,Y.gn,Y.sa,Y.po,Y.hd,Y.mks,Y.fld,Y.ini.imp λa q=>q.imp λo q=>q.imp λj q=>⟨q.1,q.2.1,q.2.2.keeps k⟩,λm f p=>(Y.mth m f p).imp λa q=>q.imp λo q=>q.imp λj q=>⟨q.1,q.2.1,q.2.2.1.keeps k,q.2.2.2⟩,Y.fin⟩⟩
noncomputable def qv:Program:={pw with main:={pw.main with body:=[B8 28]} }
noncomputable def loose:List Str:=["_Tree","get","_pairs","scan","put","remove","changes","replay","play","_LAW_WORDS","_LAW_COUNTS","_LAW_SETTLE","_LAW_KINDS","_law_actions","_law_row","_law_new","_law_nums","_law_page","_law_put","_law_mend","_law_remove","_law_tree","_law_changes","_law_left","_law_last","_law_play"]
noncomputable def dL:Stmt->DefRec|.FunctionDef n a b _ _ _ d _ _ c=>⟨n,a,b,d,c⟩|_=>⟨"",default,[],default,default⟩
noncomputable def U4:DefRec:=dL<|B8 28
def left:LeftO pw qv loose (λs=>recOk [] s) PA (λ_=>(true,Mg)) 4150:=by intro w;kernel_rfl
def head(call:WalkO qv loose (λ_ _=>True) JV Challenge.rw_sx_r033_2.row.toRowW U4 [] λf c=>PySem.call f c):Challenge.rw_sx_r033_2.Holds:=by refine PySem.W.holds_law (by kernel_rfl) λa=>?_;exact PySem.W.holds_open (r:=Challenge.rw_sx_r033_2.row) (q:=qv) (loose:=loose) (Xt:=λs=>recOk [] s) (XP:=λ_ _=>True) (Yf:=PA) (Ya:=λ_=>(true,Mg)) (YP:=JV) (N:=4150) left dJ dK (λ_ _=>trivial) (λ_ _ _ _ _=>trivial) (by kernel_rfl) (by kernel_rfl) (by kernel_rfl) (λs e=>recFacts_of e) (by rfl) (by assumption) (by decide +kernel) ⟨rfl,rfl,rfl,rfl,rfl,by decide +kernel⟩ ⟨[.list []],by decide +kernel,by decide +kernel⟩ call
end Mine
namespace Mine.U
open PySem
def nL{a b:Nat}(h:true=Nat.ble a b):a<=b:=Nat.le_of_ble_eq_true h.symm
def bnd{c d:Type}{x:Option c}{a:c}{f:c->Option d}{y:Option d}(h:x=some a)(k:f a=y):x.bind f=y:=by subst h;exact k
def Aa{c d:Type}{x:Option c}{a:c}{f:c->d}{y:d}(h:x=some a)(k:f a=y):x.map f=some y:=by subst h k;rfl
def DM{c a:Type}{x:Option c}{f:c->a}{b y:a}(h:x=.none)(k:b=y):BK x f b=y:=by subst h;exact k
def Br{c d:Type}{x:Option c}{a:c}{f:c->d}{b y:d}(h:x=some a)(k:f a=y):BK x f b=y:=by subst h;exact k
def Bk{a:Type}{b:Bool}{x z y:a}(h:b=true)(k:x=y):(if b=true then x else z)=y:=by subst h;exact k
def Ef{a:Type}{c:Prop}[Decidable c]{x z y:a}(h:c)(k:x=y):(if c then x else z)=y:=by rw[A5 h];exact k
def PC{a:Type}{c:Prop}[Decidable c]{x z y:a}(h:¬c)(k:z=y):(if c then x else z)=y:=by rw[A1 h];exact k
noncomputable def Bd(a:Fn)(k:Nat):Stmt:=a.body[k]?.getD<|.Pass default
noncomputable def at'(l:List Stmt)(k:Nat):Stmt:=l[k]?.getD<|.Pass default
noncomputable def CA(s:Stmt):List Stmt:=(HY s).2.1
noncomputable def DN(s:Stmt):List Stmt:=(HY s).2.2.1
noncomputable def CB(s:Stmt):Expr:=(HY s).1
section
variable(G:Gl)(a:Fn)(K:Nat)
def Ev(e:Expr)(st:St)(r:R)(st':St):Prop:=∀n,(AY G<|n+K).ev a e st=some (r,st')
def Tt(e:Expr)(st:St)(b:Bool)(st':St):Prop:=∀n,(AY G<|n+K).tt a e st=some (b,st')
def Ex(c:List Stmt)(st:St)(fl:Fl)(st':St):Prop:=∀n,(AY G<|n+K).ex a c st=some (fl,st')
def X1(s:Stmt)(st:St)(fl:Fl)(st':St):Prop:=∀n,OO G (AY G<|n+K) a s st=some (fl,st')
def Cl(vs:List V)(σ:List Cell)(r:R)(σ':List Cell):Prop:=∀n,(AY G<|n+K).call a vs σ=some (r,σ')
def Kp(b:Bool)(e:Expr)(st:St)(v:V)(st':St):Prop:=∀n,En (AY G<|n+K) b a e st=some (v,st')
def Sl(es:List Expr)(st:St)(vs:List V)(st':St):Prop:=∀n,Dt (AY G<|n+K) a es st=some (vs,st')
def Ws(us es:List Expr)(st:St)(vs:List V)(st':St):Prop:=∀n,Kb (AY G<|n+K) a us es st=some (vs,st')
def To(t:Expr)(v:V)(st st':St):Prop:=∀n,Ga G (AY G<|n+K) a t v st=some st'
def Hc(c:List Expr)(vs:List V)(st st':St):Prop:=∀n,GD G (AY G<|n+K) a c vs st=some st'
def Dj(e:Expr)(st:St)(l:It)(st':St):Prop:=∀n,Fk G (AY G<|n+K) a e st=some (l,st')
def Lp(t:Tg)(c:List Stmt)(l:List V)(st st':St):Prop:=∀n,forLoop' (AY G<|n+K) a t c l st=some st'
def B3(k:Nat)(xs:List<|Str×V)(σ:List Cell)(r:R):Prop:=∃r' st',(∀n,(AY G<|n+K).ex a (a.body.drop k) ⟨xs,σ⟩=some (.ret r',st'))/\IH st'.store r'=some r
end
section
variable{G:Gl}{o f:Fn}{K L:Nat}{A E st₁ g H:St}{r r₁ I:R}{σ S Q σ':List Cell}{B ys O xs':List (Str×V)}{e l t:Expr}{C us:List Expr}{p q M:Pos}{v w:V}{vs:List V}{b c:Bool}{d:D}{fl:Fl}{s:Stmt}{N J:List Stmt}{x y:Str}
def up(a:K<=L){P:Nat->Prop}(h:∀n,P<|n+K):∀n,P<|n+L:=λn=>by have:=h<|n+(L-K);rwa [show n+(L-K)+K=n+L from by rw[Bv,Nat.sub_add_cancel a]] at this
theorem Ex.up(h:Ex G o K N A fl E)(a:K<=L):Ex G o L N A fl E:=Mine.U.up a (P:=λn=>(AY G n).ex o N A=some (fl,E)) h
theorem Cl.up(h:Cl G f K vs σ r σ')(a:K<=L):Cl G f L vs σ r σ':=Mine.U.up a (P:=λn=>(AY G n).call f vs σ=some (r,σ')) h
def Cl.u(h:Cl G f K vs σ r σ')(a:true=Nat.ble K L):Cl G f L vs σ r σ':=h.up<|nL a
def AA(B ys:List<|Str×V):Prop:=∀x v,AJ x ys=some v->AJ x B=some v
def AA.refl:AA B B:=λ_ _ h=>h
def AA.nil:AA B []:=λ_ _ h=>nomatch h
def IS{a:Type}(x y:Str)(v:a)(r:List<|Str×a):AJ x ((y,v)::r)=if x=y then some v else AJ x r:=rfl
def U5{a:Type}(x y:Str)(v w:a)(r:List<|Str×a):AS x v ((y,w)::r)=if x=y then(x,v)::r else(y,w)::AS x v r:=rfl
def AA.cons(h:AJ x B=some v)(k:AA B ys):AA B<|(x,v)::ys:=λz w e=>by rw[IS] at e;by_cases a:z=x;rw[A5 a] at e;obtain rfl:=Option.some.inj e;rw[a];exact h;rw[A1 a] at e;exact k z w e
def AA.trans(h:AA B ys)(k:AA ys O):AA B O:=λx v e=>h x v<|k x v e
def CL{a:Type}{x:Str}{v:a}{B:List (Str×a)}:AJ x (AS x v B)=some v:=by induction B with|nil=>exact A5 rfl|cons p r h=>rw[U5 x p.1 v p.2 r];by_cases e:x=p.1;rw[A5 e];exact A5 rfl;rw[A1 e,IS,A1 e];exact h
def JW{a:Type}{x y:Str}{v:a}(h:x≠y){B:List (Str×a)}:AJ x (AS y v B)=AJ x B:=by induction B with|nil=>exact A1 h|cons p r i=>rw[U5 y p.1 v p.2 r,IS x p.1 p.2 r];by_cases e:y=p.1;rw[A5 e,IS,A1 h,A1<|e▸h];rw[A1 e,IS,i]
def AA.set(h:AA B ys):AA (AS x v B)<|AS x v ys:=λz w e=>by by_cases a:z=x;subst a;rw[CL] at e ⊢;exact e;rw[JW a] at e ⊢;exact h z w e
def AA.put(h:AA B ys)(k:AS x v ys=O):AA (AS x v B) O:=k▸h.set
def AA.other(h:AA B ys)(k:AJ x ys=.none):AA (AS x v B) ys:=λz w e=>by by_cases a:z=x;subst a;rw[k] at e;exact Ae e;rw[JW a];exact h z w e
noncomputable def Cp:Option NameKind->Bool|some .local=>true|some .cell=>true|some .free=>true|_=>false
def pn(h:AA B ys)(a:true=Cp (o.names.lookup x))(i:AJ x ys=some v):Ev G o (K+1) (.Name x p) ⟨B,σ⟩ (.val v) ⟨B,σ⟩:=λn=>by show ID G o x ⟨B,σ⟩=_;unfold ID;cases e:o.names.lookup x with|none=>rw[e] at a;exact Kd a|some k=>cases k<;>first|(rw[e] at a;cases a;done)|exact Aa (h x v i) rfl
def pR(h:true=Cp (o.names.lookup x))(a:AJ x B=some v):Ev G o (K+1) (.Name x p) ⟨B,σ⟩ (.val v) ⟨B,σ⟩:=pn AA.refl h a
def Ak{h:Operator}{l e:Expr}{a b x:R}(k:Ev G o K l A a st₁)(j:Ev G o K e st₁ b g)(i:Er g.store h a b=some x):Ev G o (K+1) (.BinOp l h e p) A x g:=λn=>bnd (k n)<|bnd (j n)<|Aa i rfl
def BI{s:Expr}{i:R}(hs:J4 s=.none)(j:Ev G o K e A r st₁)(h:Ev G o K s st₁ i g)(a:Ce g.store r i=some w):Ev G o (K+1) (.Subscript e s p) A (.val w) g:=λn=>DM hs<|bnd (j n)<|bnd (h n)<|Aa a rfl
def Bx{a b:Option Expr}{i j:Option Int}(u:Ev G o K e A r st₁)(m:∀n,IE (AY G<|n+K) o a st₁=some (i,g))(k:∀n,IE (AY G<|n+K) o b g=some (j,H))(h:Eb H.store r i j=some r₁):Ev G o (K+1) (.Subscript e (.Slice a b .none q) p) A r₁ H:=λn=>bnd (u n)<|bnd (m n)<|bnd (k n)<|Aa h rfl
def C0{n:Nat}:IE (AY G n) o .none A=some (.none,A):=rfl
def Bs{i:Int}(h:Ev G o K e A (.val<|.d<|.int i) st₁):∀n,IE (AY G<|n+K) o (some e) A=some (some i,st₁):=λn=>Aa (bnd (bnd (h n) rfl) rfl) rfl
def Bt(h:Sl G o K C A vs st₁)(a:true=Nat.ble C.length lim):Ev G o (K+1) (.List C p) A (.fresh vs) st₁:=λn=>Ef (nL a)<|Aa (h n) rfl
def BU{k:Nat}(h:Sl G o K C A vs st₁)(a:EJ vs=v)(i:true=Nat.ble C.length lim):Ev G o (K+1) (.Tuple C k p) A (.val v) st₁:=λn=>Ef (nL i)<|Aa (h n)<|by rw[a]
def CC:Sl G o K [] A [] A:=λn=>rfl
def CD(h:Kp G o K o.hm e A v st₁)(k:Sl G o K C st₁ vs g):Sl G o K (e::C) A (v::vs) g:=λn=>bnd (h n)<|Aa (k n) rfl
def AK(h:Ev G o K e A (.val v) st₁):Kp G o K b e A v st₁:=λn=>bnd (h n) rfl
def sK(h:Ev G o K e A (.val v) st₁)(k:Sl G o K C st₁ vs g):Sl G o K (e::C) A (v::vs) g:=CD (AK h) k
def sZ(h:Ev G o K e A (.val v) st₁):Sl G o K [e] A [v] st₁:=sK h CC
def sN(h:AA B ys)(i:true=Cp (o.names.lookup x))(a:AJ x ys=some v)(k:Sl G o (K+1) C ⟨B,σ⟩ vs g):Sl G o (K+1) (.Name x p::C) ⟨B,σ⟩ (v::vs) g:=sK (pn h i a) k
def sR(h:true=Cp (o.names.lookup x))(a:AJ x B=some v)(k:Sl G o (K+1) C ⟨B,σ⟩ vs g):Sl G o (K+1) (.Name x p::C) ⟨B,σ⟩ (v::vs) g:=sK (pR h a) k
def sO(h:true=Cp (o.names.lookup x))(a:AJ x B=some v):Sl G o (K+1) [.Name x p] ⟨B,σ⟩ [v] ⟨B,σ⟩:=sZ<|pR h a
def kN(h:AA B ys)(i:true=Cp (o.names.lookup x))(a:AJ x ys=some v):Kp G o (K+1) b (.Name x p) ⟨B,σ⟩ v ⟨B,σ⟩:=AK<|pn h i a
def kR(h:true=Cp (o.names.lookup x))(a:AJ x B=some v):Kp G o (K+1) b (.Name x p) ⟨B,σ⟩ v ⟨B,σ⟩:=AK<|pR h a
def BN{l:List V}{ds:List D}(h:Ev G o K e A (.fresh l) st₁)(i:b=false)(a:Cn l=some ds):Kp G o K b e A (.d<|.lst ds) st₁:=λn=>by subst i;exact bnd (h n)<|Aa a rfl
def Cq{l:List V}(h:Ev G o K e A (.fresh l) ⟨B,σ⟩)(a:b=true):Kp G o K b e A (.loc σ.length) ⟨B,σ++[.lst l]⟩:=λn=>by subst a;exact bnd (h n) rfl
theorem BO:∀l:List D,Cn (l.map V.d)=some l|[]=>rfl|x::r=>A3 (Option.map (x::·))<|BO r
def CZ{k:Nat}{x:Str}(h:PyData.strOk x=true):Ev G o (K+1) (.Constant (.str x) k p) A (.val<|.d<|.str x) A:=λn=>Bk h rfl
def AN{k:Nat}{i:Int}:Ev G o (K+1) (.Constant (.int i) k p) A (.val<|.d<|.int i) A:=λn=>rfl
def JX{k:Nat}:Ev G o (K+1) (.Constant .none k p) A (.val<|.d .none) A:=λn=>rfl
def iX{k:Nat}{i:Int}(h:Ev G o (K+1) e A r st₁)(a:Ce st₁.store r (.val<|.d<|.int i)=some w):Ev G o (K+2) (.Subscript e (.Constant (.int i) k q) p) A (.val w) st₁:=BI (K:=K+1) rfl h AN a
def BY{us:List V}(h:true=FL o x)(k:x≠G.cls)(j:AJ x G.fns=some f)(hs:f.sh=false)(m:Sl G o K C A vs ⟨B,σ⟩)(i:KQ vs σ=some (us,σ'))(a:Cl G f K us [] r []):Ev G o (K+1) (.Call (.Name x q) C [] p) A r ⟨B,σ'⟩:=λn=>by refine Bk h.symm<|PC k<|Br j<|bnd (m n) ?_;show cond f.sh _ _=_;rw[hs];exact bnd i<|bnd (a n) rfl
def U6(h:true=FL o x)(j:x≠G.cls)(i:AJ x G.fns=some f)(hs:f.sh=true)(k:Sl G o K C A vs ⟨B,σ⟩)(a:Cl G f K vs σ r σ'):Ev G o (K+1) (.Call (.Name x q) C [] p) A r ⟨B,σ'⟩:=λn=>by refine Bk h.symm<|PC j<|Br i<|bnd (k n) ?_;show cond f.sh _ _=_;rw[hs];exact Aa (a n) rfl
def BP(i:∀n,Es G (AY G<|n+K) o x [e] A=IJ (AY G<|n+K) o x e A)(h:Ev G o K e A r st₁)(a:E9 st₁.store x r=some r₁):Ev G o (K+1) (.Call (.Name x q) [e] [] p) A r₁ st₁:=λn=>(i n).trans<|bnd (h n)<|Aa a rfl
def Ks(j:∀n,Es G (AY G<|n+K) o "dict" [e] A=M3 (AY G<|n+K) o e A)(h:Ev G o K e A r ⟨B,σ⟩){l:List V}{prs:List (Int×V)}(i:Ch σ r=some l)(a:IA (E5 l) l=some prs):Ev G o (K+1) (.Call (.Name "dict" q) [e] [] p) A (.val<|.loc σ.length) ⟨B,σ++[.dct (E5 l)<|DC prs]⟩:=λn=>(j n).trans<|bnd (h n)<|Aa (bnd i<|Aa a rfl) rfl
def PD{i:Pos}{dd:Bool×List (Int×V)}{l a:List D}(m:∀n,Es G (AY G<|n+K) o "sorted" [.Call (.Attribute e "items" i) [] [] q] A=OG (AY G<|n+K) o e A)(h:Ev G o K e A r st₁)(k:Ep st₁.store r=some dd)(j:IB dd.1 dd.2=some l)(hs:EL l=some a):Ev G o (K+1) (.Call (.Name "sorted" p) [.Call (.Attribute e "items" i) [] [] q] [] M) A (.fresh<|a.map .d) st₁:=λn=>(m n).trans<|bnd (h n)<|bnd k<|bnd j<|Aa hs rfl
def Kt{m:Str}{k:Pos}{i:Nat}{a l:List V}(j:true=Dh e k M C.length)(z:Ev G o K e A (.val<|.loc i) st₁)(hs:st₁.store[i]?=some (.lst a))(T:Sl G o K C st₁ vs ⟨B,σ⟩)(h:σ[i]?=some (.lst l))(u:J6 σ i l m vs=some (r,σ')):Ev G o (K+1) (.Call (.Attribute e m k) C [] M) A r ⟨B,σ'⟩:=λn=>by refine Bk j.symm<|bnd (bnd (z n) rfl)<|bnd (T n) ?_;show(if (KZ m st₁.store[i]?==M2 σ[i]?)=true then M1 G _ i m vs ⟨B,σ⟩ σ[i]? else .none)=_;rw[hs,h];exact Aa u rfl
def Ku{m:Str}{u:Pos}{i:Nat}{h b:Bool}{a l:List (Int×V)}(k:true=Dh e u M C.length)(T:Ev G o K e A (.val<|.loc i) st₁)(hs:st₁.store[i]?=some (.dct h a))(X:Sl G o K C st₁ vs ⟨B,σ⟩)(j:σ[i]?=some (.dct b l))(z:KY σ i b l m vs=some (r,σ')):Ev G o (K+1) (.Call (.Attribute e m u) C [] M) A r ⟨B,σ'⟩:=λn=>by refine Bk k.symm<|bnd (bnd (T n) rfl)<|bnd (X n) ?_;show(if (KZ m st₁.store[i]?==M2 σ[i]?)=true then M1 G _ i m vs ⟨B,σ⟩ σ[i]? else .none)=_;rw[hs,j];exact Aa z rfl
noncomputable def dM:CmpOp->Bool
 |.Is|.IsNot|.In|.NotIn=>false
 |_=>true
def Af{a:CmpOp}{l:Expr}(h:true=dM a)(k:Ev G o K l A r₁ st₁)(j:Ev G o K e st₁ I g)(i:E4 a g.store r₁ I=some b):Tt G o (K+1) (.Compare l [a] [e] p) A b g:=λn=>by refine Eq.trans (b:=((AY G<|n+K).ev o l A).bind λp=>((AY G<|n+K).ev o e p.2).bind λq=>(E4 a q.2.store p.1 q.1).map λb=>(b,q.2)) ?_<|bnd (k n)<|bnd (j n)<|Aa i rfl;cases a<;>first|rfl|cases h
def Kv{l:Expr}(i:Ev G o K l A r₁ st₁)(h:Ev G o K e st₁ I g)(a:G9 g.store r₁ I=some b):Tt G o (K+1) (.Compare l [.In] [e] p) A b g:=λn=>bnd (i n)<|bnd (h n)<|Aa a rfl
def JY{l:Expr}(j:Ev G o K l A r₁ st₁)(i:Ev G o K e st₁ I g)(h:G9 g.store r₁ I=some c)(a:(!c)=b):Tt G o (K+1) (.Compare l [.NotIn] [e] p) A b g:=λn=>bnd (j n)<|bnd (i n)<|Aa h<|by rw[a]
def Fq(i:∀n,(AY G<|n+(K+1)).tt o e A=M5 (AY G<|n+K) o e A)(h:Ev G o K e A r st₁)(a:Ls st₁.store r=some b):Tt G o (K+1) e A b st₁:=λn=>(i n).trans<|bnd (h n)<|Aa a rfl
def U7(h:Tt G o K e A c st₁)(a:(!c)=b):Tt G o (K+1) (.UnaryOp .Not e p) A b st₁:=λn=>Aa (h n)<|by rw[a]
def CQ(h:∀n,Et (AY G<|n+K) o .And C A=some (b,st₁)):Tt G o (K+1) (.BoolOp .And C p) A b st₁:=h
def IT(h:∀n,Et (AY G<|n+K) o .Or C A=some (b,st₁)):Tt G o (K+1) (.BoolOp .Or C p) A b st₁:=h
def Dk(h:Tt G o K e A true st₁)(k:∀n,Et (AY G<|n+K) o .And C st₁=some (b,g)):∀n,Et (AY G<|n+K) o .And (e::C) A=some (b,g):=λn=>bnd (h n)<|k n
def FR(h:Tt G o K e A false st₁):∀n,Et (AY G<|n+K) o .And (e::C) A=some (false,st₁):=λn=>bnd (h n) rfl
def Dm(h:Tt G o K e A b st₁):∀n,Et (AY G<|n+K) o .And [e] A=some (b,st₁):=λn=>by refine bnd (h n) ?_;cases b<;>rfl
def Kw(h:Tt G o K e A false st₁)(k:∀n,Et (AY G<|n+K) o .Or C st₁=some (b,g)):∀n,Et (AY G<|n+K) o .Or (e::C) A=some (b,g):=λn=>bnd (h n)<|k n
def U8(h:Tt G o K e A true st₁):∀n,Et (AY G<|n+K) o .Or (e::C) A=some (true,st₁):=λn=>bnd (h n) rfl
def Kx(h:Tt G o K e A b st₁):∀n,Et (AY G<|n+K) o .Or [e] A=some (b,st₁):=λn=>by refine bnd (h n) ?_;cases b<;>rfl
def Bh:Ex G o (K+1) [] A .next A:=λn=>rfl
def BR(h:X1 G o K s A .next st₁)(k:Ex G o K N st₁ fl g):Ex G o (K+1) (s::N) A fl g:=λn=>bnd (h n)<|k n
def xO(h:X1 G o (K+1) s A .next st₁):Ex G o (K+2) [s] A .next st₁:=BR h Bh
def Eg(h:X1 G o K s A (.ret r) st₁):Ex G o (K+1) (s::N) A (.ret r) st₁:=λn=>bnd (h n) rfl
def Bo(h:Ev G o K e A r st₁):X1 G o K (.Return (some e) p) A (.ret r) st₁:=λn=>Aa (h n) rfl
def B4{a i:List Stmt}(h:Tt G o K t A true st₁)(k:Ex G o K a st₁ fl g):X1 G o K (.If t a i p) A fl g:=λn=>bnd (h n)<|k n
def Av{i a:List Stmt}(h:Tt G o K t A false st₁)(k:Ex G o K a st₁ fl g):X1 G o K (.If t i a p) A fl g:=λn=>bnd (h n)<|k n
def Ad(h:Kp G o K (wants o<|.Name x p) e A v ⟨B,σ⟩)(a:true=DD o x):X1 G o K (.Assign [.Name x p] e q) A .next ⟨AS x v B,σ⟩:=λn=>Aa (bnd (h n)<|Bk a.symm rfl) rfl
def Cr{u m:Nat}{j i:Pos}(z:J8 us=true)(T:C.all (constantsAlone 8)=false)(h:Ws G o K us C A vs st₁)(k:Hc G o K us vs st₁ g):X1 G o K (.Assign [.Tuple us u j] (.Tuple C m i) q) A .next g:=λn=>by refine Aa (a:=g) (Bk z ?_) rfl;show cond (C.all<|constantsAlone 8) _ _=_;rw[T];exact bnd (h n)<|k n
def PE{j:Nat}{i:Pos}{l:List V}(u:J8 us=true)(z:HP e=.none)(h:Kp G o K false e A v st₁)(m:I5 v=some l)(k:Hc G o K us l st₁ g):X1 G o K (.Assign [.Tuple us j i] e q) A .next g:=λn=>Aa (a:=g) (Bk u<|DM z<|bnd (h n)<|bnd m<|k n) rfl
def FT{i:Expr}(h:Kp G o K (wants o<|.Subscript t i p) e A v st₁)(k:To G o K (.Subscript t i p) v st₁ g):X1 G o K (.Assign [.Subscript t i p] e q) A .next g:=λn=>Aa (bnd (h n)<|k n) rfl
def Cs:Ws G o K [] [] A [] A:=λn=>rfl
def BG(h:Kp G o K (wants o t) e A v st₁)(k:Ws G o K us C st₁ vs g):Ws G o K (t::us) (e::C) A (v::vs) g:=λn=>bnd (h n)<|Aa (k n) rfl
def U9:Hc G o K [] [] A A:=λn=>rfl
def PG(h:To G o K t v A st₁)(k:Hc G o K us vs st₁ g):Hc G o K (t::us) (v::vs) A g:=λn=>bnd (h n)<|k n
def PH(a:true=DD o x):To G o K (.Name x p) v ⟨B,σ⟩ ⟨AS x v B,σ⟩:=λn=>Bk a.symm rfl
def tN(a:true=DD o x)(k:Hc G o K us vs ⟨AS x v B,σ⟩ g):Hc G o K (.Name x p::us) (v::vs) ⟨B,σ⟩ g:=PG (PH a) k
def tO(a:true=DD o x):Hc G o K [.Name x p] [v] ⟨B,σ⟩ ⟨AS x v B,σ⟩:=tN a U9
def Hd{i:Expr}{m:Nat}{k:Bool×Int}{a:D}(z:Ev G o K t A (.val<|.loc m) st₁)(u:Ev G o K i st₁ (.val<|.d a) ⟨B,σ⟩)(h:E3 a=some k)(j:OM σ m k v σ[m]?=some σ'):To G o K (.Subscript t i p) v A ⟨B,σ'⟩:=λn=>bnd (bnd (z n) rfl)<|bnd (bnd (u n)<|Aa h rfl)<|Aa j rfl
def Gm(a:GY e=false)(h:Ev G o K e A r st₁):X1 G o K (.Expr e p) A .next st₁:=λn=>by show(if GY e=true then _ else _)=_;rw[a];exact Aa (h n) rfl
def Ez{i:Expr}{l:It}{a:Tg}(h:Dj G o K i A l st₁)(j:Dg t=some a)(m:Ci o l.pr a=true)(k:Lp G o K a J l.items st₁ g):X1 G o K (.For t i J [] p) A .next g:=λn=>bnd (h n)<|bnd j<|Bk m<|Aa (k n) rfl
def F0{a:Tg}:Lp G o K a J [] A A:=λn=>rfl
def ED{a:Tg}(i:GB a v A=some st₁)(h:Ex G o K J st₁ .next g)(k:Lp G o K a J vs g H):Lp G o K a J (v::vs) A H:=λn=>bnd i<|bnd (h n)<|k n
def Ky{l:List V}(i:∀n,Fk G (AY G<|n+K) o e A=Lu (AY G<|n+K) o e A)(h:Ev G o K e A r ⟨B,σ⟩)(a:HR σ r=some (l,σ')):Dj G o K e A ⟨l,false⟩ ⟨B,σ'⟩:=λn=>(i n).trans<|bnd (h n)<|Aa a rfl
def By{l:List V}(i:true=(IF e).isNone)(h:Ev G o K e A r ⟨B,σ⟩)(a:HR σ r=some (l,σ')):Dj G o K e A ⟨l,false⟩ ⟨B,σ'⟩:=λn=>DM (Option.isNone_iff_eq_none.mp i.symm)<|bnd (h n)<|Aa a rfl
def dN(i:∀n,Fk G (AY G<|n+K) o (.Call (.Name "enumerate" p) [e] [] q) A=OE (AY G<|n+K) o [e] A){l:List V}(h:Ev G o K e A r ⟨B,σ⟩)(a:HQ σ r=some (l,σ')):Dj G o K (.Call (.Name "enumerate" p) [e] [] q) A ⟨HS 0 l,true⟩ ⟨B,σ'⟩:=λn=>(i n).trans<|bnd rfl<|bnd (h n)<|Aa a rfl
def Ct(a:vs.length=f.params.length)(hs:f.sh=false)(h:B3 G f K 0 (f.params.zip vs) [] r):Cl G f (K+1) vs [] r []:=λn=>by obtain⟨j,E,h,i⟩:=h;refine Ef a ?_;rw[hs];exact bnd (h n)<|Aa i rfl
def Mi{k:Nat}(a:true=decide (k<o.body.length)):o.body.drop k=Bd o k::o.body.drop (k+1):=by have a:=D2 a.symm;rw[List.drop_eq_getElem_cons a,show o.body[k]=Bd o k from by unfold Bd;rw[Cv a];rfl]
def Ag{k:Nat}(j:true=decide (k<o.body.length))(h:X1 G o K (Bd o k) ⟨B,σ⟩ .next ⟨xs',σ'⟩)(i:B3 G o K (k+1) xs' σ' r):B3 G o (K+1) k B σ r:=by obtain⟨a,E,i,m⟩:=i;refine⟨a,E,λn=>?_,m⟩;rw[Mi j];exact bnd (h n)<|i n
def CR{k:Nat}(a:true=decide (k<o.body.length))(h:X1 G o K (Bd o k) ⟨B,σ⟩ (.ret r₁) E)(i:IH E.store r₁=some r):B3 G o (K+1) k B σ r:=by refine⟨r₁,E,λn=>?_,i⟩;rw[Mi a];exact bnd (h n) rfl
theorem B3.up{k:Nat}(h:B3 G o K k B σ r)(i:K<=L):B3 G o L k B σ r:=by obtain⟨a,E,h,j⟩:=h;exact⟨a,E,Mine.U.up i (P:=λn=>(AY G n).ex o (o.body.drop k) ⟨B,σ⟩=some (.ret a,E)) h,j⟩
def B3.u{k:Nat}(h:B3 G o K k B σ r)(a:true=Nat.ble K L):B3 G o L k B σ r:=h.up<|nL a
end
abbrev PM:=List<|Int×D
noncomputable def BT(p:Int×D):D:=.tup [.int p.1,p.2]
noncomputable def dO(t:PM×Int):D:=.tup [.lst<|t.1.map BT,.int t.2]
def Gn(d:D)(k:Int)(s:Str)(a:D):Prop:=Cl gl Kr 200 [.d d,.d<|.key k,.d<|.str s] [] (.val<|.d a) []
def EQ(d:D)(k:Int)(a:D):Prop:=Cl gl JO 200 [.d d,.d<|.key k] [] (.val<|.d a) []
noncomputable def B7:List Int:=[0,1,2,3,4,5,6,7,8,9,10,11,12,13,14,15,16,17,18,19,20,21,22,23,24,25,26,27,28,29,30,31,32,33,34,35]
abbrev DO:=Int->Option D
noncomputable def DP{a:Type}(c:List Int)(f:Int->Option a):List<|Int×a:=c.filterMap λn=>(f n).map λy=>(n,y)
noncomputable def AH{a:Type}(f:Int->Option a):List<|Int×a:=DP B7 f
structure PF where
 f:DO
 r:Int
noncomputable def BD(t:PF):D:=dO (AH t.f,t.r)
open Classical in
noncomputable def upd{a:Type}(f:Int->a)(n:Int)(y:a):Int->a:=λm=>if m=n then y else f m
def C1{a:Type}(f:Int->Option a):Prop:=∀n y,f n=some y->n∈B7
inductive Pg:D->Prop
 |leaf (l:List (Int×Str)):Pg (.tup [.str "leaf",.lst (l.map λp=>.tup [.key p.1,.str p.2])])
 |inner (ks cs:List Int):Pg (.tup [.str "inner",.lst (ks.map .key),.lst (cs.map .int)])
structure Ok1(n:Int)(y:D):Prop where
 pg:Pg y
 dm:n∈B7
 lo:n<20
def Bl(t:PF):Prop:=∀n y,t.f n=some y->Ok1 n y
theorem Bl.pg{t:PF}(g:Bl t)(n:Int)(y:D)(e:t.f n=some y):Pg y:=(g n y e).pg
theorem Bl.dm{t:PF}(g:Bl t):C1 t.f:=λn y e=>(g n y e).dm
def Aj{a:Type}{f:Int->a}{n:Int}{y:a}:upd f n y n=y:=A5 rfl
def Ay{a:Type}{f:Int->a}{n m:Int}{y:a}(h:m≠n):upd f n y m=f m:=A1 h
noncomputable def B5(p:Int×D):Int×V:=(p.1,.d p.2)
section
variable{a:Type}(k n:Int)(y:a)(p:Int×a)(r:List (Int×a))
def Ca:AX n (p::r)=if n=p.1 then some p.2 else AX n r:=rfl
def Kz:BX k y (p::r)=if k=p.1 then(k,y)::r else p::BX k y r:=rfl
def Mj:Cd k (p::r)=if k=p.1 then r else p::Cd k r:=rfl
end
def Mk{a:Type}(g:a->Int)(x y:a)(r:List a):Df g x (y::r)=if g x<=g y then x::y::r else y::Df g x r:=rfl
noncomputable def vm{c a:Type}(g:c->a)(p:Int×c):Int×a:=(p.1,g p.2)
def L1{a c:Type}(g:a->c)(k:Int)(A:List<|Int×a):AX k (A.map<|vm g)=(AX k A).map g:=by induction A with|nil=>rfl|cons p r d=>rw[List.map_cons,Ca,Ca];by_cases e:k=p.1;rw[A5 e];exact A5 e;rw[A1 e];exact(A1 e).trans d
def dP(k:Int)(A:PM):AX k (A.map B5)=(AX k A).map V.d:=L1 V.d k A
structure Dic{α:Type}(A:List (Int×α))(f:Int->Option α):Prop where
 nod:(A.map (·.1)).Nodup
 look:∀n,AX n A=f n
def PJ{a:Type}(k:Int)(y:a)(n:Int)(A:List<|Int×a):AX n (BX k y A)=if n=k then some y else AX n A:=by induction A with|nil=>rfl|cons p r c=>rw[Kz];by_cases e:k=p.1;rw[A5 e,Ca,Ca];by_cases h:n=k;exact(A5 h).trans (A5 h).symm;exact(A1 h).trans ((A1 h).trans<|A1 λq=>h<|q.trans e.symm).symm;rw[A1 e,Ca,Ca,c];by_cases h:n=p.1;rw[A5 h,A5 h,A1 λq:n=k=>e<|q.symm.trans h];rw[A1 h,A1 h]
def DY{a:Type}{n:Int}{A:List (Int×a)}:AX n A=.none↔n∉A.map (·.1):=by induction A with|nil=>exact⟨λ_=>Ax,λ_=>rfl⟩|cons p r c=>rw[Ca,List.map_cons,An];by_cases e:n=p.1;rw[A5 e];exact⟨(λq=>by exact FO q),λq=>absurd (Or.inl e) q⟩;rw[A1 e,c];exact⟨λq h=>h.elim e q,λq h=>q<|.inr h⟩
def L3{a:Type}(k:Int)(y:a)(A:List<|Int×a):(BX k y A).map (·.1)=if k∈A.map (·.1) then A.map (·.1) else A.map (·.1)++[k]:=by induction A with|nil=>exact(A1 Ax).symm|cons p r c=>rw[Kz,List.map_cons];by_cases e:k=p.1;rw[A5 e,A5<|e▸AT];exact A3 (·::r.map (·.1)) e;rw[A1 e,List.map_cons,c];by_cases h:k∈r.map (·.1);rw[A5 h,A5<|Ah _ h];rw[A1 h,A1 λq=>(An.mp q).elim e h];rfl
def UA{a:Type}(k:Int)(A:List<|Int×a):((Cd k A).map (·.1)).Sublist<|A.map (·.1):=by induction A with|nil=>exact List.Sublist.slnil|cons p r c=>rw[Mj];by_cases e:k=p.1;rw[A5 e];exact List.sublist_cons_self _ _;rw[A1 e];exact c.cons_cons _
def dQ{c:Type}(k n:Int)(A:List<|Int×c):(A.map (·.1)).Nodup->AX n (Cd k A)=if n=k then .none else AX n A:=by induction A with|nil=>exact λ_=>(ite_self _).symm|cons p r d=>intro h;have h:=Bi.mp h;rw[Mj,Ca];by_cases e:k=p.1;rw[A5 e];by_cases a:n=k;rw[A5 a];exact DY.mpr<|a▸e▸h.1;rw[A1 a,A1<|e▸a];rw[A1 e,Ca,d h.2];by_cases a:n=p.1;rw[A5 a,A5 a,A1 λq:n=k=>e<|q.symm.trans a];rw[A1 a,A1 a]
section
variable{i:Type}{A:List (Int×i)}{f:Int->Option i}
def Dic.set(h:Dic A f)(k:Int)(y:i):Dic (BX k y A)<|upd f k<|some y:=⟨by rw[L3];split;exact h.nod;rename_i d;exact List.nodup_append.mpr ⟨h.nod,Bi.mpr ⟨Ax,List.nodup_nil⟩,λa j b g e=>d<|by rw[Ao.mp g] at e;exact e▸j⟩, λn=>by rw[PJ];by_cases c:n=k;rw[A5 c,c,Aj];rw[A1 c,Ay c,h.look]⟩
def Dic.del(h:Dic A f)(k:Int):Dic (Cd k A)<|upd f k .none:=⟨(UA k A).nodup h.nod,λn=>by rw[dQ _ _ _ h.nod];by_cases a:n=k;rw[A5 a,a,Aj];rw[A1 a,Ay a,h.look]⟩
def PK{i a:Type}(g:i->a)(k:Int)(y:i)(A:List<|Int×i):BX k (g y) (A.map<|vm g)=(BX k y A).map (vm g):=by induction A with|nil=>rfl|cons p r c=>rw[List.map_cons,Kz,Kz];by_cases e:k=p.1;rw[A5 e];exact A5 e;rw[A1 e];exact(A1 e).trans<|A3 (vm g p::·) c
def UB(k:Int)(y:D)(A:PM):BX k (V.d y) (A.map B5)=(BX k y A).map B5:=PK V.d k y A
def dR(k:Int)(A:PM):Cd k (A.map B5)=(Cd k A).map B5:=by induction A with|nil=>rfl|cons p r a=>rw[List.map_cons,Mj,Mj];by_cases e:k=p.1;rw[A5 e];exact A5 e;rw[A1 e];exact(A1 e).trans<|A3 (B5 p::·) a
def UC(A:PM):IB false (A.map B5)=some (A.map BT):=by induction A with|nil=>rfl|cons p r c=>exact bnd (a:=p.2) rfl<|Aa c rfl
def UD{i:Type}(x:Int×i)(A:List<|Int×i):(Df (·.1) x A).Perm<|x::A:=by induction A with|nil=>exact List.Perm.refl _|cons p r a=>rw[Mk];by_cases h:x.1<=p.1;rw[A5 h];rw[A1 h];exact(a.cons p).trans<|List.Perm.swap _ _ _
def Ml{i:Type}(A:List<|Int×i):(C8 (·.1) A).Perm A:=by induction A with|nil=>exact List.Perm.refl _|cons p r a=>exact(UD p _).trans<|a.cons p
def dS{i:Type}(n:Int){A B:List (Int×i)}(h:A.Perm B)(c:(A.map (·.1)).Nodup):AX n A=AX n B:=by induction h with|nil=>rfl|cons p _ k=>rw[Ca,Ca,k (Bi.mp c).2]|swap p q l=>rw[Ca,Ca,Ca,Ca];have j:q.1≠p.1:=λe=>(Bi.mp c).1<|B9.mpr ⟨p,AT,e.symm⟩;by_cases a:n=q.1;rw[A5 a,A5 a,A1 λh=>j<|a▸h];rw[A1 a,A1 a]|trans a _ g d=>exact(g c).trans<|d<|(a.map _).nodup_iff.mp c
def PL{i:Type}(n:Int){A:List (Int×i)}(h:(A.map (·.1)).Nodup):AX n (C8 (·.1) A)=AX n A:=(dS n (Ml A).symm h).symm
def Asc{i:Type}(A:List<|Int×i):Prop:=A.Pairwise λa b=>a.1<b.1
def dT{i:Type}{x:Int×i}{A:List (Int×i)}:Asc A->x.1∉A.map (·.1)->Asc (Df (·.1) x A):=by induction A with|nil=>exact λ_ _=>List.pairwise_singleton _ _|cons p r k=>intro h j;have d:=DU.mp h;have g:x.1≠p.1:=λe=>j<|e▸AT;rw[Mk];by_cases e:x.1<=p.1;rw[A5 e];have a:=Int.lt_iff_le_and_ne.mpr ⟨e,g⟩;exact DU.mpr ⟨λq c=>(An.mp c).elim (λe=>e▸a) λm=>Int.lt_trans a<|d.1 q m,h⟩;rw[A1 e];exact DU.mpr ⟨λq c=>(An.mp<|(UD x r).mem_iff.mp c).elim (λl=>l▸Int.not_le.mp e)<|d.1 q,k d.2 λq=>j<|Ah _ q⟩
def Mn{i:Type}{A:List (Int×i)}:(A.map (·.1)).Nodup->Asc (C8 (·.1) A):=by induction A with|nil=>exact λ_=>List.Pairwise.nil|cons p r a=>exact λh=>dT (a (Bi.mp h).2) λc=>(Bi.mp h).1<|((Ml r).map _).mem_iff.mp c
def PN{i:Type}{A:List (Int×i)}{p:Int×i}(h:Asc<|p::A){n:Int}(c:n<=p.1):AX n A=.none:=DY.mpr λd=>by obtain⟨q,a,e⟩:=B9.mp d;exact absurd (Int.lt_of_lt_of_le ((DU.mp h).1 q a)<|e.symm▸c)<|Int.lt_irrefl _
def Mo{i:Type}(p:Int×i)(A:List<|Int×i):AX p.1 (p::A)=some p.2:=A5 rfl
def UE{i:Type}{A B:List (Int×i)}{p q:Int×i}(c:Asc<|q::B)(h:AX p.1 (p::A)=AX p.1 (q::B)):¬p.1<q.1:=λa=>by rw[Mo,Ca,A1<|Int.ne_of_lt a,PN c<|Int.le_of_lt a] at h;exact FO h
def UF{i:Type}{A:List (Int×i)}:∀{B:List (Int×i)},Asc A->Asc B->(∀n,AX n A=AX n B)->A=B:=by
 induction A with
 |nil=>intro B _ _ h;cases B with|nil=>rfl|cons q B=>cases (h q.1).trans (Mo q B)
 |cons p A j=>intro B g d h;cases B with|nil=>cases (h p.1).symm.trans (Mo p A)|cons q B=>have a:p.1=q.1:=Int.le_antisymm (Int.not_lt.mp<|UE g (h q.1).symm)<|Int.not_lt.mp<|UE d<|h p.1;have e:=h p.1;rw[Mo,Ca,A5 a] at e;have k:p=q:=Prod.ext a<|Option.some.inj e;subst k;refine A3 _<|j (DU.mp g).2 (DU.mp d).2 λn=>?_;have e:=h n;rw[Ca,Ca] at e;by_cases c:n=p.1;rw[PN g<|Int.le_of_eq c,PN d<|Int.le_of_eq c];rw[A1 c,A1 c] at e;exact e
def GH{c:List Int}{f:Int->Option i}{p:Int×i}:p∈DP c f↔p.1∈c/\f p.1=some p.2:=by
 unfold DP;rw[List.mem_filterMap];constructor;rintro⟨n,a,e⟩;cases hf:f n with|none=>rw[hf] at e;exact Ae e|some y=>rw[hf] at e;obtain rfl:=Option.some.inj e;exact⟨a,hf⟩
 rintro⟨a,e⟩;exact⟨p.1,a,by rw[e];rfl⟩
def JZ(n:Int)(a:List Int)(f:Int->Option i):DP (n::a) f=BK (f n) (λy=>(n,y)::DP a f) (DP a f):=by unfold DP;rw[List.filterMap_cons];cases f n with|none=>rfl|some y=>rfl
def dU{f:Int->Option i}{a:List Int}:a.Pairwise (· < ·)->Asc (DP a f):=by induction a with|nil=>exact λ_=>List.Pairwise.nil|cons n a c=>intro h;have h:=DU.mp h;rw[JZ];cases hf:f n with|none=>exact c h.2|some y=>exact DU.mpr ⟨λq d=>h.1 _ (GH.mp d).1,c h.2⟩
def dW{f:Int->Option i}(m:Int){a:List Int}:AX m (DP a f)=if m∈a then f m else .none:=by induction a with|nil=>exact(A1 Ax).symm|cons n a d=>
 rw[JZ];by_cases c:m=n;subst c;rw[A5 AT];cases hf:f m with|none=>exact d.trans (hf▸ite_self _)|some y=>exact A5 rfl
 have e:(if m∈n::a then f m else .none)=if m∈a then f m else .none:=by by_cases q:m∈a;rw[A5 q,A5<|Ah _ q];rw[A1 q,A1 λx=>(An.mp x).elim c q]
 rw[e,<-d];cases f n with|none=>rfl|some y=>exact A1 c
def dX:B7.Pairwise (· < ·):=by decide
def FU:Asc<|AH f:=dU dX
def Mp(h:C1 f)(n:Int):AX n (AH f)=f n:=by unfold AH;rw[dW];by_cases a:n∈B7;exact A5 a;rw[A1 a];cases hf:f n with|none=>rfl|some y=>exact absurd (h n y hf) a
def Cf{i:Type}{A:List (Int×i)}(h:Asc A):(A.map (·.1)).Nodup:=List.pairwise_map.mpr<|h.imp Int.ne_of_lt
def Dic.of(h:C1 f):Dic (AH f) f:=⟨Cf FU,Mp h⟩
def Dic.srt(h:Dic A f)(s:C1 f):C8 (·.1) A=AH f:=UF (Mn h.nod) FU λn=>by rw[PL n h.nod,h.look,Mp s]
def PO{i:Type}(A:List<|Int×i):(C8 (·.1) A).length=A.length:=(Ml A).length_eq
def Go:(AH f).length<=36:=List.length_filterMap_le _ _
def Dic.len(h:Dic A f)(s:C1 f):A.length<=36:=by rw[<-PO A,h.srt s];exact Go
def dY{i c:Type}{k:i->Int}{d:c->Int}{h:i->c}(e:∀a,d (h a)=k a)(x:i)(A:List i):Df d (h x) (A.map h)=(Df k x A).map h:=by induction A with|nil=>rfl|cons p r g=>rw[List.map_cons,Mk,Mk,e,e];by_cases q:k x<=k p;rw[A5 q,A5 q];rfl;rw[A1 q,A1 q,g];rfl
def PP{i c:Type}{k:i->Int}{k':c->Int}{h:i->c}(e:∀a,k' (h a)=k a)(A:List i):C8 k' (A.map h)=(C8 k A).map h:=by induction A with|nil=>rfl|cons p r d=>exact(A3 (Df k'<|h p) d).trans<|dY e p _
def dZ{l:List Int}:l.Nodup->KM l=true:=by induction l with|nil=>exact λ_=>rfl|cons x r a=>exact λh=>CN.mpr ⟨by rw[Bool.not_eq_true',Bool.eq_false_iff];exact λq=>(Bi.mp h).1<|Dp.mp q,a (Bi.mp h).2⟩
def UG{c:Bool}{h:Int×i->D}(e:∀a,(J2<|h a).2=a.1)(g:∀a,HN c (h a)=true){A:List (Int×i)}(j:(A.map (·.1)).Nodup)(k:A.length<64):EL (A.map h)=some ((C8 (·.1) A).map h):=by
 have m:(A.map h).map (λd=>(J2 d).2)=A.map (·.1):=by rw[Am];exact List.map_congr_left λa _=>e a
 have l:J3 (A.map h) c=true:=by unfold J3;rw[List.all_map,m,dZ j,Bool.and_true];exact List.all_eq_true.mpr λp _=>g p
 unfold EL;refine(A5 ?_).trans<|A3 some<|PP (k':=λd=>(J2 d).2) (h:=h) e A;unfold GV;rw[A4,Ac k];cases c<;>rw[l];rw[Bool.or_true,Bool.true_or];rfl;rw[Bool.or_true];rfl
def de{A:PM}(h:(A.map (·.1)).Nodup)(a:A.length<64):EL (A.map BT)=some ((C8 (·.1) A).map BT):=UG (c:=false) (λ_=>rfl) (λ_=>rfl) h a
def Dic.sorted{A:PM}{f:DO}(h:Dic A f)(s:C1 f):EL (A.map BT)=some ((AH f).map BT):=by rw[de h.nod<|AO (h.len s)<|nL rfl,h.srt s]
def UH(A:PM):IA false (A.map λp=>V.d<|BT p)=some (A.map B5):=by induction A with|nil=>rfl|cons p r c=>exact bnd (a:=BT p) rfl<|bnd (a:=((false,p.1),p.2)) rfl<|Bk rfl<|Aa c rfl
def Mq(A:PM):E5 (A.map λp=>V.d<|BT p)=false:=by cases A with|nil=>rfl|cons p r=>rfl
def UI{a:Type}(g:a->V)(B:List<|Int×a):∀(A:List<|Int×a),((B.map<|vm g).foldl (λc p=>BX p.1 p.2 c)<|A.map<|vm g)=(B.foldl (λc p=>BX p.1 p.2 c) A).map (vm g):=by induction B with|nil=>exact λA=>rfl|cons p r d=>intro A;rw[List.map_cons,List.foldl_cons,List.foldl_cons];exact(A3 (List.foldl _ · (r.map<|vm g))<|PK g p.1 p.2 A).trans<|d _
def UJ{k:Int}{y:i}{A:List (Int×i)}:k∉A.map (·.1)->BX k y A=A++[(k,y)]:=by induction A with|nil=>exact λ_=>rfl|cons p r a=>exact λh=>(A1 λe:k=p.1=>h<|e▸AT).trans<|A3 (p::·)<|a λq=>h<|Ah _ q
def UK{B:List (Int×i)}:∀{A:List (Int×i)},((A++B).map (·.1)).Nodup->B.foldl (λe p=>BX p.1 p.2 e) A=A++B:=by induction B with|nil=>exact λ{A} _=>(BJ A).symm|cons p r a=>
 intro A h;have d:p.1∉A.map (·.1):=by rw[AF] at h;exact λc=>(List.nodup_append.mp h).2.2 _ c _ AT rfl
 rw[List.foldl_cons,UJ d,a<|by rwa [AD],AD];rfl
def Ja{g:i->V}{A:List (Int×i)}(h:(A.map (·.1)).Nodup):DC (A.map<|vm g)=A.map (vm g):=(UI g A []).trans<|A3 (List.map<|vm g)<|UK (A:=[]) h
def dg{A:PM}(h:(A.map (·.1)).Nodup):DC (A.map B5)=A.map B5:=Ja (g:=V.d) h
end
noncomputable def AQ(p:Int×Str):D:=.tup [.key p.1,.str p.2]
def dh{p q r:Prop}[Decidable p][Decidable q][Decidable r](h:r↔p/\q):cond (decide p) (some<|decide q) (some false)=some (decide r):=by by_cases a:p;rw[Ac a];exact A3 some<|decide_eq_decide.mpr ⟨λd=>h.mpr ⟨a,d⟩,λc=>(h.mp c).2⟩;rw[decide_eq_false a,decide_eq_false λc=>a (h.mp c).1];rfl
def Jb{a b:D}{as bs:List D}{p q r:Prop}[Decidable p][Decidable q][Decidable r](d:DV a b=some (decide p))(c:FK as bs=some (decide q))(h:r↔p/\q):FK (a::as) (b::bs)=some (decide r):=bnd d<|c▸dh h
def PQ{a b:D}{p r:Prop}[Decidable p][Decidable r](c:DV a b=some (decide p))(h:r↔p):FK [a] [b]=some (decide r):=Jb (q:=True) c rfl<|h.trans<|and_true _▸Iff.rfl
def PR{c:Type}[DecidableEq c](g:c->D)(e:∀a b,DV (g a) (g b)=some (decide (a=b)))(l:List c):∀m:List c,FK (l.map g) (m.map g)=some (decide (l=m)):=by
 induction l with
 |nil=>intro m;cases m with|nil=>rfl|cons _ _=>rfl
 |cons p l d=>intro m;cases m with|nil=>rfl|cons q m=>exact Jb (e p q) (d m) List.cons_eq_cons
def PT{l m:List D}{r:Option Bool}(h:FK l m=r):DV (.lst l) (.lst m)=r:=h
def PU{l m:List D}{r:Option Bool}(h:FK l m=r):DV (.tup l) (.tup m)=r:=h
def di{a b:D}{l m:List D}(h:DV a b=some false):FK (a::l) (b::m)=some false:=bnd h rfl
def dj(p q:Int×Str):DV (AQ p) (AQ q)=some (decide (p=q)):=Jb (a:=.key p.1) (b:=.key q.1) (as:=[.str p.2]) (bs:=[.str q.2]) (p:=p.1=q.1) (q:=p.2=q.2) rfl (PQ (p:=p.2=q.2) rfl Iff.rfl) Prod.ext_iff
def UL(a:Str):DV (.str a) (.str a)=some (decide True):=A3 some<|Ac rfl
def UM:¬Str.ofString "leaf" = Str.ofString "inner":=by decide +kernel
open Classical in
def UN{a b:Str}{l m:List D}(h:¬a=b):DV (.tup<|.str a::l) (.tup<|.str b::m)=some (decide (D.tup (.str a::l)=.tup (.str b::m))):=(PU<|di (a:=.str a) (b:=.str b)<|A3 some<|decide_eq_false h).trans<|A3 some (decide_eq_false λe=>h<|D.str.inj (List.cons.inj<|D.tup.inj e).1).symm
def UO{a:Str}{l m:List D}{p:Prop}(h:l=m↔p):D.tup (.str a::l)=.tup (.str a::m)↔True/\p:=⟨λe=>⟨trivial,h.mp (List.cons.inj<|D.tup.inj e).2⟩,λe=>A3 (λl=>D.tup<|.str a::l)<|h.mpr e.2⟩
def PV{c:Type}{g:c->D}(d:∀a b,g a=g b->a=b){l m:List c}:D.lst (l.map g)=.lst (m.map g)↔l=m:=⟨λe=>(List.map_inj_right d).mp<|D.lst.inj e,λe=>A3 (λl=>D.lst<|l.map g) e⟩
def UP{a b:D}{p:Prop}(h:a=b↔p):[a]=[b]↔p:=⟨λe=>h.mp (List.cons.inj e).1,λe=>A3 (λa=>[a])<|h.mpr e⟩
def dl{a b:D}{l m:List D}{p q:Prop}(h:a=b↔p)(c:l=m↔q):a::l=b::m↔p/\q:=⟨λe=>⟨h.mp (List.cons.inj e).1,c.mp (List.cons.inj e).2⟩,λe=>congr (A3 List.cons<|h.mpr e.1)<|c.mpr e.2⟩
open Classical in
def UQ{x y:D}(j:Pg x)(i:Pg y):DV x y=some (decide (x=y)):=by
 cases j with
 |leaf l=>cases i with|leaf m=>exact PU (Jb (UL _) (PQ (PT<|PR AQ dj l m) Iff.rfl)<|UO<|UP<|PV λa b h=>Prod.ext (D.key.inj (List.cons.inj<|D.tup.inj h).1)<|D.str.inj (List.cons.inj (List.cons.inj<|D.tup.inj h).2).1)|inner f g=>exact UN UM
 |inner f g=>cases i with|leaf m=>exact UN λe=>UM e.symm|inner c d=>exact PU<|Jb (UL _) (Jb (r:=f=c/\g=d) (PT<|PR .key (λa b=>rfl) f c) (PQ (PT<|PR .int (λa b=>rfl) g d) Iff.rfl) Iff.rfl)<|UO<|dl (PV λa b h=>D.key.inj h)<|UP<|PV λa b h=>D.int.inj h
def UR{P:D->Prop}{l:List D}(f:∀d,P d->DV d d=some true):(∀d∈l,P d)->FK l l=some true:=by induction l with|nil=>exact λ_=>rfl|cons d l a=>exact λh=>bnd (f d<|h d AT)<|a λe c=>h e<|Ah _ c
def US{n:Nat}{l:List D}:Du l n=true->∀d∈l,Bj d n=true:=by induction l with|nil=>exact λ_ _ h=>absurd h Ax|cons a l c=>exact λh d f=>(An.mp f).elim (λe=>e▸(CN.mp h).1)<|c (CN.mp h).2 d
def dn(x:D)(n:Nat):Bj x n=true->DV x x=some true:=by
 induction n generalizing x with
 |zero=>intro h;cases x with|none=>rfl|bool _=>exact Bool.noConfusion h|int _=>exact A3 some (Ac rfl)|key _=>exact A3 some (Ac rfl)|str _=>exact A3 some (Ac rfl)|tup _=>exact Bool.noConfusion h|lst _=>exact Bool.noConfusion h
 |succ n a=>intro h;cases x with|none=>rfl|bool _=>exact Bool.noConfusion h|int _=>exact A3 some (Ac rfl)|key _=>exact A3 some (Ac rfl)|str _=>exact A3 some (Ac rfl)|tup l=>exact UR a (US (l:=l) h)|lst l=>exact UR a<|US (l:=l) h
def Jc{c:Type}{g:c->D}{n:Nat}{l:List c}:(∀a∈l,Bj (g a) n=true)->Du (l.map g) n=true:=by induction l with|nil=>exact λ_=>rfl|cons a l d=>exact λh=>CN.mpr ⟨h a AT,d λb e=>h b<|Ah _ e⟩
def Mr{c:Type}{g:c->D}{n:Nat}{l:List c}(h:∀a∈l,Bj (g a) n=true):Bj (.lst<|l.map g) (n+1)=true:=Jc h
def He{x:D}(h:Pg x)(n:Nat):Bj x (n+3)=true:=by cases h with|leaf l=>show(true&&(Du _ (n+1)&&true))=true;rw[Jc λa _=>rfl];rfl|inner c d=>show(true&&(Du _ (n+1)&&(Du _ (n+1)&&true)))=true;rw[Jc λa _=>rfl,Jc λa _=>rfl];rfl
def UT{t:PF}(g:Bl t)(n:Nat):Bj (BD t) (n+6)=true:=by show(Du ((AH t.f).map BT) (n+4)&&(true&&true))=true;rw[Jc λp a=>?_];rfl;show(true&&(Bj p.2 (n+3)&&true))=true;rw[He<|g.pg p.1 p.2 (GH.mp a).2];rfl
inductive Rec where
 |wr (n:Int) (p:D)|fr (n:Int)|cm (r:Int)
noncomputable def Ap:Rec->D|.wr n p=>.tup [.str "write",.int n,p]|.fr n=>.tup [.str "free",.int n]|.cm r=>.tup [.str "commit",.int r]
noncomputable def Eh:Rec->Prop|.wr n p=>Ok1 n p|_=>True
def dp{x:Rec}(h:Eh x)(n:Nat):Bj (Ap x) (n+4)=true:=by cases x with|wr k p=>show(true&&(true&&(Bj p (n+3)&&true)))=true;rw[He h.pg];rfl|_=>rfl
noncomputable def BZ(l:List Rec):D:=.lst<|l.map Ap
def PX{l:List Rec}(h:∀x∈l,Eh x)(n:Nat):Bj (BZ l) (n+5)=true:=Mr λx a=>dp (h x a) n
open Classical in
noncomputable def d1(f g:DO)(n:Int):List Rec:=match f n,g n with|.none,.none=>[]|some _,.none=>[.fr n]|.none,some y=>[.wr n y]|some x,some y=>if x=y then [] else [.wr n y]
noncomputable def Cw(f g:DO):List Rec:=B7.flatMap<|d1 f g
def PY(f g:DO)(n:Int):(d1 f g n).length<=1:=by unfold d1;split;exact Bm _;exact Au _;exact Au _;split;exact Bm _;exact Au _
theorem UU{f g:DO}:∀a:List Int,(a.flatMap<|d1 f g).length<=a.length|[]=>Au _|n::a=>by have:=UU (f:=f) (g:=g) a;rw[List.flatMap_cons,A9,C7];exact Nat.add_le_add this<|PY f g n
def PZ(f g:DO):(Cw f g).length<=36:=UU B7
def dq{a b:PF}(g:Bl b):∀x∈Cw a.f b.f,Eh x:=by intro x d;obtain⟨n,i,h⟩:=List.mem_flatMap.mp d;unfold d1 at h;split at h;exact absurd h Ax;rw[Ao.mp h];trivial;rename_i y _ c;rw[Ao.mp h];exact g n y c;rename_i e y _ c;split at h;exact absurd h Ax;rw[Ao.mp h];exact g n y c
theorem union_fold:∀(l c:List Int),c.Nodup->(l.foldl (λl x=>if l.contains x then l else l++[x]) c).Nodup/\∀x,x∈l.foldl (λl x=>if l.contains x then l else l++[x]) c↔x∈c\/x∈l|[],c,h=>⟨h,λx=>by simp⟩|y::r,c,h=>by simp only [List.foldl_cons];by_cases d:c.contains y=true;rw[A5 d];obtain⟨g,f⟩:=union_fold r c h;refine⟨g,λx=>?_⟩;rw[f x,An];have:=Dp.mp d;exact⟨λq=>q.imp_right .inr,λq=>q.elim .inl λq=>q.elim (λe=>.inl<|e▸this) .inr⟩;rw[A1 d];have i:y∉c:=λq=>d<|Dp.mpr q;obtain⟨g,f⟩:=union_fold r (c++[y]) (List.nodup_append.mpr ⟨h,Bi.mpr ⟨Ax,List.nodup_nil⟩,λa k b j e=>i<|by rw[Ao.mp j] at e;exact e▸k⟩);refine⟨g,λx=>?_⟩;rw[f x,BE,Ao,An,or_assoc]
theorem UV{p:Int->Bool}:∀a:List Int,(DP a λn=>cond (p n) (some D.none) .none).map (·.1)=a.filter p|[]=>rfl|n::a=>by have c:=UV (p:=p) a;unfold DP at c ⊢;rw[List.filterMap_cons,List.filter_cons];cases hp:p n with|true=>simp only [hp];exact A3 (n::·) c|false=>simp only [hp];exact c
def Pa{l:List Int}(h:l.Nodup)(s:∀n∈l,n∈B7):EL (l.map .int)=some ((B7.filter λn=>l.contains n).map .int):=by
 let f:DO:=λn=>cond (l.contains n) (some D.none) .none;have q:∀(m:List Int)(n:Int),AX n (m.map λn=>(n,D.none))=cond (m.contains n) (some D.none) .none:=by intro m n;induction m with|nil=>rfl|cons y r p=>show(if n=y then some D.none else AX n (r.map λn=>(n,D.none)))=_;rw[p,List.contains_cons];by_cases e:n=y;subst e;rw[A5 rfl,beq_self_eq_true,Bool.true_or];rfl;rw[A1 e,beq_eq_false_iff_ne.mpr e,Bool.false_or]
 have g:Dic (l.map λn=>(n,D.none)) f:=⟨by rw[Am];exact(List.map_id l).symm▸h,λn=>q l n⟩;have d:C1 f:=λn y e=>by have e:cond (l.contains n) (some D.none) .none=some y:=e;cases hc:l.contains n with|true=>exact s n (Dp.mp hc)|false=>rw[hc] at e;exact Ae e
 have c:=g.len d;rw[A4] at c;unfold EL;refine(A5 ?_).trans<|A3 some ?_;unfold GV;rw[A4,Ac<|AO c<|nL rfl,show(l.map D.int).all KL=true from by rw[List.all_map];exact List.all_eq_true.mpr λ_ _=>rfl];rfl;rw[PP (k:=λi:Int=>i) λa=>rfl];refine A3 _ ?_;have o:=g.srt d;rw[PP (k:=λi:Int=>i) λa=>rfl] at o;have j:=A3 (List.map (·.1)) o;rw[Am,show(AH f).map (·.1)=B7.filter λn=>l.contains n from UV B7] at j;exact(List.map_id _).symm.trans j
section
variable{f g:DO}
def L4(s:C1 f){n:Int}:n∈((AH f).map B5).map (·.1)↔(f n).isSome=true:=by rw[Am];constructor;intro h;obtain⟨p,c,e⟩:=B9.mp h;subst e;show(f p.1).isSome=true;rw[(GH.mp c).2];rfl;intro h;obtain⟨y,a⟩:=Option.isSome_iff_exists.mp h;exact B9.mpr ⟨(n,y),GH.mpr ⟨s n y a,a⟩,rfl⟩
def du{f:DO}(h:∀n y,f n=some y->n<20):(AH f).length<=20:=by
 have:∀a:List Int,(DP a f).length<=(a.filter λn=>decide (n<20)).length:=λa=>by induction a with|nil=>exact Au _|cons n a c=>unfold DP at c ⊢;rw[List.filterMap_cons,List.filter_cons];cases e:f n with|none=>by_cases d:n<20;rw[Ac d];exact Nat.le_succ_of_le c;rw[decide_eq_false d];exact c|some y=>rw[Ac<|h n y e];exact CV c
 exact AB (this B7)<|by decide
def union_ok(e:C1 f)(c:C1 g)(o:∀n y,f n=some y->n<20)(m:∀n y,g n=some y->n<20){j:St}:M4 (false,(AH f).map B5) (false,(AH g).map B5) j=some (.fresh<|((B7.filter λn=>(f n).isSome||(g n).isSome).map .int).map .d,j):=by
 have k:∀{h:DO},(∀n y,h n=some y->n<20)->Ka (false,(AH h).map B5)=true:=λ{h} s=>by
  have i:∀n∈B7,(decide (0<=n)&&decide (n<64))=true:=by decide
  unfold Ka;rw[A4,Ac<|du s,List.all_map];simp only [Bool.not_false,Bool.true_and];exact List.all_eq_true.mpr λp r=>i _ (GH.mp r).1
 obtain⟨u,l⟩:=union_fold (((AH f).map B5).map (·.1)++((AH g).map B5).map (·.1)) [] List.nodup_nil;have i:∀n∈IC (((AH f).map B5).map (·.1)) (((AH g).map B5).map (·.1)),n∈B7:=λn t=>by cases BE.mp (((l n).mp t).resolve_left Ax) with|inl h=>obtain⟨y,a⟩:=Option.isSome_iff_exists.mp<|(L4 e).mp h;exact e n y a|inr h=>obtain⟨y,a⟩:=Option.isSome_iff_exists.mp<|(L4 c).mp h;exact c n y a
 unfold M4;rw[k o,k m];refine(A5 rfl).trans<|Aa (Pa u i) ?_;have:(B7.filter λn=>(IC (((AH f).map B5).map (·.1))<|((AH g).map B5).map (·.1)).contains n)=B7.filter λn=>(f n).isSome||(g n).isSome:=List.filter_congr λn _=>by rw[Bool.eq_iff_iff,Dp,Bool.or_eq_true,<-L4 e,<-L4 c,<-BE];exact(l n).trans ⟨λq=>q.resolve_left Ax,.inr⟩
 rw[this]
theorem Pb{p:Int->Bool}{h:Int->List Rec}(e:∀n,p n=false->h n=[]):∀a:List Int,(a.filter p).flatMap h=a.flatMap h|[]=>rfl|n::a=>by rw[List.filter_cons,List.flatMap_cons];cases hp:p n with|true=>rw[A5 rfl,List.flatMap_cons,Pb e a]|false=>rw[A1 Cb,e n hp,Pb e a];rfl
def UW:(B7.filter λn=>(f n).isSome||(g n).isSome).flatMap (d1 f g)=Cw f g:=Pb (λn h=>by unfold d1;cases hf:f n<;>cases hg:g n<;>simp [hf,hg] at h ⊢) B7
end
section
variable{G:Gl}{k:Fn}{K:Nat}{o j a:St}{w:List (Str×V)}{σ u:List Cell}{e:Expr}{p q H E C B z I:Pos}{r t s:R}{A:PM}{f g:DO}
def IU(v:∀n,Es G (AY G<|n+K) k "dict" [e] o=M3 (AY G<|n+K) k e o)(h:Ev G k K e o (.val<|.d<|.lst<|A.map BT) ⟨w,σ⟩)(i:(A.map (·.1)).Nodup):Ev G k (K+1) (.Call (.Name "dict" q) [e] [] p) o (.val<|.loc σ.length) ⟨w,σ++[.dct false<|A.map B5]⟩:=by have m:(A.map BT).map V.d=A.map λp=>V.d<|BT p:=Am;have c:=Ks v h (l:=A.map λp=>V.d<|BT p) (prs:=A.map B5) (A3 some m) (by rw[Mq];exact UH A) (p:=p) (q:=q);rw[Mq,dg i] at c;exact c
def dv{x y:Expr}{d c:Bool×List (Int×V)}(i:∀n,Es G (AY G<|n+K) k "sorted" [.BinOp (.Call (.Name "set" H) [x] [] C) .BitOr (.Call (.Name "set" E) [y] [] B) z] o=OH (AY G<|n+K) k x y o) (m:Ev G k K x o t j) (d1:Ep j.store t=some d) (l:Ev G k K y j s a) (v:Ep a.store s=some c) (h:M4 d c a=some (r,a)):Ev G k (K+1) (.Call (.Name "sorted" p) [.BinOp (.Call (.Name "set" H) [x] [] C) .BitOr (.Call (.Name "set" E) [y] [] B) z] [] I) o r a:=λn=>(i n).trans<|bnd (m n)<|bnd d1<|bnd (l n)<|bnd v h
def dw{l:List V}{m:Nat}{x:V}(h:l.length<lim):J6 σ m l "append" [x]=some (.val<|.d .none,σ.set m<|.lst<|l++[x]):=Ef (c:=_=_) rfl<|Ef h rfl
def Hf{i:Nat}{m l:List V}{v:V}{d:List (Str×V)}{L h:Pos}{c:List Cell}(y:true=Dh e L h 1){J:Expr}(N:Ev G k K e o (.val<|.loc i) ⟨w,c⟩)(hs:c[i]?=some (.lst m))(O:Kp G k K k.hm J ⟨w,c⟩ v ⟨d,σ⟩)(x:σ[i]?=some (.lst l))(M:l.length<lim)(n:σ.set i (.lst<|l++[v])=u):X1 G k (K+1) (.Expr (.Call (.Attribute e "append" L) [J] [] h) p) o .next ⟨d,u⟩:=Gm rfl<|Kt y N hs (CD O CC) x<|n▸dw M
end
def L5:PyData.strOk "write" = true:=by decide +kernel
def Ms:PyData.strOk "free" = true:=by decide +kernel
def DZ:PyData.strOk "commit" = true:=by decide +kernel
section
variable{e:List Cell}{m:Nat}{d:List (Int×V)}{k:Int}{w:V}{b:Bool}
def Gp{i:Int}:Ea b d (b,i)=true:=by cases b<;>simp [Ea]
def Hg{c:Bool}(h:e[m]?=some (.dct false d))(f:(AX k d).isSome=c):G9 e (.val<|.d<|.int k) (.val<|.loc m)=some c:=Br (a:=(false,d)) (bnd (a:=m) rfl<|by rw[h];rfl)<|bnd (a:=(false,k)) rfl<|Bk Gp<|A3 some f
def Jd(h:e[m]?=some (.dct false d))(c:AX k d=some w):Ce e (.val<|.loc m) (.val<|.d<|.int k)=some w:=Br (a:=(false,d)) (bnd (a:=m) rfl<|by rw[h];rfl)<|bnd (a:=(false,k)) rfl<|Bk Gp c
def FV{x y:D}{c b:Bool}(h:GU x y=some c)(f:(!c)=b):E4 .NotEq e (.val<|.d x) (.val<|.d y)=some b:=bnd (a:=x) rfl<|bnd (a:=y) rfl<|Aa h f
def Hh{x y:D}{c:Bool}(h:GU x y=some c):E4 .Eq e (.val<|.d x) (.val<|.d y)=some c:=bnd (a:=x) rfl<|bnd (a:=y) rfl h
def Hi{x y:D}{c:Bool}(f:Bj x 30=true)(a:Bj y 30=true)(h:DV x y=some c):GU x y=some c:=Bk (by rw[f,a];rfl) h
def Je{x:D}(a:Bj x 30=true):GU x x=some true:=Hi a a<|dn x 30 a
def Gq{a b:Str}{c:Bool}(h:decide (a=b)=c):GU (.str a) (.str b)=some c:=Hi rfl rfl<|by rw[<-h];rfl
end
section
variable{a b:PF}{o:List Rec}{k:Int}{c:List (Str×V)}
noncomputable def DQ(A B:PM)(o:List Rec):List Cell:=[.dct false<|A.map B5,.dct false<|B.map B5,.lst<|o.map λr=>V.d<|Ap r]
noncomputable def Pc:List<|Str×V:=[("a",.loc 0),("b",.loc 1),("out",.loc 2)]
noncomputable def chk(k:Int):List<|Str×V:=[("a",.loc 0),("b",.loc 1),("out",.loc 2),("n",.d<|.int k)]
def Gu(g:Bl a):AX k ((AH a.f).map B5)=(a.f k).map V.d:=by rw[dP,Mp g.dm]
def Mt(h:o.length<900):(o.map λr=>V.d<|Ap r).length<lim:=by rw[A4];exact AM h<|nL rfl
def UX(A B:PM)(x:Rec):(DQ A B o).set 2 (.lst<|(o.map λr=>V.d<|Ap r)++[.d<|Ap x])=DQ A B (o++[x]):=by unfold DQ;rw[AF];rfl
open Classical in
def dy(r:Bl a)(m:Bl b)(h:AA c<|chk k)(z:o.length<900)(t:((a.f k).isSome||(b.f k).isSome)=true):Ex gl Ed 20 (CA<|Bd Ed 2) ⟨c,DQ (AH a.f) (AH b.f) o⟩ .next ⟨c,DQ (AH a.f) (AH b.f)<|o++d1 a.f b.f k⟩:=by
 have i:∀{K:Nat}{p:Pos},Ev gl Ed (K+1) (.Name "n" p) ⟨c,DQ (AH a.f) (AH b.f) o⟩ (.val<|.d<|.int k) ⟨c,DQ (AH a.f) (AH b.f) o⟩:=pn h rfl rfl;have l:∀{K:Nat}{p:Pos},Ev gl Ed (K+1) (.Name "a" p) ⟨c,DQ (AH a.f) (AH b.f) o⟩ (.val<|.loc 0) ⟨c,DQ (AH a.f) (AH b.f) o⟩:=pn h rfl rfl;have j:∀{K:Nat}{p:Pos},Ev gl Ed (K+1) (.Name "b" p) ⟨c,DQ (AH a.f) (AH b.f) o⟩ (.val<|.loc 1) ⟨c,DQ (AH a.f) (AH b.f) o⟩:=pn h rfl rfl;have w:∀{K:Nat}{p:Pos},Ev gl Ed (K+1) (.Name "out" p) ⟨c,DQ (AH a.f) (AH b.f) o⟩ (.val<|.loc 2) ⟨c,DQ (AH a.f) (AH b.f) o⟩:=pn h rfl rfl;have u:∀{y:D},b.f k=some y->Ex gl Ed 18 (CA<|at' (DN<|at' (CA<|Bd Ed 2) 0) 0) ⟨c,DQ (AH a.f) (AH b.f) o⟩ .next ⟨c,DQ (AH a.f) (AH b.f)<|o++[.wr k y]⟩:=λ{y} g=>xO (Hf rfl w rfl (AK<|BU (vs:=[.d<|.str "write",.d<|.int k,.d y]) (sK (CZ L5)<|sK i<|sZ<|BI rfl j i<|Jd rfl<|by rw[Gu m,g];rfl) rfl<|by decide) rfl (Mt z)<|UX _ _<|.wr k y);have v:∀{y:Option D},b.f k=y->(AX k<|(AH b.f).map B5).isSome=(y.map V.d).isSome:=λ{y} e=>by rw[Gu m,e]
 have s:∀{y:Option D},a.f k=y->(AX k<|(AH a.f).map B5).isSome=(y.map V.d).isSome:=λ{y} e=>by rw[Gu r,e]
 cases g:b.f k with
 |none=>
  rw[g] at t;cases hx:a.f k with
  |none=>rw[hx] at t;exact nomatch t
  |some x=>rw[show d1 a.f b.f k=[.fr k] from by unfold d1;rw[hx,g]];exact xO<|B4 (JY i j (Hg rfl<|v g) rfl)<|xO<|Hf rfl w rfl (AK<|BU (vs:=[.d<|.str "free",.d<|.int k]) (sK (CZ Ms)<|sZ i) rfl<|by decide) rfl (Mt z)<|UX _ _<|.fr k
 |some y=>refine xO<|Av (JY i j (Hg rfl<|v g) rfl) ?_;cases hx:a.f k with|none=>rw[show d1 a.f b.f k=[.wr k y] from by unfold d1;rw[hx,g]];exact xO (B4 (IT<|U8<|JY i l (Hg rfl<|s hx) rfl)<|u g)|some x=>have q:=Hi (He (r.pg k x hx) 27) (He (m.pg k y g) 27)<|UQ (r.pg k x hx)<|m.pg k y g;have B:Ce (DQ (AH a.f) (AH b.f) o) (.val<|.loc 0) (.val<|.d<|.int k)=some (.d x):=Jd rfl (by rw[Gu r,hx];rfl);have A:Ce (DQ (AH a.f) (AH b.f) o) (.val<|.loc 1) (.val<|.d<|.int k)=some (.d y):=Jd rfl (by rw[Gu m,g];rfl);by_cases e:x=y;rw[show d1 a.f b.f k=[] from by unfold d1;rw[hx,g];exact A5 e,BJ];rw[Ac e] at q;exact xO<|Av (IT<|Kw (JY i l (Hg rfl<|s hx) rfl)<|Kx<|Af rfl (BI rfl l i B) (BI rfl j i A)<|FV q rfl) Bh;rw[show d1 a.f b.f k=[.wr k y] from by unfold d1;rw[hx,g];exact A1 e];rw[decide_eq_false e] at q;exact xO<|B4 (IT<|Kw (JY i l (Hg rfl<|s hx) rfl)<|Kx<|Af rfl (BI rfl l i B) (BI rfl j i A)<|FV q rfl)<|u g
def GI{x:Str}{v:V}{c:List (Str×V)}{d:List Cell}:GB (.one x) v ⟨c,d⟩=some ⟨AS x v c,d⟩:=rfl
theorem UY(s:Bl a)(q:Bl b):∀(j:List Int)(o:List Rec)(c:List<|Str×V),(∀k∈j,((a.f k).isSome||(b.f k).isSome)=true)->AA c Pc->o.length+j.length<900->∃g,Lp gl Ed 20 (.one "n") (CA<|Bd Ed 2) (j.map λi=>.d<|.int i) ⟨c,DQ (AH a.f) (AH b.f) o⟩ ⟨g,DQ (AH a.f) (AH b.f)<|o++j.flatMap (d1 a.f b.f)⟩/\AA g Pc|[],o,c,_,h,_=>⟨c,by rw[List.flatMap_nil,BJ];exact F0,h⟩|k::r,o,c,p,h,l=>by have v:=PY a.f b.f k;simp only [CK] at l;have u:AA (AS "n" (V.d<|.int k) c)<|chk k:=h.put rfl;obtain⟨g,e,t⟩:=UY s q r (o++d1 a.f b.f k) _ (λk m=>p k<|Ah _ m) (h.other rfl:AA (AS "n" (V.d<|.int k) c) Pc) (by rw[A9,Bv,C7 (d1 a.f b.f k).length];exact AO (BW (BW v _) _) l);rw[List.flatMap_cons,<-AD];exact⟨g,ED GI (dy s q u (AO (BA _ _) l)<|p k AT) e,t⟩
def Pd{e:List Cell}{m:Nat}{l:List D}(h:e[m]?=some (.lst<|l.map .d)):IH e (.val<|.loc m)=some (.val<|.d<|.lst l):=by
 have:∀(k:Nat)(l:List D),(l.map V.d).mapM (FN k e)=some l:=by intro k l;induction l with|nil=>rfl|cons x r f=>rw[List.map_cons,List.mapM_cons,f];cases k<;>rfl
 exact Aa (a:=.lst l) (bnd (a:=l.map .d) (by rw[h];rfl)<|Aa (this 7 l) rfl) rfl
def dz(j:Bl a)(h:Bl b):Cl gl Ed 30 [.d<|BD a,.d<|BD b] [] (.val<|.d<|BZ<|Cw a.f b.f) []:=by have g:AA [("old",V.d<|BD a),("new",V.d<|BD b)] [("old",V.d<|BD a),("new",V.d<|BD b)]:=.refl;obtain⟨m,e,p⟩:=UY j h (B7.filter λn=>(a.f n).isSome||(b.f n).isSome) [] [("old",V.d<|BD a),("new",V.d<|BD b),("a",.loc 0),("b",.loc 1),("out",.loc 2)] (λk q=>(List.mem_filter.mp q).2) (.cons rfl<|.cons rfl<|.cons rfl .nil)<|AO (BW (List.length_filter_le _ _) _)<|nL rfl;rw[List.nil_append,UW] at e;refine Ct rfl rfl<|Ag rfl (Cr rfl rfl (BG (AK<|IU (σ:=[]) (λn=>rfl) (iX (pn g rfl rfl) rfl)<|Cf FU)<|BG (AK<|IU (λn=>rfl) (iX (pn g rfl rfl) rfl)<|Cf FU) Cs)<|tN rfl<|tO rfl) ?_;refine Ag rfl (Ad (Cq (l:=[]) (Bt CC rfl) rfl) rfl) ?_;refine Ag (xs':=m) (σ':=DQ (AH a.f) (AH b.f)<|Cw a.f b.f) rfl (Ez (l:=⟨(B7.filter λn=>(a.f n).isSome||(b.f n).isSome).map λi=>.d<|.int i,false⟩) (Ky (λ_=>rfl) (dv (λn=>rfl) (pR rfl rfl) rfl (pR rfl rfl) rfl<|union_ok j.dm h.dm (λn y e=>(j n y e).lo) λn y e=>(h n y e).lo) ?_) rfl rfl<|Mine.U.up (nL rfl) (P:=λn=>forLoop' (AY gl n) Ed _ _ _ _=some _) e) ?_;exact A3 (λl=>some (l,_)) Am;refine CR rfl (Bo<|pn p rfl rfl)<|Pd ?_;exact A3 (λl=>some<|Cell.lst l) (Am).symm
end
noncomputable def Fs:Rec->Bool|.cm _=>true|_=>false
noncomputable def IV:Nat->Nat->List Rec->Nat|_,a,[]=>a|i,a,r::l=>IV (i+1) (cond (Fs r) (i+1) a) l
noncomputable def CJ(t:PF):Rec->PF|.wr n p=>⟨upd t.f n<|some p,t.r⟩|.fr n=>⟨upd t.f n .none,t.r⟩|.cm k=>⟨t.f,k⟩
noncomputable def Cy(l:List Rec):List Rec:=l.take<|IV 0 0 l
noncomputable def FW(t:PF)(a:List Rec):PF:=(Cy a).foldl CJ t
def Pe{t:PF}(g:Bl t){x:Rec}(h:Eh x):Bl<|CJ t x:=by cases x with|wr n p=>intro m y e;by_cases a:m=n;subst a;rw[show(CJ t<|.wr m p).f=upd t.f m (some p) from rfl,Aj] at e;obtain rfl:=Option.some.inj e;exact h;rw[show(CJ t<|.wr n p).f=upd t.f n (some p) from rfl,Ay a] at e;exact g m y e|fr n=>intro m y e;by_cases a:m=n;subst a;rw[show(CJ t<|.fr m).f=upd t.f m .none from rfl,Aj] at e;exact Ae e;rw[show(CJ t<|.fr n).f=upd t.f n .none from rfl,Ay a] at e;exact g m y e|cm k=>exact g
theorem UZ:∀{l:List Rec}{t:PF},Bl t->(∀x∈l,Eh x)->Bl (l.foldl CJ t)|[],t,g,_=>g|x::l,t,g,h=>UZ (l:=l) (t:=CJ t x) (Pe g<|h x AT) λy a=>h y<|Ah _ a
def e9{t:PF}{a:List Rec}(g:Bl t)(h:∀x∈a,Eh x):Bl<|FW t a:=UZ g λx c=>h x<|List.mem_of_mem_take c
def Jf{a:Type}(l:List a)(k:Nat):slc l .none (some (k:Int))=l.take k:=by simp only [slc,G7,EK,E2,Int.natCast_nonneg,if_true,Int.toNat_natCast,List.drop_zero];rcases Nat.le_total k l.length with h|h;rw[Nat.min_eq_left h];rw[Nat.min_eq_right h,List.take_length,List.take_of_length_le h]
noncomputable def IW:Rec->Str|.wr _ _=>"write"|.fr _=>"free"|.cm _=>"commit"
section
variable{t:PF}{Lg:List Rec}{d:List (Str×V)}{σ:List Cell}{x:Rec}{j:Fn}{K:Nat}
def Hj{i g f e a:Pos}{k l:Nat}{s r:Str}{c:Bool}(m:true=Cp (j.names.lookup r))(h:AJ r d=some (.d<|Ap x))(hs:PyData.strOk s=true)(n:decide (IW x=s)=c):Tt gl j (K+3) (.Compare (.Subscript (.Name r i) (.Constant (.int 0) k g) f) [.Eq] [.Constant (.str s) l e] a) ⟨d,σ⟩ c ⟨d,σ⟩:=Af rfl (iX (pn (ys:=[(r,.d<|Ap x)]) (.cons h .nil) m<|A5 rfl)<|show Ce σ (.val<|.d<|Ap x) _=some (.d<|.str<|IW x) from by cases x<;>rfl) (CZ hs)<|Hh<|Gq n
noncomputable def FX(Lg:List Rec)(r:Int)(a:Nat):List<|Str×V:=[("log",.d<|BZ Lg),("pages",.loc 0),("root",.d<|.int r),("last",.d<|.int a)]
def eB{i a:Nat}{r:Int}(h:AA d<|("i",.d<|.int i)::("r",.d<|Ap x)::FX Lg r a):∃f,Ex gl Ee 10 (CA<|Bd Ee 1) ⟨d,σ⟩ .next ⟨f,σ⟩/\AA f (FX Lg r<|cond (Fs x) (i+1) a):=by have c:AJ "r" d=some (.d<|Ap x):=h _ _ rfl;have e:AA d<|FX Lg r a:=h.trans<|.cons rfl<|.cons rfl<|.cons rfl<|.cons rfl .nil;cases x with|cm k=>exact⟨_,xO<|B4 (Hj (x:=.cm k) rfl c DZ rfl)<|xO<|Ad (AK<|Ak (pn h rfl rfl) AN rfl) rfl,e.put rfl⟩|wr k p=>exact⟨_,xO<|Av (Hj (x:=.wr k p) rfl c DZ rfl) Bh,e⟩|fr k=>exact⟨_,xO<|Av (Hj (x:=.fr k) rfl c DZ rfl) Bh,e⟩
def eC{x y:Str}{a b:V}:GB (.two x y) (.tup [a,b]) ⟨d,σ⟩=some ⟨AS y b<|AS x a d,σ⟩:=rfl
theorem Ua{r:Int}:∀(l:List Rec)(i a:Nat)(d:List<|Str×V),AA d (FX Lg r a)->∃c,Lp gl Ee 10 (.two "i" "r") (CA<|Bd Ee 1) (HS i<|l.map λr=>V.d<|Ap r) ⟨d,σ⟩ ⟨c,σ⟩/\AA c (FX Lg r<|IV i a l)|[],i,a,d,f=>⟨d,F0,f⟩|x::l,i,a,d,f=>by have m:AA (AS "r" (.d<|Ap x) (AS "i" (.d<|.int i) d))<|("i",.d<|.int i)::("r",.d<|Ap x)::FX Lg r a:=.cons (by rw[JW<|by decide,CL])<|.cons CL<|(f.other rfl).other rfl;obtain⟨c,e,k⟩:=eB (σ:=σ) m;obtain⟨g,n,h⟩:=Ua l (i+1) _ c k;exact⟨g,ED eC e n,h⟩
def eD{A:PM}{a:Nat}(h:AA d<|("r",.d<|Ap x)::FX Lg t.r a)(q:A.length<900)(g:Dic A t.f):∃o B,Ex gl Ee 14 (CA<|Bd Ee 2) ⟨d,[.dct false<|A.map B5]⟩ .next ⟨o,[.dct false<|B.map B5]⟩/\AA o (FX Lg (CJ t x).r a)/\Dic B (CJ t x).f/\B.length<=A.length+1:=by have e:AJ "r" d=some (.d<|Ap x):=h _ _ rfl;have n:AA d<|FX Lg t.r a:=h.trans<|.cons rfl<|.cons rfl<|.cons rfl<|.cons rfl .nil;cases x with|wr k p=>refine⟨d,BX k p A,xO<|B4 (Hj (x:=.wr k p) rfl e L5 rfl)<|xO<|FT (AK<|iX (pn h rfl rfl) rfl)<|Hd (m:=0) (k:=(false,k)) (pn h rfl rfl) (iX (pn h rfl rfl) rfl) rfl<|Bk (by rw[Gp,A4,Ac<|show A.length<lim from AM q<|nL rfl];rfl) ?_,n,g.set k p,?_⟩;exact A3 (λl=>some [Cell.dct false l])<|UB k p A;have:=A3 List.length<|L3 k p A;rw[A4] at this;rw[this];split;rw[A4];exact Nat.le_succ _;rw[A9,A4];exact Au _|fr k=>refine⟨d,Cd k A,xO<|Av (Hj (x:=.fr k) rfl e L5 rfl)<|xO<|B4 (Hj (x:=.fr k) rfl e Ms rfl)<|xO<|Gm (r:=.val<|(AX k<|A.map B5).getD<|.d .none) rfl<|Ku (i:=0) (vs:=[.d<|.int k,.d .none]) rfl (pn h rfl rfl) rfl (sK (iX (pn h rfl rfl) rfl)<|sZ JX) rfl ?_,n,g.del k,?_⟩;rw[<-dR];exact PC (c:=_=_) (by decide) (Ef (c:=_=_) rfl<|bnd (a:=(V.d<|.int k,V.d .none)) rfl<|bnd (a:=(false,k)) rfl<|Bk (by rw[Gp];rfl) rfl);have:=(UA k A).length_le;rw[A4,A4] at this;exact Nat.le_succ_of_le this|cm k=>exact⟨_,A,xO<|Av (Hj (x:=.cm k) rfl e L5 rfl)<|xO<|Av (Hj (x:=.cm k) rfl e Ms rfl)<|xO<|Ad (AK<|iX (pn h rfl rfl) rfl) rfl,n.put rfl,g,Nat.le_succ _⟩
theorem Ub{a:Nat}:∀(l:List Rec)(t:PF)(A:PM)(d:List<|Str×V),AA d (FX Lg t.r a)->A.length+l.length<900->Dic A t.f->∃c B,Lp gl Ee 14 (.one "r") (CA<|Bd Ee 2) (l.map λr=>V.d<|Ap r) ⟨d,[.dct false<|A.map B5]⟩ ⟨c,[.dct false<|B.map B5]⟩/\AA c (FX Lg (l.foldl CJ t).r a)/\Dic B (l.foldl CJ t).f|[],t,A,d,h,_,i=>⟨d,A,F0,h,i⟩|x::l,t,A,d,h,g,i=>by simp only [CK] at g;have s:AA (AS "r" (.d<|Ap x) d)<|("r",.d<|Ap x)::FX Lg t.r a:=.cons CL<|h.other rfl;obtain⟨c,B,e,n,q,o⟩:=eD s (AO (BA _ _) g) i;obtain⟨k,C,u,m,p⟩:=Ub l (CJ t x) B c n (AO (Ds o _)<|by rw[DB];exact g) q;exact⟨k,C,ED GI e u,m,p⟩
def Uc{log:List Rec}(g:Bl t)(o:∀x∈log,Eh x)(q:log.length<800):Cl gl Ee 30 [.d<|BD t,.d<|BZ log] [] (.val<|.d<|BD<|FW t log) []:=by have c:AA [("tree",V.d<|BD t),("log",V.d<|BZ log)] [("tree",V.d<|BD t),("log",V.d<|BZ log)]:=.refl;have p:=Go (f:=t.f);obtain⟨h,w,e⟩:=Ua (Lg:=log) (r:=t.r) (σ:=[.dct false<|(AH t.f).map B5]) log 0 0 [("tree",V.d<|BD t),("log",V.d<|BZ log),("pages",.loc 0),("root",.d<|.int t.r),("last",.d<|.int 0)]<|.cons rfl<|.cons rfl<|.cons rfl<|.cons rfl .nil;obtain⟨m,B,v,i,s⟩:=Ub (Lg:=log) (a:=IV 0 0 log) (Cy log) t (AH t.f) h e (AO (Nat.add_le_add Go<|List.length_take_le' _ _)<|Be (Nat.add_lt_add_left q 36)<|nL rfl)<|.of g.dm;have k:(log.map Ap).map V.d=log.map λr=>V.d<|Ap r:=Am;refine Ct rfl rfl<|Ag rfl (Cr rfl rfl (BG (AK<|IU (σ:=[]) (λn=>rfl) (iX (pn c rfl rfl) rfl)<|Cf FU)<|BG (AK<|iX (pn c rfl rfl) rfl)<|BG (AK AN) Cs)<|tN rfl<|tN rfl<|tO rfl) ?_;refine Ag (xs':=h) (σ':=[.dct false<|(AH t.f).map B5]) rfl (Ez (dN (λn=>rfl) (pR rfl rfl) (l:=log.map λr=>V.d<|Ap r)<|A3 (λl=>some (l,_)) k) rfl rfl<|Mine.U.up (nL rfl) (P:=λn=>forLoop' (AY gl n) Ee _ _ _ _=some _) w) ?_;refine Ag (xs':=m) (σ':=[.dct false<|B.map B5]) rfl (Ez (By rfl (Bx (pn e rfl rfl) (λn=>C0) (Bs<|pn e rfl rfl) rfl) (l:=(Cy log).map λr=>V.d<|Ap r) ?_) rfl rfl<|Mine.U.up (nL rfl) (P:=λn=>forLoop' (AY gl n) Ee _ _ _ _=some _) v) ?_;refine A3 (λl=>some (l,_)) ?_;rw[k];exact(Jf _ _).trans List.map_take.symm;have u:=e9 g o;exact CR rfl (Bo<|BU (vs:=[.d<|.lst<|(AH (FW t log).f).map BT,.d<|.int (FW t log).r]) (CD (BN (PD (λn=>rfl) (pn i rfl rfl) (dd:=(false,B.map B5)) rfl (UC B)<|s.sorted u.dm) rfl<|BO _)<|sZ<|pn i rfl rfl) rfl<|by decide) rfl
end
section
variable{G:Gl}{fn:Fn}{K:Nat}{j i st₂:St}{d ys:List (Str×V)}{σ:List Cell}{elt t:Expr}{f:Scope}{p:Pos}{x:Str}
def Tn(G:Gl)(fn:Fn)(K:Nat)(tg:Tg)(ifs:List Expr)(elt:Expr)(gs:List Comprehension)(items:List V)(j:St)(l:List V)(st':St):Prop:=∀n,turns (compTurn' (AY G<|n+K) fn tg ifs<|IG G (AY G<|n+K) fn elt gs) items j=some (l,st')
def Pf{g:Comprehension}{k:List Comprehension}{e:It}{c:Tg}{l:List V}(h:(GC fn f&&(g::k).all Fm)=true)(s:Dj G fn K g.iter j e i)(m:Dg g.target=some c)(r:Ci (fn.sc f.names) e.pr c=true)(o:Tn G (fn.sc f.names) K c g.ifs elt k e.items ⟨seen f.names j.vars,i.store⟩ l st₂)(q:l.length<=lim):Ev G fn (K+1) (.ListComp elt (g::k) f p) j (.fresh l) ⟨j.vars,st₂.store⟩:=λn=>Bk h<|bnd (a:=(c,e,i)) (bnd (s n)<|bnd m<|Bk r rfl)<|bnd (o n)<|Ef q rfl
def eE{a:List (Str×NameKind)}(h:(a.lookup x==some .free)=true)(d:List<|Str×V):AJ x (seen a d)=AJ x d:=by induction d with|nil=>rfl|cons p r c=>rw[IS x p.1 p.2 r,<-c];unfold seen;rw[List.filter_cons];by_cases e:x=p.1;rw[A5 e,<-e,A5 h];exact A5 e;rw[A1 e];by_cases q:(a.lookup p.1==some .free)=true;rw[A5 q];exact A1 e;rw[A1 q]
theorem AA.seen{a:List (Str×NameKind)}{v:V}(h:AA d ys)(c:(a.lookup x==some .free)=true)(e:AJ x ys=some v):AJ x (seen a d)=some v:=(eE c d).trans<|h _ _ e
def Jg{c:Tg}{a:List Expr}{e:List Comprehension}:Tn G fn K c a elt e [] j [] j:=λn=>rfl
def Hk(G:Gl)(fn:Fn)(K:Nat)(ifs:List Expr)(j:St)(b:Bool):Prop:=∀n,OF (AY G<|n+K) fn j ifs=some (b,j)
def FY:Hk G fn K [] j true:=λ_=>rfl
def Ei{b:Bool}(h:Tt G fn K t j b j):Hk G fn K [t] j b:=h
def Ud{q:Type}{g h:q->V}{b:q->Bool}{tg:Tg}{ifs:List Expr}{l:List q}:∀(d:List<|Str×V),AA d ys->(∀a∈l,∀d,AA d ys->∃k,GB tg (g a) ⟨d,σ⟩=some ⟨k,σ⟩/\AA k ys/\Hk G fn K ifs ⟨k,σ⟩ (b a)/\(b a=true->Kp G fn K fn.hm elt ⟨k,σ⟩ (h a) ⟨k,σ⟩))->∃m,Tn G fn K tg ifs elt [] (l.map g) ⟨d,σ⟩ ((l.filter b).map h) ⟨m,σ⟩/\AA m ys:=by induction l with|nil=>exact λd hs _=>⟨d,Jg,hs⟩|cons a r w=>intro d hs u;obtain⟨k,v,A,o,z⟩:=u a AT d hs;obtain⟨m,e,s⟩:=w k A λc y=>u c<|Ah _ y;refine⟨m,λn=>?_,s⟩;rw[List.filter_cons];cases hb:b a with|true=>rw[hb] at o;exact bnd (a:=([h a],⟨k,σ⟩)) (bnd v<|bnd (o n)<|Aa (z hb n) rfl) (Aa (e n) rfl)|false=>rw[hb] at o;exact bnd (a:=([],⟨k,σ⟩)) (bnd v<|bnd (o n) rfl)<|Aa (e n) rfl
section
variable{m:Type}{g h:m->V}{b:m->Bool}{k:Comprehension}{l:List m}{lr:List V}{c:List Cell}{q:Pos}{n:Bool}{y:Str}
def eF{s:Tg}(B:Dj G fn K k.iter ⟨d,σ⟩ ⟨l.map g,n⟩ ⟨d,c⟩)(u:(GC fn f&&[k].all Fm)=true)(v:Dg k.target=some s)(A:Ci (fn.sc f.names) n s=true)(hs:AA (seen f.names d) ys) (C:∀a∈l,∀d,AA d ys->∃o,GB s (g a) ⟨d,c⟩=some ⟨o,c⟩/\AA o ys/\Hk G (fn.sc f.names) K k.ifs ⟨o,c⟩ (b a)/\(b a=true->Kp G (fn.sc f.names) K fn.hm elt ⟨o,c⟩ (h a) ⟨o,c⟩)) (z:l.length<=lim) (w:(l.filter b).map h=lr):Ev G fn (K+1) (.ListComp elt [k] f q) ⟨d,σ⟩ (.fresh lr) ⟨d,c⟩:=by obtain⟨r,e,_⟩:=Ud (fn:=fn.sc f.names) _ hs C;subst w;exact Pf (st₂:=⟨r,c⟩) u B v A e<|by rw[A4];exact AB (List.length_filter_le _ _) z
def DF(z:Dj G fn K k.iter ⟨d,σ⟩ ⟨l.map g,false⟩ ⟨d,c⟩)(o:(GC fn f&&[k].all Fm)=true)(s:Dg k.target=some (.one x))(w:Ci (fn.sc f.names) false (.one x)=true)(hs:AA (seen f.names d) ys)(r:AJ x ys=.none) (A:∀a∈l,∀e,AA e ((x,g a)::ys)->Hk G (fn.sc f.names) K k.ifs ⟨e,c⟩ (b a)/\(b a=true->Kp G (fn.sc f.names) K fn.hm elt ⟨e,c⟩ (h a) ⟨e,c⟩)) (v:l.length<=lim) (u:(l.filter b).map h=lr):Ev G fn (K+1) (.ListComp elt [k] f q) ⟨d,σ⟩ (.fresh lr) ⟨d,c⟩:=eF z o s w hs (λa B d hs=>⟨AS x (g a) d,rfl,hs.other r,A a B _<|.cons CL<|hs.other r⟩) v u
end
def Ue{k:Type}{g:k->V}{b:k->Bool}{h:Comprehension}{l:List k}{c:List Cell}{q:Pos}(y:Dj G fn (K+1) h.iter ⟨d,σ⟩ ⟨l.map g,false⟩ ⟨d,c⟩)(n:(GC fn f&&[h].all Fm)=true)(s:Dg h.target=some (.one x))(w:Ci (fn.sc f.names) false (.one x)=true)(z:h.ifs=[t])(u:true=Cp (f.names.lookup x))(hs:AA (seen f.names d) ys)(r:AJ x ys=.none) (m:∀a∈l,∀e,AA e ((x,g a)::ys)->Tt G (fn.sc f.names) (K+1) t ⟨e,c⟩ (b a) ⟨e,c⟩) (v:l.length<=lim):Ev G fn (K+2) (.ListComp (.Name x p) [h] f q) ⟨d,σ⟩ (.fresh<|(l.filter b).map g) ⟨d,c⟩:=DF y n s w hs r (λa A e o=>⟨z▸m a A e o,λ_=>AK<|pn o u<|A5 rfl⟩) v rfl
end
inductive Act where
 |put (k:Int) (s:Str)|rem (k:Int)|back|com|syn|chk|fls (n:Int)|crs (n:Nat)
noncomputable def B1:Act->D|.put k s=>.tup [.str "put",.key k,.str s]|.rem k=>.tup [.str "remove",.key k]|.back=>.tup [.str "rollback"]|.com=>.tup [.str "commit"]|.syn=>.tup [.str "sync"]|.chk=>.tup [.str "checkpoint"]|.fls n=>.tup [.str "flush",.int n]|.crs n=>.tup [.str "crash",.int n]
noncomputable def Mu:Act->Str|.put _ _=>"put"|.rem _=>"remove"|.back=>"rollback"|.com=>"commit"|.syn=>"sync"|.chk=>"checkpoint"|.fls _=>"flush"|.crs _=>"crash"
structure PS where
 hand:D
 kept:PF
 disk:PF
 safe:List Rec
 pend:List Rec
def CW:PyData.strOk "put" = true:=by decide +kernel
def Cu:PyData.strOk "remove" = true:=by decide +kernel
def Ej:PyData.strOk "rollback" = true:=by decide +kernel
def GJ:PyData.strOk "sync" = true:=by decide +kernel
def Hl:PyData.strOk "checkpoint" = true:=by decide +kernel
def IX:PyData.strOk "flush" = true:=by decide +kernel
noncomputable def pv(s:PS):List<|Str×V:=[("hand",.d s.hand),("kept",.d<|BD s.kept),("disk",.d<|BD s.disk),("safe",.d<|BZ s.safe),("pending",.d<|BZ s.pend)]
noncomputable def EE(n:Int):Rec->Bool|.wr m _=>decide (m=n)|.fr m=>decide (m=n)|.cm _=>false
noncomputable def fls(n:Int)(c:List Rec)(a d:PF):PF:=match d.f n with|some y=>cond (c.any<|EE n) a ⟨upd a.f n<|some y,a.r⟩|.none=>a
structure PSok(s:PS):Prop where
 kept:Bl s.kept
 disk:Bl s.disk
 safe:∀x∈s.safe,Eh x
 pend:∀x∈s.pend,Eh x
 len:s.safe.length+s.pend.length<400
def Ph(s:PS)(a:Act)(c:PS):Prop:=match a with|.put k v=>∃d,Gn s.hand k v d/\c={s with hand:=d}|.rem k=>∃d,EQ s.hand k d/\c={s with hand:=d}|.back=>c={s with hand:=BD s.kept}|.com=>∃h,s.hand=BD h/\Bl h/\c={s with kept:=h,pend:=s.pend++Cw s.kept.f h.f++[.cm h.r]}|.syn=>c={s with safe:=s.safe++s.pend,pend:=[]}|.chk=>c={s with disk:=s.kept,safe:=[],pend:=[]}|.fls n=>c={s with disk:=fls n s.pend s.disk s.kept}|.crs n=>c=⟨BD<|FW s.disk<|Cy<|s.safe++s.pend.take n,FW s.disk<|Cy<|s.safe++s.pend.take n,s.disk,Cy<|s.safe++s.pend.take n,[]⟩
section
variable{K:Nat}{j:List (Str×V)}{s n:PS}{i:List Cell}{a:Act}
def pt{m l g f e:Pos}{k o:Nat}{x:Str}{c:Bool}(h:AA j<|("a",.d<|B1 a)::pv s)(p:PyData.strOk x=true)(q:decide (Mu a=x)=c):Tt gl EO (K+3) (.Compare (.Subscript (.Name "a" m) (.Constant (.int 0) k l) g) [.Eq] [.Constant (.str x) o f] e) ⟨j,i⟩ c ⟨j,i⟩:=Af rfl (iX (pn h rfl rfl)<|show Ce i (.val<|.d<|B1 a) _=some (.d<|.str<|Mu a) from by cases a<;>rfl) (CZ p)<|Hh<|Gq q
noncomputable def Pi:List Stmt:=CA<|Bd EO 2
def As{K:Nat}{G:Gl}{f:Fn}{t:Expr}{b:List Stmt}{e:Stmt}{p:Pos}{g d c:St}(h:Tt G f (K+2) t g false d)(k:X1 G f (K+1) e d .next c):X1 G f (K+2) (.If t b [e] p) g .next c:=Av h<|xO k
inductive Turn(j:List (Str×V))(i:List Cell)(n:PS):Prop where
 |mk (ys:List (Str×V)) (σ':List Cell):Ex gl EO 220 Pi ⟨j,i⟩ .next ⟨ys,σ'⟩->AA ys (pv n)->Turn j i n
def BQ{x:Str}(h:x≠"_Tree"):x≠gl.cls:=h
def eH{k:Int}{v:Str}{d:D}(h:AA j<|("a",.d<|B1<|.put k v)::pv s)(c:Gn s.hand k v d):Turn j i {s with hand:=d}:=have e:AA j<|pv s:=h.trans<|.cons rfl<|.cons rfl<|.cons rfl<|.cons rfl<|.cons rfl .nil;⟨_,i,xO<|B4 (pt (a:=.put k v) h CW rfl)<|xO<|Ad (AK<|BY (f:=Kr) (us:=[.d s.hand,.d<|.key k,.d<|.str v]) rfl (BQ<|by decide) rfl rfl (sN h rfl rfl<|sK (iX (pn h rfl rfl) rfl)<|sZ<|iX (pn h rfl rfl) rfl) rfl<|c.u rfl) rfl,e.put rfl⟩
def eI{k:Int}{d:D}(h:AA j<|("a",.d<|B1<|.rem k)::pv s)(c:EQ s.hand k d):Turn j i {s with hand:=d}:=have e:AA j<|pv s:=h.trans<|.cons rfl<|.cons rfl<|.cons rfl<|.cons rfl<|.cons rfl .nil;⟨_,i,xO<|As (pt (a:=.rem k) h CW rfl)<|B4 (pt (a:=.rem k) h Cu rfl)<|xO<|Ad (AK<|BY (f:=JO) (us:=[.d s.hand,.d<|.key k]) rfl (BQ<|by decide) rfl rfl (sN h rfl rfl<|sZ<|iX (pn h rfl rfl) rfl) rfl<|c.u rfl) rfl,e.put rfl⟩
def eJ(h:AA j<|("a",.d<|B1 .back)::pv s):Turn j i {s with hand:=BD s.kept}:=have c:AA j<|pv s:=h.trans<|.cons rfl<|.cons rfl<|.cons rfl<|.cons rfl<|.cons rfl .nil;⟨_,i,xO<|As (pt (a:=.back) h CW rfl)<|As (pt (a:=.back) h Cu rfl)<|B4 (pt (a:=.back) h Ej rfl)<|xO<|Ad (kN h rfl rfl) rfl,c.put rfl⟩
def Mv{i:List Cell}{d c:R}{l m:List V}(e:I7 c=.none)(g:Ch i d=some l)(f:Ch i c=some m)(h:l.length+m.length<=lim):Er i .Add d c=some (.fresh<|l++m):=DM e<|Br g<|bnd f<|Ef h rfl
def Jh{l:List Rec}:((l.map Ap).map V.d).length=l.length:=by rw[A4,A4]
def Uf{i:List Cell}{l m:List Rec}(h:l.length+m.length<=lim):Er i .Add (.val<|.d<|BZ l) (.val<|.d<|BZ m)=some (.fresh<|((l++m).map Ap).map V.d):=by rw[AF,AF];exact Mv rfl rfl rfl<|by rw[Jh,Jh];exact h
def eM{i:List Cell}{l m:List Rec}(h:l.length+m.length<=lim):Er i .Add (.fresh<|(l.map Ap).map V.d) (.fresh<|(m.map Ap).map V.d)=some (.fresh<|((l++m).map Ap).map V.d):=by rw[AF,AF];exact Mv rfl rfl rfl<|by rw[Jh,Jh];exact h
def Ug{i:List Cell}{l m:List Rec}(h:l.length+m.length<=lim):Er i .Add (.val<|.d<|BZ l) (.fresh<|(m.map Ap).map V.d)=some (.fresh<|((l++m).map Ap).map V.d):=by rw[AF,AF];exact Mv rfl rfl rfl<|by rw[Jh,Jh];exact h
def eO(h:AA j<|("a",.d<|B1 .syn)::pv s)(c:PSok s):Turn j i {s with safe:=s.safe++s.pend,pend:=[]}:=have e:AA j<|pv s:=h.trans<|.cons rfl<|.cons rfl<|.cons rfl<|.cons rfl<|.cons rfl .nil;⟨_,i,xO<|As (pt (a:=.syn) h CW rfl)<|As (pt (a:=.syn) h Cu rfl)<|As (pt (a:=.syn) h Ej rfl)<|As (pt (a:=.syn) h DZ rfl)<|B4 (pt (a:=.syn) h GJ rfl)<|xO<|Cr rfl rfl (BG (BN (Ak (pn h rfl rfl) (pn h rfl rfl)<|Uf<|BS<|AM c.len<|nL rfl) rfl<|BO _)<|BG (BN (l:=[]) (ds:=[]) (Bt CC rfl) rfl rfl) Cs)<|tN rfl<|tO rfl,(e.put rfl).put rfl⟩
def eP(h:AA j<|("a",.d<|B1 .chk)::pv s):Turn j i {s with disk:=s.kept,safe:=[],pend:=[]}:=have c:AA j<|pv s:=h.trans<|.cons rfl<|.cons rfl<|.cons rfl<|.cons rfl<|.cons rfl .nil;⟨_,i,xO<|As (pt (a:=.chk) h CW rfl)<|As (pt (a:=.chk) h Cu rfl)<|As (pt (a:=.chk) h Ej rfl)<|As (pt (a:=.chk) h DZ rfl)<|As (pt (a:=.chk) h GJ rfl)<|B4 (pt (a:=.chk) h Hl rfl)<|xO<|Cr rfl rfl (BG (kN h rfl rfl)<|BG (BN (l:=[]) (ds:=[]) (Bt CC rfl) rfl rfl)<|BG (BN (l:=[]) (ds:=[]) (Bt CC rfl) rfl rfl) Cs)<|tN rfl<|tN rfl<|tO rfl,((c.put rfl).put rfl).put rfl⟩
def eV{t:PF}(h:AA j<|("a",.d<|B1 .com)::pv s)(l:PSok s)(x:s.hand=BD t)(g:Bl t):Turn j i {s with kept:=t,pend:=s.pend++Cw s.kept.f t.f++[.cm t.r]}:=by have v:AA j<|pv s:=h.trans<|.cons rfl<|.cons rfl<|.cons rfl<|.cons rfl<|.cons rfl .nil;have o:=l.len;have p:=PZ s.kept.f t.f;obtain⟨q,k,w,c,e⟩:=s;subst x;refine⟨_,i,xO<|As (pt (a:=.com) h CW rfl)<|As (pt (a:=.com) h Cu rfl)<|As (pt (a:=.com) h Ej rfl)<|B4 (pt (a:=.com) h DZ rfl)<|BR (Ad (BN (Ak (Ak (pn h rfl rfl) (BY (f:=Ed) rfl (BQ<|by decide) rfl rfl (sN h rfl rfl<|sZ<|pn h rfl rfl) rfl<|(dz l.kept g).u rfl)<|Uf ?_) (Bt (sZ<|BU (vs:=[.d<|.str "commit",.d<|.int t.r]) (sK (CZ DZ)<|sZ<|iX (pn h rfl rfl) rfl) rfl<|by decide) rfl)<|eM (m:=[.cm t.r]) ?_) rfl<|BO _) rfl)<|xO<|Ad (AK<|pn (v.put rfl) rfl rfl) rfl,(v.put rfl).put rfl⟩;exact AB (Nat.add_le_add (AB (Nat.le_add_left _ c.length)<|BS o) p)<|nL rfl;rw[A9];exact AB (Ds (Nat.add_le_add (AB (Nat.le_add_left _ c.length)<|BS o) p) 1)<|nL rfl
end
section
variable{K:Nat}{g:List (Str×V)}{s j:PS}{f:List Cell}{a:Act}
def Uh{i:Fn}{x:Rec}{n:Int}{e:Expr}{C B A z y w v u t o:Pos}{H G E:Nat}(I:true=Cp (i.names.lookup ("r" : Str)))(h:AJ "r" g=some (.d<|Ap x))(L:∀K,Ev gl i (K+2) e ⟨g,f⟩ (.val<|.d<|.int n) ⟨g,f⟩):Tt gl i (K+4) (.BoolOp .And [.Compare (.Subscript (.Name "r" C) (.Constant (.int 0) H B) A) [.NotEq] [.Constant (.str "commit") G z] y,.Compare (.Subscript (.Name "r" w) (.Constant (.int 1) E v) u) [.Eq] [e] t] o) ⟨g,f⟩ (EE n x) ⟨g,f⟩:=by have hs:AA g [("r",.d<|Ap x)]:=.cons h .nil;have l:∀{c:Bool},(!decide (IW x ="commit"))=c->Tt gl i (K+3) (.Compare (.Subscript (.Name "r" C) (.Constant (.int 0) H B) A) [.NotEq] [.Constant (.str "commit") G z] y) ⟨g,f⟩ c ⟨g,f⟩:=λ{c} M=>Af rfl (iX (pn hs I rfl)<|show Ce f (.val<|.d<|Ap x) _=some (.d<|.str<|IW x) from by cases x<;>rfl) (CZ DZ)<|FV (Gq rfl) M;have q:∀{m:Int},Ce f (.val<|.d<|Ap x) (.val<|.d<|.int 1)=some (.d<|.int m)->Tt gl i (K+3) (.Compare (.Subscript (.Name "r" w) (.Constant (.int 1) E v) u) [.Eq] [e] t) ⟨g,f⟩ (decide (m=n)) ⟨g,f⟩:=λ{m} J=>Af rfl (iX (pn hs I rfl) J) (L K)<|Hh<|Hi rfl rfl rfl;cases x with|cm k=>exact CQ (FR<|l rfl)|wr m p=>exact CQ (Dk (l rfl)<|Dm<|q rfl)|fr m=>exact CQ<|Dk (l rfl)<|Dm<|q rfl
def Ui{l:List Rec}(h:∀x∈l,Eh x){c:Bool}(e:l.isEmpty=c):E4 .Eq f (.fresh<|l.map λr=>V.d<|Ap r) (.fresh [])=some c:=by refine bnd (a:=.lst<|l.map Ap) ?_<|bnd (a:=.lst []) rfl<|Hi (PX h 25) rfl ?_;exact bnd (a:=.d<|.lst<|l.map Ap) (Aa (a:=l.map Ap) ((A3 Cn (Am).symm).trans<|BO _) rfl) rfl;subst e;cases l<;>rfl
def Pj{l:List Rec}{b:Rec->Bool}:(l.filter b).isEmpty=!l.any b:=by induction l with|nil=>rfl|cons x r c=>rw[List.filter_cons,List.any_cons];cases b x with|true=>rfl|false=>exact c
def eW{n:Int}(h:AA g<|("a",.d<|B1<|.fls n)::pv s)(e:PSok s):Turn g f {s with disk:=fls n s.pend s.disk s.kept}:=by have h':AA g<|pv s:=h.trans<|.cons rfl<|.cons rfl<|.cons rfl<|.cons rfl<|.cons rfl .nil;have T:=e.len;have G:(f++[Cell.dct false<|(AH s.kept.f).map B5])[f.length]?=some (.dct false<|(AH s.kept.f).map B5):=List.getElem?_concat_length;have c:AA (AS "pages" (.loc f.length) g)<|("pages",.loc f.length)::("a",.d<|B1<|.fls n)::pv s:=.cons CL<|h.other rfl;have q:AA (AS "pages" (.loc f.length) g)<|pv s:=h'.other rfl;have H:∀{K:Nat}{o m i z w O N:Pos}{k:Nat},X1 gl EO (K+4) (.Assign [.Name "pages" o] (.Call (.Name "dict" m) [.Subscript (.Name "kept" i) (.Constant (.int 0) k z) w] [] O) N) ⟨g,f⟩ .next ⟨AS "pages" (.loc f.length) g,f++[.dct false<|(AH s.kept.f).map B5]⟩:=λ{K o m i z w O N k}=>Ad (AK<|IU (λn=>rfl) (iX (pn h rfl rfl) rfl)<|Cf FU) rfl;have S:∀{K:Nat}{o m i:Pos}{k:Nat}{u:List (Str×V)}{M:List Cell},AA u (("pages",.loc f.length)::("a",.d<|B1<|.fls n)::pv s)->Ev gl EO (K+2) (.Subscript (.Name "a" o) (.Constant (.int 1) k m) i) ⟨u,M⟩ (.val<|.d<|.int n) ⟨u,M⟩:=λp=>iX (pn p rfl rfl) rfl;cases hy:s.kept.f n with|none=>rw[show fls n s.pend s.disk s.kept=s.disk from by unfold fls;rw[hy]];exact⟨_,_,xO<|As (pt (a:=.fls n) h CW rfl)<|As (pt (a:=.fls n) h Cu rfl)<|As (pt (a:=.fls n) h Ej rfl)<|As (pt (a:=.fls n) h DZ rfl)<|As (pt (a:=.fls n) h GJ rfl)<|As (pt (a:=.fls n) h Hl rfl)<|B4 (pt (a:=.fls n) h IX rfl)<|BR H<|xO<|Av (CQ<|FR<|Kv (S c) (pn c rfl rfl)<|Hg G<|by rw[Gu e.kept,hy];rfl) Bh,q⟩|some y=>have v:∀{K:Nat}{o m i z w:Pos}{k:Nat},Tt gl EO (K+3) (.Compare (.Subscript (.Name "a" o) (.Constant (.int 1) k m) i) [.In] [.Name "pages" z] w) ⟨AS "pages" (.loc f.length) g,f++[.dct false<|(AH s.kept.f).map B5]⟩ true ⟨AS "pages" (.loc f.length) g,f++[.dct false<|(AH s.kept.f).map B5]⟩:=λ{K o m i z w k}=>Kv (S c) (pn c rfl rfl) (Hg G<|by rw[Gu e.kept,hy];rfl);have C:(s.pend.map Ap).map V.d=s.pend.map λr=>V.d<|Ap r:=Am;have B:s.pend.length<=lim:=AB (Nat.le_add_left _ _)<|BS<|AM T<|nL rfl;cases hb:s.pend.any (EE n) with|true=>rw[show fls n s.pend s.disk s.kept=s.disk from by unfold fls;rw[hy,hb];rfl];refine⟨_,_,xO<|As (pt (a:=.fls n) h CW rfl)<|As (pt (a:=.fls n) h Cu rfl)<|As (pt (a:=.fls n) h Ej rfl)<|As (pt (a:=.fls n) h DZ rfl)<|As (pt (a:=.fls n) h GJ rfl)<|As (pt (a:=.fls n) h Hl rfl)<|B4 (pt (a:=.fls n) h IX rfl)<|BR H<|xO<|Av (CQ<|Dk v<|Dm<|Af rfl (Ue (b:=EE n) (ys:=[("a",.d<|B1<|.fls n)]) (By rfl (pn c rfl rfl)<|A3 (λl=>some (l,_)) C) rfl rfl rfl rfl rfl (.cons (c.seen rfl rfl) .nil) rfl (λx _ u p=>Uh (K:=_) rfl (p _ _ rfl) λK=>iX (pn p rfl rfl) rfl) B) (Bt CC rfl)<|Ui (λx I=>e.pend x (List.mem_filter.mp I).1)<|by rw[Pj,hb];rfl) Bh,q⟩|false=>
 rw[show fls n s.pend s.disk s.kept=⟨upd s.disk.f n<|some y,s.disk.r⟩ from by unfold fls;rw[hy,hb];rfl];generalize Q:f++[Cell.dct false<|(AH s.kept.f).map B5]=σ1 at *;have J:(σ1++[Cell.dct false<|(AH s.disk.f).map B5])[f.length]?=some (.dct false<|(AH s.kept.f).map B5):=by rw[List.getElem?_append_left (List.getElem?_eq_some_iff.mp G).1];exact G
 have Z:(σ1++[Cell.dct false<|(AH s.disk.f).map B5])[σ1.length]?=some (.dct false<|(AH s.disk.f).map B5):=List.getElem?_concat_length;have Y:((σ1++[Cell.dct false<|(AH s.disk.f).map B5]).set σ1.length<|.dct false<|(BX n y<|AH s.disk.f).map B5)[σ1.length]?=some (.dct false<|(BX n y<|AH s.disk.f).map B5):=List.getElem?_set_self (by rw[A9];exact CY _);have t:AA (AS "d" (.loc σ1.length) (AS "pages" (.loc f.length) g))<|("d",.loc σ1.length)::("pages",.loc f.length)::("a",.d<|B1<|.fls n)::pv s:=.cons CL<|c.other rfl;have L:AA (AS "d" (.loc σ1.length) (AS "pages" (.loc f.length) g))<|pv s:=q.other rfl;have E:=(Dic.of e.disk.dm).set n y;have X:=Pe (x:=.wr n y) e.disk<|e.kept n y hy;have A:=E.sorted X.dm;refine⟨_,_,xO<|As (pt (a:=.fls n) h CW rfl)<|As (pt (a:=.fls n) h Cu rfl)<|As (pt (a:=.fls n) h Ej rfl)<|As (pt (a:=.fls n) h DZ rfl)<|As (pt (a:=.fls n) h GJ rfl)<|As (pt (a:=.fls n) h Hl rfl)<|B4 (pt (a:=.fls n) h IX rfl)<|BR H<|xO<|B4 (CQ<|Dk v<|Dm<|Af rfl (Ue (b:=EE n) (ys:=[("a",.d<|B1<|.fls n)]) (By rfl (pn c rfl rfl)<|A3 (λl=>some (l,_)) C) rfl rfl rfl rfl rfl (.cons (c.seen rfl rfl) .nil) rfl (λx _ u p=>Uh (K:=_) rfl (p _ _ rfl) λK=>iX (pn p rfl rfl) rfl) B) (Bt CC rfl)<|Ui (λx I=>e.pend x (List.mem_filter.mp I).1)<|by rw[Pj,hb];rfl)<|BR (Ad (AK<|IU (λn=>rfl) (iX (pn c rfl rfl) rfl)<|Cf FU) rfl)<|BR (FT (AK<|BI rfl (pn t rfl rfl) (iX (pn t rfl rfl) rfl)<|Jd J<|by rw[Gu e.kept,hy];rfl)<|Hd (k:=(false,n)) (σ':=(σ1++[Cell.dct false<|(AH s.disk.f).map B5]).set σ1.length<|.dct false<|(BX n y<|AH s.disk.f).map B5) (pn t rfl rfl) (iX (pn t rfl rfl) rfl) rfl ?_)<|xO<|Ad (AK<|BU (vs:=[.d<|.lst<|(AH<|upd s.disk.f n<|some y).map BT,.d<|.int s.disk.r]) (CD (BN (PD (λn=>rfl) (pn t rfl rfl) (dd:=(false,(BX n y<|AH s.disk.f).map B5)) (bnd (a:=σ1.length) rfl<|by rw[Y];rfl) (UC _) A) rfl<|BO _)<|sZ<|iX (pn t rfl rfl) rfl) rfl<|by decide) rfl,L.put rfl⟩;rw[Z,<-UB];exact Bk (by rw[Gp,A4,Ac<|show(AH s.disk.f).length<lim from AO Go<|nL rfl];rfl) rfl
def Uj(x:Rec)(l:List Rec):∀(i a:Nat),IV i a (l++[x])=cond (Fs x) (i+l.length+1) (IV i a l):=by induction l with|nil=>exact λ_ _=>rfl|cons y l c=>intro i a;refine(c (i+1)<|cond (Fs y) (i+1) a).trans ?_;rw[DB i 1];rfl
def eY(l:List Rec):∀(i a:Nat),a<=i->IV i a l<=i+l.length:=by induction l with|nil=>exact λ_ _ h=>h|cons y l c=>intro i a h;refine AB (c (i+1) (cond (Fs y) (i+1) a) ?_)<|BB<|DB i 1 _;cases Fs y with|true=>exact Au _|false=>exact Nat.le_succ_of_le h
def Uk(l:List Rec)(x:Rec)(h:Fs x=false):Cy (l++[x])=Cy l:=by have:=eY l 0 0<|Au _;unfold Cy;rw[Uj,h,cond_false,List.take_append_of_le_length<|AB this<|BB<|Nat.zero_add _]
def Pk(l:List Rec)(x:Rec)(h:Fs x=true):Cy (l++[x])=l++[x]:=by unfold Cy;rw[Uj,h,cond_true];exact List.take_of_length_le<|by rw[A9,Nat.zero_add];exact Au _
def eZ(l:List Rec):(Cy l).length<=l.length:=List.length_take_le' _ _
def ee{l:List Rec}{x:Rec}(h:x∈Cy l):x∈l:=List.mem_of_mem_take h
def Ul(n:Nat):(-1:Int)+((n+1:Nat):Int)=n:=(Int.add_comm _ _).trans<|Int.add_neg_cancel_right (n:Int) 1
def Pl{c:Type}(l:List c)(x:c):idx (l++[x]) (-1)=some x:=by unfold idx;rw[show(l++[x]).length=l.length+1 from A9,show seqIndex? (-1) (l.length+1)=some l.length from by show(if (decide (0<=(-1:Int)+((l.length+1:Nat):Int))&&decide ((-1:Int)+((l.length+1:Nat):Int)<((l.length+1:Nat):Int)))=true then some ((-1:Int)+((l.length+1:Nat):Int)).toNat else .none)=_;rw[Ul,A5<|CN.mpr ⟨Ac<|Int.natCast_nonneg _,Ac<|Bc.mpr<|CY _⟩,Int.toNat_natCast]];exact List.getElem?_concat_length
def Um{c:Type}(l:List c)(x:c):slc (l++[x]) .none (some<|-1)=l:=by show((l++[x]).take<|E2 (l++[x]).length<|-1).drop 0=l;unfold E2;rw[A1<|by decide,show(l++[x]).length=l.length+1 from A9,Ul,Int.toNat_natCast,List.take_left' rfl];rfl
end
section
variable{K:Nat}{xs:List (Str×V)}{s g:PS}{σ:List Cell}{a:Act}
noncomputable def eh:Stmt:=at' (DN<|at' (DN<|at' (DN<|at' (DN<|at' (DN<|at' (DN<|at' Pi 0) 0) 0) 0) 0) 0) 0
noncomputable def Pm:List Stmt:=DN eh
def Wh(G:Gl)(fn:Fn)(K:Nat)(t:Expr)(c:List Stmt)(k:Nat)(st st':St):Prop:=∀n,whileLoop' (AY G<|n+K) fn t c k st=some st'
def Ji{G:Gl}{f:Fn}{t:Expr}{d:List Stmt}{k:Nat}{e c:St}(h:Tt G f K t e false c):Wh G f K t d (k+1) e c:=λn=>bnd (h n) rfl
def Mw{G:Gl}{i:Fn}{t:Expr}{f:List Stmt}{k:Nat}{j e d c:St}(h:Tt G i K t j true e)(l:Ex G i K f e .next d)(r:Wh G i K t f k d c):Wh G i K t f (k+1) j c:=λn=>bnd (h n)<|bnd (l n)<|r n
def My{G:Gl}{f:Fn}{t:Expr}{d:List Stmt}{p:Pos}{e c:St}(h:Wh G f K t d 1000 e c):X1 G f K (.While t d [] p) e .next c:=λn=>Aa (h n) rfl
def ei{G:Gl}{c:Fn}{x y:Str}{p q d:Pos}{e:Expr}{v:V}{f:St}(k:(J8 [.Name x p,.Name y q]&&(J7 [.Name x p,.Name y q]).isSome)=true)(h:Kp G c K false e f v ⟨xs,σ⟩)(j:true=DD c x)(i:true=DD c y):X1 G c K (.Assign [.Name x p,.Name y q] e d) f .next ⟨AS y v<|AS x v xs,σ⟩:=λn=>Aa (a:=⟨AS y v<|AS x v xs,σ⟩) (Bk k<|bnd (h n)<|bnd (PH j n)<|bnd (PH i n) rfl) rfl
def Hm{c:Type}(l:List c):l=[]\/∃a x,l=a++[x]:=(List.eq_nil_or_concat l).imp_right λh=>h.imp λa h=>h.imp λx e=>e.trans List.concat_eq_append
def Un{l:List Rec}{x:Rec}{c:Bool}(h:AA xs<|("log",.d<|BZ<|l++[x])::pv s)(j:(!decide (IW x ="commit"))=c):Tt gl EO 12 (CB<|at' Pm 1) ⟨xs,σ⟩ c ⟨xs,σ⟩:=by
 have f:Ls σ (.val<|.d<|BZ<|l++[x])=some true:=by unfold BZ;rw[AF];cases l<;>rfl
 have e:Ce σ (.val<|.d<|BZ<|l++[x]) (.val<|.d<|.int<|-1)=some (.d<|Ap x):=by refine DM rfl<|bnd (a:=-1) rfl<|bnd (a:=((l++[x]).map Ap).map V.d) rfl ?_;rw[AF,AF];exact Pl _ _
 have i:Ce σ (.val<|.d<|Ap x) (.val<|.d<|.int 0)=some (.d<|.str<|IW x):=by cases x<;>rfl
 exact CQ<|Dk (Fq (λn=>rfl) (pn h rfl rfl) f)<|Dm<|Af rfl (iX (BI rfl (pn h rfl rfl) (λn=>rfl) e) i) (CZ DZ)<|FV (Gq rfl) j
def Mz(s:PS)(σ:List Cell)(k:Nat)(l:List Rec)(xs:List<|Str×V):Prop:=∃c,Wh gl EO 12 (CB<|at' Pm 1) (CA<|at' Pm 1) k ⟨xs,σ⟩ ⟨c,σ⟩/\AA c (("log",.d<|BZ<|Cy l)::pv s)
def Uo{l:List Rec}{x:Rec}{k:Nat}(c:(l++[x]).length<k+1)(h:AA xs<|("log",.d<|BZ<|l++[x])::pv s)(f:Fs x=false)(j:(!decide (IW x ="commit"))=true)(e:∀l xs,l.length<k->AA xs (("log",.d<|BZ l)::pv s)->Mz s σ k l xs):Mz s σ (k+1) (l++[x]) xs:=by unfold Mz;rw[Uk _ _ f];refine(e l (AS "log" (.d<|BZ l) xs) (by rw[A9] at c;exact Nat.lt_of_succ_lt_succ c)<|.cons CL<|(h.trans (.cons rfl<|.cons rfl<|.cons rfl<|.cons rfl<|.cons rfl .nil):AA xs<|pv s).other rfl).imp λm q=>⟨Mw (Un h j) (xO<|Ad (BN (l:=(l.map Ap).map V.d) (Bx (pn h rfl rfl) (λn=>C0) (Bs (i:=-1) λn=>rfl) ?_) rfl<|BO _) rfl) q.1,q.2⟩;refine A3 (λl=>some<|R.fresh l) ?_;rw[AF,AF];exact Um _ _
def ek(k:Nat):∀(l:List Rec)(xs:List<|Str×V),l.length<k->AA xs (("log",.d<|BZ l)::pv s)->Mz s σ k l xs:=by induction k with|zero=>exact λl xs c=>absurd c (Nat.not_lt_zero _)|succ k e=>intro l xs c h;rcases Hm l with rfl|⟨f,x,rfl⟩;exact⟨xs,Ji<|CQ<|FR<|Fq (λn=>rfl) (pn h rfl rfl) rfl,h⟩;cases x with|cm q=>exact⟨xs,Ji<|Un h rfl,by rw[Pk _ _ rfl];exact h⟩|wr m p=>exact Uo c h rfl rfl e|fr m=>exact Uo c h rfl rfl e
def en{m:Nat}{c:List Rec}(w:Cy (s.safe++s.pend.take m)=c)(h:AA xs<|("a",.d<|B1<|.crs m)::pv s)(k:PSok s):Turn xs σ ⟨BD<|FW s.disk c,FW s.disk c,s.disk,c,[]⟩:=by
 have B:AA xs<|pv s:=h.trans<|.cons rfl<|.cons rfl<|.cons rfl<|.cons rfl<|.cons rfl .nil;have z:=k.len;have e:(s.safe++s.pend.take m).length<400:=by rw[A9];exact AO (BW (List.length_take_le' _ _) _) z
 have A:∀x∈s.safe++s.pend.take m,Eh x:=λx j=>(BE.mp j).elim (k.safe x) λj=>k.pend x<|List.mem_of_mem_take j;obtain⟨p,E,o⟩:=ek (σ:=σ) 1000 (s.safe++s.pend.take m) (AS "log" (.d<|BZ<|s.safe++s.pend.take m) xs) (AM e<|nL rfl)<|.cons CL<|B.other rfl;rw[w] at o;have v:c.length<400:=by rw[<-w];exact AO (eZ _) e
 have t:∀x∈c,Eh x:=λx j=>A x<|ee<|w▸j;have r:AA p<|pv s:=o.trans<|.cons rfl<|.cons rfl<|.cons rfl<|.cons rfl<|.cons rfl .nil;have y:AA (AS "pending" (V.d<|BZ []) (AS "safe" (V.d<|BZ c) p)) [("log",.d<|BZ c),("hand",.d s.hand),("kept",.d<|BD s.kept),("disk",.d<|BD s.disk),("safe",.d<|BZ c),("pending",.d<|BZ [])]:=(o.put rfl).put rfl;have q:AA (AS "pending" (V.d<|BZ []) (AS "safe" (V.d<|BZ c) p))<|pv ⟨s.hand,s.kept,s.disk,c,[]⟩:=(r.put rfl).put rfl;have C:=Uc (log:=c) k.disk t<|AM v<|nL rfl;refine⟨_,σ,xO<|As (pt (a:=.crs m) h CW rfl)<|As (pt (a:=.crs m) h Cu rfl)<|As (pt (a:=.crs m) h Ej rfl)<|As (pt (a:=.crs m) h DZ rfl)<|As (pt (a:=.crs m) h GJ rfl)<|As (pt (a:=.crs m) h Hl rfl)<|Av (pt (a:=.crs m) h IX rfl)<|BR (Ad (BN (Ak (pn h rfl rfl) (Bx (r₁:=.fresh<|((s.pend.take m).map Ap).map V.d) (pn h rfl rfl) (λn=>C0) (Bs (i:=m)<|iX (pn h rfl rfl) rfl) ?_)<|Ug ?_) rfl<|BO _) rfl)<|BR (My<|Mine.U.up (nL rfl) (P:=λn=>whileLoop' (AY gl n) EO _ _ _ _=some _) E)<|BR (Cr rfl rfl (BG (kN o rfl rfl)<|BG (BN (l:=[]) (ds:=[]) (Bt CC rfl) rfl rfl) Cs)<|tN rfl<|tO rfl)<|xO<|ei rfl (AK<|BY (f:=Ee) rfl (BQ<|by decide) rfl rfl (sN y rfl rfl<|sZ<|pn y rfl rfl) rfl<|C.u rfl) rfl rfl,(q.put rfl).put rfl⟩;refine A3 (λl=>some<|R.fresh l) ?_;rw[List.map_take,List.map_take];exact Jf _ _;exact BS<|AO (BW (List.length_take_le' _ _) _)<|AM z<|nL rfl
def et(h:AA xs<|("a",.d<|B1 a)::pv s)(e:PSok s)(hs:Ph s a g):Turn xs σ g:=by cases a with|put k v=>obtain⟨d,c,rfl⟩:=hs;exact eH h c|rem k=>obtain⟨d,c,rfl⟩:=hs;exact eI h c|back=>subst hs;exact eJ h|com=>obtain⟨t,c,f,rfl⟩:=hs;exact eV h e c f|syn=>subst hs;exact eO h e|chk=>subst hs;exact eP h|fls n=>subst hs;exact eW h e|crs n=>subst hs;exact en rfl h e
inductive Steps:PS->List Act->PS->Prop
 |nil (s:PS):Steps s [] s
 |cons {s t u:PS}{a:Act}{l:List Act}:PSok s->Ph s a t->Steps t l u->Steps s (a::l) u
def ew{l:List Act}(hs:Steps s l g):∀{xs:List (Str×V)}{σ:List Cell},AA xs (pv s)->∃i f,Lp gl EO 220 (.one "a") Pi (l.map λa=>V.d<|B1 a) ⟨xs,σ⟩ ⟨i,f⟩/\AA i (pv g):=by induction hs with|nil s=>exact λ{xs σ} h=>⟨xs,σ,F0,h⟩|cons k p _ m=>rename_i a l _;intro xs σ h;obtain⟨i,e,r,o⟩:=et (σ:=σ) (xs:=AS "a" (.d<|B1 a) xs) (.cons CL<|h.other rfl) k p;obtain⟨j,c,q,n⟩:=m o (σ:=e);exact⟨j,c,ED GI r q,n⟩
noncomputable def eT:PF:=⟨λn=>AX n [(0,.tup [.str "leaf",.lst []])],0⟩
noncomputable def Up:PS:=⟨BD eT,eT,eT,[],[]⟩
noncomputable def ez(s:PS):D:=.tup [s.hand,BZ s.safe,BZ s.pend,BD s.disk]
def f0{l:List Act}(hs:Steps Up l g):Cl gl EO 230 [.d<|.lst<|l.map B1] [] (.val<|.d<|ez g) []:=by obtain⟨c,σ,e,h⟩:=ew hs (xs:=[("actions",.d<|.lst<|l.map B1),("hand",.d<|BD eT),("kept",.d<|BD eT),("disk",.d<|BD eT),("safe",.d<|BZ []),("pending",.d<|BZ [])]) (σ:=[])<|.cons rfl<|.cons rfl<|.cons rfl<|.cons rfl<|.cons rfl .nil;refine Ct rfl rfl (Ag (xs':=[("actions",.d<|.lst<|l.map B1),("hand",.d<|BD eT),("kept",.d<|BD eT),("disk",.d<|BD eT)]) (σ':=[]) rfl (λn=>by kernel_rfl)<|Ag (xs':=[("actions",.d<|.lst<|l.map B1),("hand",.d<|BD eT),("kept",.d<|BD eT),("disk",.d<|BD eT),("safe",.d<|BZ []),("pending",.d<|BZ [])]) (σ':=[]) rfl (λn=>by kernel_rfl)<|Ag rfl (Ez (l:=⟨l.map λa=>V.d<|B1 a,false⟩) (By rfl (pR rfl rfl)<|A3 (λl=>some (l,_)) Am) rfl rfl<|Mine.U.up (nL rfl) (P:=λn=>forLoop' (AY gl n) EO _ _ _ _=some _) e) ?_);exact CR rfl (Bo<|BU (vs:=[.d g.hand,.d<|BZ g.safe,.d<|BZ g.pend,.d<|BD g.disk]) (sN h rfl rfl<|sN h rfl rfl<|sN h rfl rfl<|sZ<|pn h rfl rfl) rfl<|by decide) rfl
end
structure Pag where
 lf:Bool
 xs:List D
 cs:List D
abbrev BH:=Nat×Nat×Nat
noncomputable def Pag.hd(p:Pag)(q:BH):List V:=cond p.lf [.d<|.str "leaf",.loc q.2.1] [.d<|.str "inner",.loc q.2.1,.loc q.2.2]
noncomputable def Pag.d(p:Pag):D:=cond p.lf (.tup [.str "leaf",.lst p.xs])<|.tup [.str "inner",.lst p.xs,.lst p.cs]
abbrev BV:=Int->Option Pag
noncomputable def Lv(l:List D):Option Cell:=some<|.lst<|l.map .d
structure Lay(σ:List Cell)(q:BH)(p:Pag):Prop where
 a:σ[q.1]?=some (.lst (p.hd q))
 b:σ[q.2.1]?=Lv p.xs
 c:p.lf=false->σ[q.2.2]?=Lv p.cs
structure Own(o:Nat->Int×Nat)(n:Int)(q:BH)(p:Pag):Prop where
 a:o q.1=(n,0)
 b:o q.2.1=(n,1)
 c:p.lf=false->o q.2.2=(n,2)
noncomputable def Hn(d:Nat)(r:Int):Cell:=.inst [("pages",.loc d),("root",.d<|.int r)]
noncomputable def tb(a:Int->BH)(f:BV):Int->Option V:=λn=>(f n).map λ_=>.loc (a n).1
structure HT(σ:List Cell)(s d:Nat)(r:Int)(pl:Int->BH)(f:BV):Prop where
 inst:σ[s]?=some (Hn d r)
 dic:∃es,σ[d]?=some (.dct false es)/\Dic es (tb pl f)
 lay:∀n p,f n=some p->Lay σ (pl n) p
 own:∃o:Nat->Int×Nat,o s=(0,3)/\o d=(0,4)/\∀n p,f n=some p->Own o n (pl n) p
 dm:C1 f
structure Fr(s d:Nat)(pl:Int->BH)(f:BV)(x:Nat):Prop where
 s:x≠s
 d:x≠d
 a:∀n p,f n=some p->x≠(pl n).1
 b:∀n p,f n=some p->x≠(pl n).2.1
 c:∀n p,f n=some p->p.lf=false->x≠(pl n).2.2
section
variable{t σ':List Cell}{s d:Nat}{r:Int}{a:Int->BH}{f:BV}{n m:Int}{p p':Pag}{q:BH}{x y:Nat}{c:Cell}{o:Nat->Int×Nat}
def Lay.mono(h:Lay t q p)(k:∀x c,t[x]?=some c->(x=q.1\/x=q.2.1\/(p.lf=false/\x=q.2.2))->σ'[x]?=some c):Lay σ' q p:=⟨k _ _ h.a<|.inl rfl,k _ _ h.b<|.inr<|.inl rfl,λe=>k _ _ (h.c e)<|.inr<|.inr ⟨e,rfl⟩⟩
theorem HT.mono(h:HT t s d r a f)(k:∀(x:Nat)(c:Cell),t[x]?=some c->σ'[x]?=some c):HT σ' s d r a f:=⟨k _ _ h.inst,h.dic.imp λg e=>⟨k _ _ e.1,e.2⟩,λn p e=>(h.lay n p e).mono λx c e _=>k x c e,h.own,h.dm⟩
def Da(l:List Cell){x:Nat}{c:Cell}(h:t[x]?=some c):(t++l)[x]?=some c:=(List.getElem?_append_left (List.getElem?_eq_some_iff.mp h).1).trans h
def HT.app(h:HT t s d r a f)(l:List Cell):HT (t++l) s d r a f:=h.mono λx c e=>Da l e
def N0(h:t[x]?=some c):x<t.length:=(List.getElem?_eq_some_iff.mp h).1
def HT.fr(h:HT t s d r a f)(i:t.length<=x):Fr s d a f x:=have k:∀{y c},t[y]?=some c->x≠y:=λe q=>absurd (N0 e)<|Nat.not_lt.mpr<|q▸i;⟨k h.inst,h.dic.elim λ_ e=>k e.1,λn p e=>k (h.lay n p e).a,λn p e=>k (h.lay n p e).b,λn p e g=>k<|(h.lay n p e).c g⟩
def Own.mem(h:Own o n q p)(e:x=q.1\/x=q.2.1\/(p.lf=false/\x=q.2.2)):(o x).1=n/\(o x).2<3:=by rcases e with e|e|⟨g,e⟩;rw[e,h.a];exact⟨rfl,Nat.succ_pos _⟩;rw[e,h.b];exact⟨rfl,Nat.lt_of_sub_eq_succ rfl⟩;rw[e,h.c g];exact⟨rfl,CY 2⟩
open Classical in
def HT.chg(h:HT t s d r a f)(u:f n=some p)(M:q.1=(a n).1)(L:q.2.1=(a n).2.1\/Fr s d a f q.2.1)(K:p'.lf=p.lf)(J:p.lf=false->q.2.2=(a n).2.2\/Fr s d a f q.2.2)(Y:p.lf=false->q.2.1≠q.2.2) (hs:∀x c,t[x]?=some c->x≠(a n).1->x≠(a n).2.1->(p.lf=false->x≠(a n).2.2)->σ'[x]?=some c) (A:Lay σ' q p'):HT σ' s d r (upd a n q)<|upd f n<|some p':=by
 obtain⟨o,H,I,on⟩:=h.own;have C:∀{x c},t[x]?=some c->((o x).1=n->3<=(o x).2)->σ'[x]?=some c:=λ{x c} e k=>by
  have k:∀{j},o x=(n,j)->3<=j:=λq=>by have:=k<|A3 Prod.fst q;rw[q] at this;exact this
  exact hs x c e (λq=>absurd (k<|q▸(on n p u).a)<|by decide) (λq=>absurd (k<|q▸(on n p u).b)<|by decide) λg q=>absurd (k<|q▸(on n p u).c g)<|by decide
 obtain⟨Z,e1,N⟩:=h.dic;have T:∀m,tb (upd a n q) (upd f n<|some p') m=tb a f m:=λm=>by unfold tb;by_cases e:m=n;rw[e,Aj,Aj,u,M];rfl;rw[Ay e,Ay e]
 refine⟨C h.inst λ_=>H▸Au 3,⟨Z,C e1 λ_=>I▸Nat.le_succ 3,N.nod,λm=>(N.look m).trans (T m).symm⟩,λm l e=>?_,?_,λm l e=>?_⟩;by_cases g:m=n;subst g;rw[Aj] at e ⊢;obtain rfl:=Option.some.inj e;exact A;rw[Ay g] at e ⊢;exact(h.lay m l e).mono λx c ex k=>C ex λS=>absurd (((on m l e).mem k).1.symm.trans S) g;refine⟨λx=>if x=q.2.1 then(n,1) else if x=q.2.2/\p.lf=false then(n,2) else o x,?_⟩;have B:∀{y:Nat}{m:Int}{j:Nat},o y=(m,j)->(m≠n\/3<=j)->(Fr s d a f q.2.1->q.2.1≠y)->(Fr s d a f q.2.2->q.2.2≠y)->(if y=q.2.1 then(n,1) else if y=q.2.2/\p.lf=false then(n,2) else o y)=(m,j):=λ{y m j} G E Q O=>by have z:∀{i:Nat},i<3->((m,j):Int×Nat)≠(n,i):=λ{i} X e=>E.elim (λk=>k<|A3 Prod.fst e) λk=>absurd (AO k<|AO (BB<|A3 Prod.snd e) X)<|Nat.lt_irrefl 3;rw[A1 λe:y=q.2.1=>L.elim (λv=>z (by decide:(1:Nat)<3)<|G.symm.trans<|by rw[e,v,(on n p u).b]) λF=>Q F e.symm,A1 λe:y=q.2.2/\p.lf=false=>(J e.2).elim (λv=>z (by decide:(2:Nat)<3)<|G.symm.trans<|by rw[e.1,v,(on n p u).c e.2]) λF=>O F e.1.symm];exact G
 refine⟨B H (.inr<|Au 3) (λF=>F.s) λF=>F.s,B I (.inr<|nL rfl) (λF=>F.d) λF=>F.d,λm l e=>?_⟩;by_cases g:m=n;subst g;rw[Aj] at e ⊢;obtain rfl:=Option.some.inj e;refine⟨?_,A5 rfl,λw=>(A1 (Y<|K.symm.trans w).symm).trans<|A5 ⟨rfl,K.symm.trans w⟩⟩;rw[M,A1 λe:(a m).1=q.2.1=>L.elim (λv=>by have:=(on m p u).a;rw[e,v,(on m p u).b] at this;cases this) λF=>F.a m p u e.symm,A1 λe:(a m).1=q.2.2/\p.lf=false=>(J e.2).elim (λv=>by have:=(on m p u).a;rw[e.1,v,(on m p u).c e.2] at this;cases this) λF=>F.a m p u e.1.symm];exact(on m p u).a;rw[Ay g] at e ⊢;exact⟨B (on m l e).a (.inl g) (λF=>F.a m l e) λF=>F.a m l e,B (on m l e).b (.inl g) (λF=>F.b m l e) λF=>F.b m l e,λA=>B ((on m l e).c A) (.inl g) (λF=>F.c m l e A) λF=>F.c m l e A⟩;by_cases g:m=n;exact g▸h.dm n p u;rw[Ay g] at e;exact h.dm m l e
def Uq{h:Type}{g:Int->h}(n:Int):upd g n (g n)=g:=funext λm=>by by_cases e:m=n;rw[e,Aj];exact Ay e
def C2(h:t[x]?=some c)(e:x≠y){c':Cell}:(t.set y c')[x]?=some c:=(List.getElem?_set_ne e.symm).trans h
def Gv(h:t[x]?=some c){e:Cell}:(t.set x e)[x]?=some e:=List.getElem?_set_self<|N0 h
def HT.ne(h:HT t s d r a f)(i:f n=some p):(a n).1≠(a n).2.1/\(p.lf=false->(a n).2.1≠(a n).2.2/\(a n).1≠(a n).2.2):=by obtain⟨o,_,_,on⟩:=h.own;have on:=on n p i;refine⟨λe=>?_,λg=>⟨λe=>?_,λe=>?_⟩⟩;have:=on.a;rw[e,on.b] at this;cases this;have:=on.b;rw[e,on.c g] at this;cases this;have:=on.a;rw[e,on.c g] at this;cases this
def HT.set1(h:HT t s d r a f)(u:f n=some p)(l:List D):HT (t.set (a n).2.1<|.lst<|l.map .d) s d r a<|upd f n<|some ⟨p.lf,l,p.cs⟩:=by have j:=h.lay n p u;have i:=h.ne u;have:=h.chg (σ':=t.set (a n).2.1<|.lst<|l.map .d) (p':=⟨p.lf,l,p.cs⟩) u (q:=a n) rfl (.inl rfl) rfl (λ_=>.inl rfl) (λg=>(i.2 g).1) (λx c e _ k _=>C2 e k) ⟨C2 j.a i.1,Gv j.b,λg=>C2 (j.c g) (i.2 g).1.symm⟩;rwa [Uq] at this
def HT.set2(h:HT t s d r a f)(u:f n=some p)(g:p.lf=false)(l:List D):HT (t.set (a n).2.2<|.lst<|l.map .d) s d r a<|upd f n<|some ⟨p.lf,p.xs,l⟩:=by have j:=h.lay n p u;have i:=(h.ne u).2 g;have:=h.chg (σ':=t.set (a n).2.2<|.lst<|l.map .d) (p':=⟨p.lf,p.xs,l⟩) u (q:=a n) rfl (.inl rfl) rfl (λ_=>.inl rfl) (λg=>i.1) (λx c e _ _ k=>C2 e<|k g) ⟨C2 j.a i.2,C2 j.b i.1,λg=>Gv<|j.c g⟩;rwa [Uq] at this
def HT.mov1(h:HT t s d r a f)(i:f n=some p)(F:Fr s d a f x){l:List D}(v:t[x]?=Lv l):HT (t.set (a n).1<|.lst<|(p.hd<|a n).set 1<|.loc x) s d r (upd a n ((a n).1,x,(a n).2.2))<|upd f n<|some ⟨p.lf,l,p.cs⟩:=by have j:=h.lay n p i;have u:=h.ne i;refine h.chg i rfl (.inr F) rfl (λ_=>.inl rfl) (λg=>F.c n p i g) (λx c e k _ _=>C2 e k) ⟨(Gv j.a).trans<|A3 (λl=>some<|Cell.lst l) ?_,C2 v<|F.a n p i,λg=>C2 (j.c g) (u.2 g).2.symm⟩;unfold Pag.hd;cases p.lf<;>rfl
def HT.mov2(h:HT t s d r a f)(i:f n=some p)(g:p.lf=false)(F:Fr s d a f x){l:List D}(v:t[x]?=Lv l):HT (t.set (a n).1<|.lst<|(p.hd<|a n).set 2<|.loc x) s d r (upd a n ((a n).1,(a n).2.1,x))<|upd f n<|some ⟨p.lf,p.xs,l⟩:=by have j:=h.lay n p i;have u:=h.ne i;refine h.chg i rfl (.inl rfl) rfl (λ_=>.inr F) (λg=>(F.b n p i).symm) (λx c e k _ _=>C2 e k) ⟨(Gv j.a).trans<|A3 (λl=>some<|Cell.lst l) ?_,C2 j.b u.1.symm,λg=>C2 v<|F.a n p i⟩;unfold Pag.hd;rw[g];rfl
open Classical in
def HT.add(h:HT t s d r a f)(L:f n=.none)(H:n∈B7){w:List (Int×V)}(I:t[d]?=some (.dct false w))(J:Dic w<|tb a f)(v:Lay t q p)(F:Fr s d a f q.1)(C:Fr s d a f q.2.1)(B:p.lf=false->Fr s d a f q.2.2)(G:q.1≠q.2.1)(A:p.lf=false->q.1≠q.2.2/\q.2.1≠q.2.2):HT (t.set d<|.dct false<|BX n (.loc q.1) w) s d r (upd a n q)<|upd f n<|some p:=by
 obtain⟨o,l,u,on⟩:=h.own;have d1:=J.set n<|.loc q.1;have E:s≠d:=λe=>by rw[e,u] at l;cases l
 refine⟨C2 h.inst E,⟨_,Gv I,d1.nod,λm=>(d1.look m).trans ?_⟩,λm i e=>?_,⟨λx=>if x=q.1 then(n,0) else if x=q.2.1 then(n,1) else if x=q.2.2/\p.lf=false then(n,2) else o x,?_⟩,λm i e=>?_⟩;unfold tb;by_cases e:m=n;rw[e,Aj,Aj,Aj];rfl;rw[Ay e,Ay e,Ay e];by_cases g:m=n;subst g;rw[Aj] at e ⊢;obtain rfl:=Option.some.inj e;exact⟨C2 v.a F.d,C2 v.b C.d,λg=>C2 (v.c g) (B g).d⟩;rw[Ay g] at e ⊢;refine(h.lay m i e).mono λx c ex k=>C2 ex λK=>?_;have:=((on m i e).mem k).2;rw[K,u] at this;exact absurd this (by decide);have j:∀{y:Nat}{z:Int×Nat},o y=z->(∀{x},Fr s d a f x->x≠y)->(if y=q.1 then(n,0) else if y=q.2.1 then(n,1) else if y=q.2.2/\p.lf=false then(n,2) else o y)=z:=λ{y z} e k=>by rw[A1 (k F).symm,A1 (k C).symm,A1 λe=>k (B e.2) e.1.symm];exact e
 refine⟨j l λF=>F.s,j u λF=>F.d,λm i e=>?_⟩;by_cases g:m=n;subst g;rw[Aj] at e ⊢;obtain rfl:=Option.some.inj e;exact⟨A5 rfl,(A1 G.symm).trans<|A5 rfl,λg=>(A1 (A g).1.symm).trans<|(A1 (A g).2.symm).trans<|A5 ⟨rfl,g⟩⟩;rw[Ay g] at e ⊢;exact⟨j (on m i e).a λF=>F.a m i e,j (on m i e).b λF=>F.b m i e,λg=>j ((on m i e).c g) λF=>F.c m i e g⟩;by_cases g:m=n;exact g▸H;rw[Ay g] at e;exact h.dm m i e
theorem HT.del(h:HT t s d r a f)(n:Int){v:List (Int×V)}(z:t[d]?=some (.dct false v))(A:Dic v<|tb a f):HT (t.set d<|.dct false<|Cd n v) s d r a<|upd f n .none:=by
 obtain⟨o,l,u,on⟩:=h.own;have d1:=A.del n;have w:s≠d:=λe=>by rw[e,u] at l;cases l
 have j:∀{m p},upd f n .none m=some p->f m=some p:=λ{m p} e=>by by_cases g:m=n;rw[g,Aj] at e;exact Ae e;rwa [Ay g] at e
 refine⟨C2 h.inst w,⟨_,Gv z,d1.nod,λm=>(d1.look m).trans ?_⟩,λm i e=>(h.lay m i<|j e).mono λx c ex k=>C2 ex λB=>?_,⟨o,l,u,λm i e=>on m i<|j e⟩,λm i e=>h.dm m i<|j e⟩;unfold tb;by_cases e:m=n;rw[e,Aj,Aj];rfl;rw[Ay e,Ay e];have:=((on m i<|j e).mem k).2;rw[B,u] at this;exact absurd this<|by decide
def HT.root(h:HT t s d r a f)(g:Int):HT (t.set s<|Hn d g) s d g a f:=by
 obtain⟨o,j,l,on⟩:=h.own;have u:d≠s:=λe=>by rw[e,j] at l;cases l
 refine⟨Gv h.inst,h.dic.imp λw e=>⟨C2 e.1 u,e.2⟩,λm i e=>(h.lay m i e).mono λx c ex k=>C2 ex λv=>?_,h.own,h.dm⟩;have:=((on m i e).mem k).2;rw[v,j] at this;exact absurd this<|by decide
end
section
variable{G:Gl}{d f:Fn}{K:Nat}{y c o:St}{r:R}{g σ' u:List Cell}{l xs':List (Str×V)}{e t:Expr}{C:List Expr}{p q A:Pos}{v w:V}{z:List V}{i:Nat}{s B:List (Str×V)}{a m:Str}{b:Bool}
def N1(k:(G.flds.contains a&&!M0 e)=true)(h:Ev G d K e y (.val<|.loc i) c)(hs:c.store[i]?=some (.inst s))(j:AJ a s=some w):Ev G d (K+1) (.Attribute e a p) y (.val w) c:=λn=>Bk k<|bnd (a:=(i,c)) (bnd (h n) rfl)<|bnd (a:=s) (by rw[hs];rfl)<|Aa j rfl
def EF{x:Pos}(k:true=Dh e x A C.length)(J:Ev G d K e y (.val<|.loc i) c)(hs:c.store[i]?=some (.inst s))(E:AJ m s=.none)(L:Sl G d K C c z ⟨l,g⟩)(j:g[i]?=some (.inst B))(H:AJ m G.meths=some f)(h:f.sh=true)(I:Cl G f K (.loc i::z) g r σ'):Ev G d (K+1) (.Call (.Attribute e m x) C [] A) y r ⟨l,σ'⟩:=λn=>by refine Bk k.symm<|bnd (bnd (J n) rfl)<|bnd (L n) ?_;show(if (KZ m c.store[i]?==M2 g[i]?)=true then M1 G _ i m z ⟨l,g⟩ g[i]? else .none)=_;rw[hs,j];show(if ((if (AJ m s).isNone=true then 3 else 0)==3)=true then _ else _)=_;rw[E];refine bnd H ?_;show cond f.sh _ _=_;rw[h];exact Aa (I n) rfl
def N2(k:(G.flds.contains a&&decide (s.length<8))=true)(h:Ev G d K e y (.val<|.loc i) ⟨l,g⟩)(hs:g[i]?=some (.inst s))(j:g.set i (.inst<|AS a v s)=σ'):To G d K (.Attribute e a p) v y ⟨l,σ'⟩:=λn=>by subst j;exact bnd (a:=(i,⟨l,g⟩)) (bnd (h n) rfl)<|bnd (a:=s) (by show IK g[i]?=_;rw[hs];rfl)<|Bk k rfl
def N3(h:Kp G d K (wants d<|.Attribute t a p) e y v c)(k:To G d K (.Attribute t a p) v c o):X1 G d K (.Assign [.Attribute t a p] e q) y .next o:=λn=>Aa (bnd (h n)<|k n) rfl
def Ur{x:Str}{i j:Int}(E:true=DD d x)(k:AJ x l=some (.d<|.int i))(h:Ev G d K e ⟨l,g⟩ (.val<|.d<|.int j) ⟨l,g⟩):X1 G d K (.AugAssign (.Name x p) .Add e q) ⟨l,g⟩ .next ⟨AS x (.d<|.int<|i+j) l,g⟩:=λn=>Aa (Bk E.symm<|bnd k<|bnd (a:=i) rfl<|Aa (bnd (bnd (h n) rfl) rfl) rfl) rfl
def Rn(G:Gl)(d:Fn)(K k:Nat)(l:List<|Str×V)(g:List Cell)(r:R)(σ':List Cell):Prop:=∃fl xs',(∀n,(AY G<|n+K).ex d (d.body.drop k) ⟨l,g⟩=some (fl,⟨xs',σ'⟩))/\M9 fl=r
def Bp{k:Nat}(E:true=decide (k<d.body.length))(h:X1 G d K (Bd d k) ⟨l,g⟩ .next ⟨xs',σ'⟩)(j:Rn G d K (k+1) xs' σ' r u):Rn G d (K+1) k l g r u:=by obtain⟨fl,x,j,H⟩:=j;refine⟨fl,x,λn=>?_,H⟩;rw[Mi E];exact bnd (h n)<|j n
def FZ{k:Nat}(j:true=decide (k<d.body.length))(h:X1 G d K (Bd d k) ⟨l,g⟩ (.ret r) ⟨xs',σ'⟩):Rn G d (K+1) k l g r σ':=⟨_,_,λn=>by rw[Mi j];exact bnd (h n) rfl,rfl⟩
def Jj{k:Nat}(h:d.body.drop k=[]):Rn G d (K+1) k l g (.val<|.d .none) g:=⟨.next,l,λn=>by rw[h];rfl,rfl⟩
def ER(j:z.length=f.params.length)(hs:f.sh=true)(h:Rn G f K 0 (f.params.zip z) g r σ'):Cl G f (K+1) z g r σ':=λn=>by obtain⟨fl,x,h,k⟩:=h;refine Ef j ?_;rw[hs];exact Aa (h n)<|by rw[k]
end
def F5:PyData.strOk "leaf" = true:=by decide +kernel
def GK:PyData.strOk "inner" = true:=by decide +kernel
section
variable{o:Fn}{K:Nat}{g:List Cell}{s d:Nat}{r:Int}{u:Int->BH}{f:BV}{n:Int}{p:Pag}{j y:List (Str×V)}{e i:Expr}{x v A B C:Pos}{a b:Nat}{z:Str}
noncomputable def Us(b:Bool):Str:=cond b "leaf" "inner"
def IY(H:HT g s d r u f)(hs:AA j y)(h:true=Cp (o.names.lookup z))(c:AJ z y=some (.loc s)):Ev gl o (K+2) (.Attribute (.Name z x) "pages" v) ⟨j,g⟩ (.val<|.loc d) ⟨j,g⟩:=N1 rfl (pn hs h c) H.inst rfl
def Ft(H:HT g s d r u f)(hs:AA j y)(h:true=Cp (o.names.lookup z))(c:AJ z y=some (.loc s)):Ev gl o (K+2) (.Attribute (.Name z x) "root" v) ⟨j,g⟩ (.val<|.d<|.int r) ⟨j,g⟩:=N1 rfl (pn hs h c) H.inst rfl
def f6(H:HT g s d r u f)(c:f n=some p):Ce g (.val<|.loc d) (.val<|.d<|.int n)=some (.loc (u n).1):=by obtain⟨l,k,h⟩:=H.dic;exact Jd k<|(h.look n).trans<|by unfold tb;rw[c];rfl
def F7(H:HT g s d r u f)(m:f n=some p)(hs:AA j y)(k:true=Cp (o.names.lookup z))(h:AJ z y=some (.loc s))(c:J4 i=.none)(l:Ev gl o (K+2) i ⟨j,g⟩ (.val<|.d<|.int n) ⟨j,g⟩):Ev gl o (K+3) (.Subscript (.Attribute (.Name z x) "pages" v) i A) ⟨j,g⟩ (.val<|.loc (u n).1) ⟨j,g⟩:=BI c (IY H hs k h) l<|f6 H m
def Gw{q:Nat}{l:List V}{k:Int}{w:V}(h:g[q]?=some (.lst l))(c:idx l k=some w):Ce g (.val<|.loc q) (.val<|.d<|.int k)=some w:=DM (show((J1<|.val<|.loc q).bind λn=>KE g[n]?)=_ from bnd (a:=q) rfl<|by rw[h];rfl)<|bnd (a:=k) rfl<|bnd (a:=l) (Br (a:=l) (by show EZ g[q]?=_;rw[h];rfl) rfl) c
def f7(H:HT g s d r u f)(c:f n=some p)(h:Ev gl o (K+1) e ⟨j,g⟩ (.val<|.loc (u n).1) ⟨j,g⟩):Ev gl o (K+2) (.Subscript e (.Constant (.int 0) a x) v) ⟨j,g⟩ (.val<|.d<|.str<|Us p.lf) ⟨j,g⟩:=iX h<|Gw (H.lay n p c).a<|by unfold Pag.hd;cases p.lf<;>rfl
def C3(H:HT g s d r u f)(c:f n=some p)(h:Ev gl o (K+1) e ⟨j,g⟩ (.val<|.loc (u n).1) ⟨j,g⟩):Ev gl o (K+2) (.Subscript e (.Constant (.int 1) a x) v) ⟨j,g⟩ (.val<|.loc (u n).2.1) ⟨j,g⟩:=iX h<|Gw (H.lay n p c).a<|by unfold Pag.hd;cases p.lf<;>rfl
def Dn(H:HT g s d r u f)(c:f n=some p)(k:p.lf=false)(h:Ev gl o (K+1) e ⟨j,g⟩ (.val<|.loc (u n).1) ⟨j,g⟩):Ev gl o (K+2) (.Subscript e (.Constant (.int 2) a x) v) ⟨j,g⟩ (.val<|.loc (u n).2.2) ⟨j,g⟩:=iX h<|Gw (H.lay n p c).a<|by unfold Pag.hd;rw[k];rfl
def EG{t:Str}{c:Bool}(H:HT g s d r u f)(l:f n=some p)(h:Ev gl o (K+1) e ⟨j,g⟩ (.val<|.loc (u n).1) ⟨j,g⟩)(k:PyData.strOk t=true)(m:decide (Us p.lf=t)=c):Tt gl o (K+3) (.Compare (.Subscript e (.Constant (.int 0) a x) v) [.Eq] [.Constant (.str t) b A] B) ⟨j,g⟩ c ⟨j,g⟩:=Af rfl (f7 H l h) (CZ k)<|Hh<|Gq m
def Ut{q:Nat}{l:List V}(h:g[q]?=some (.lst l)):E9 g "len" (.val<|.loc q)=some (.val<|.d<|.int l.length):=Aa (a:=l) (Br (a:=l) (by show EZ g[q]?=_;rw[h];rfl) rfl) rfl
def Ho(H:HT g s d r u f)(c:f n=some p)(k:∀m,Es gl (AY gl<|m+(K+2)) o "len" [.Subscript e (.Constant (.int 1) a x) v] ⟨j,g⟩=IJ (AY gl<|m+(K+2)) o "len" (.Subscript e (.Constant (.int 1) a x) v) ⟨j,g⟩)(h:Ev gl o (K+1) e ⟨j,g⟩ (.val<|.loc (u n).1) ⟨j,g⟩):Ev gl o (K+3) (.Call (.Name "len" A) [.Subscript e (.Constant (.int 1) a x) v] [] B) ⟨j,g⟩ (.val<|.d<|.int p.xs.length) ⟨j,g⟩:=by have:=BP (p:=B) (q:=A) k (C3 H c h)<|Ut (H.lay n p c).b;rwa [A4] at this
end
section
variable{g:List Cell}{s d:Nat}{r:Int}{o:Int->BH}{f:BV}{n:Int}{p:Pag}{q:BH}{m:Nat}
noncomputable def Uu(s a i:Nat):List<|Str×V:=[("self",.loc s),("page",.loc a),("n",.d<|.int i)]
theorem HT.len(H:HT g s d r o f){a:List (Int×V)}(h:Dic a<|tb o f):a.length<lim:=AO (h.len λn y e=>by unfold tb at e;cases hf:f n with|none=>rw[hf] at e;exact Ae e|some p=>exact H.dm n p hf)<|nL rfl
def HT.inn(H:HT g s d r o f){c:Bool}(a:(f n).isSome=c):G9 g (.val<|.d<|.int n) (.val<|.loc d)=some c:=by obtain⟨i,h,e⟩:=H.dic;exact Hg h<|by rw[e.look n];unfold tb;rw[Option.isSome_map];exact a
def f8(H:HT g s d r o f){a:Nat}(L:∀k:Nat,k<m->(f k).isSome=true)(h:f m=.none):∀(j i k:Nat),i+j=m->j<k->Wh gl JN 8 (CB<|Bd JN 1) (CA<|Bd JN 1) k ⟨Uu s a i,g⟩ ⟨Uu s a m,g⟩:=by
 intro j;induction j with
 |zero=>intro i k e c;subst e;cases k with|zero=>exact absurd c (Nat.lt_irrefl 0)|succ k=>exact Ji<|Kv (pR rfl rfl) (IY H .refl rfl rfl)<|H.inn<|by rw[Nat.add_zero] at h;rw[h];rfl
 |succ j l=>intro i k e c;cases k with|zero=>exact absurd c (Nat.not_lt_zero _)|succ k=>exact Mw (Kv (pR rfl rfl) (IY H .refl rfl rfl)<|H.inn<|L i<|e▸Nat.lt_add_of_pos_right (Nat.succ_pos j)) (xO<|Ur rfl rfl AN)<|l (i+1) k ((Nat.succ_add_eq_add_succ i j).trans e)<|Nat.lt_of_succ_lt_succ c
structure Least(f:BV)(m:Nat):Prop where
 low:∀k:Nat,k<m->(f k).isSome=true
 no:f m=.none
 dm:(m:Int)∈B7
def Least.lt(h:Least f m):m<1000:=by
 have k:∀i∈B7,i<1000:=by decide
 exact Bc.mp<|k _ h.dm
def Pn(H:HT g s d r o f)(L:Least f m)(j:Lay g q p)(F:Fr s d o f q.1)(t:Fr s d o f q.2.1)(l:p.lf=false->Fr s d o f q.2.2)(i:q.1≠q.2.1)(h:p.lf=false->q.1≠q.2.2/\q.2.1≠q.2.2):∃a,Cl gl JN 20 [.loc s,.loc q.1] g (.val<|.d<|.int m) a/\HT a s d r (upd o m q) (upd f m<|some p):=by obtain⟨k,e,c⟩:=H.dic;refine⟨_,ER rfl rfl<|Bp rfl (Ad (AK AN) rfl)<|Bp rfl (My<|Mine.U.up (nL rfl) (P:=λn=>whileLoop' (AY gl n) JN _ _ _ _=some _)<|f8 H L.low L.no m 0 1000 (Nat.zero_add m) L.lt)<|Bp rfl (FT (kR rfl rfl)<|Hd (σ':=g.set d<|.dct false<|BX m (.loc q.1) k) (IY H .refl rfl rfl) (pR rfl rfl) rfl ?_)<|FZ rfl<|Bo<|pR rfl rfl,H.add L.no L.dm e c j F t l i h⟩;rw[e];exact Bk (by rw[Gp,Ac<|H.len c];rfl) rfl
noncomputable def N4(s a:Nat)(k:Int)(i:Nat):List<|Str×V:=[("self",.loc s),("page",.loc a),("key",.d<|.key k),("i",.d<|.int i)]
def N5{c:Type}(l:List c){k:Nat}{x:c}(h:l[k]?=some x):idx l (k:Int)=some x:=by refine bnd (a:=k) ?_ h;unfold seqIndex?;rw[A1<|Int.not_lt.mpr<|Int.natCast_nonneg k,A5<|CN.mpr ⟨Ac<|Int.natCast_nonneg k,Ac<|Bc.mpr (List.getElem?_eq_some_iff.mp h).1⟩];rfl
def Dy{q:Nat}{l:List D}{k:Nat}{w:D}(h:g[q]?=Lv l)(a:l[k]?=some w):Ce g (.val<|.loc q) (.val<|.d<|.int k)=some (.d w):=Gw h<|N5 _<|by rw[CP,a];rfl
def Po{x y:Int}{c:Bool}(h:decide (x<=y)=c):E4 .LtE g (.val<|.d<|.key x) (.val<|.d<|.key y)=some c:=A3 some h
def ES{x y:Int}{c:Bool}(h:decide (x<y)=c):E4 .Lt g (.val<|.d<|.int x) (.val<|.d<|.int y)=some c:=A3 some h
def CX{x y:Int}{c:Bool}(h:decide (y<x)=c):E4 .Gt g (.val<|.d<|.int x) (.val<|.d<|.int y)=some c:=A3 some h
def Uv{x y:Int}{c:Bool}(h:decide (y<=x)=c):E4 .GtE g (.val<|.d<|.int x) (.val<|.d<|.int y)=some c:=A3 some h
def f9(H:HT g s d r o f)(l:f n=some p){k:Int}{A B:List Int}(w:p.xs=(A++B).map .key)(L:∀a∈A,a<=k)(J:∀b∈B.head?,k<b):∀(j i c:Nat),i+j=A.length->j<c->Wh gl HZ 12 (CB<|Bd HZ 1) (CA<|Bd HZ 1) c ⟨N4 s (o n).1 k i,g⟩ ⟨N4 s (o n).1 k A.length,g⟩:=by
 have v:∀{i K:Nat},∀{G E C z y:Pos}{a:Nat},Ev gl HZ (K+3) (.Call (.Name "len" C) [.Subscript (.Name "page" y) (.Constant (.int 1) a G) E] [] z) ⟨N4 s (o n).1 k i,g⟩ (.val<|.d<|.int p.xs.length) ⟨N4 s (o n).1 k i,g⟩:=Ho H l (λ_=>rfl)<|pR rfl rfl;have u:p.xs.length=A.length+B.length:=by rw[w,A4,A9]
 have x:∀{i:Nat}{a:Int},(A++B)[i]?=some a->p.xs[i]?=some (.key a):=λe=>by rw[w,CP,e];rfl
 intro j;induction j with
 |zero=>intro i c e t;obtain rfl:i=A.length:=e;cases c with|zero=>exact absurd t (Nat.lt_irrefl 0)|succ c=>cases B with|nil=>exact Ji (CQ<|FR<|Af rfl (pR rfl rfl) v<|ES<|decide_eq_false<|by rw[u];exact Int.lt_irrefl _)|cons b B=>exact Ji<|CQ<|Dk (Af rfl (pR rfl rfl) v<|ES<|Ac<|by rw[u];exact Bc.mpr<|Nat.lt_add_of_pos_right<|Nat.succ_pos _)<|Dm<|Af rfl (BI rfl (C3 H l<|pR rfl rfl) (pR rfl rfl)<|Dy (H.lay n p l).b<|x (a:=b)<|by rw[List.getElem?_append_right<|Au _,Nat.sub_self];rfl) (pR rfl rfl)<|Po<|decide_eq_false<|Int.not_le.mpr<|J b rfl
 |succ j I=>intro i c e t;have h:i<A.length:=e▸Nat.lt_add_of_pos_right (Nat.succ_pos j);cases c with|zero=>exact absurd t (Nat.not_lt_zero _)|succ c=>exact Mw (CQ<|Dk (Af rfl (pR rfl rfl) v<|ES<|Ac<|by rw[u];exact Bc.mpr<|Be h<|BA _ _)<|Dm<|Af rfl (BI rfl (C3 H l<|pR rfl rfl) (pR rfl rfl)<|Dy (H.lay n p l).b<|x (a:=A[i])<|by rw[List.getElem?_append_left h,Cv h]) (pR rfl rfl)<|Po<|Ac<|L _<|List.getElem_mem h) (xO<|Ur rfl rfl AN)<|I (i+1) c ((Nat.succ_add_eq_add_succ i j).trans e)<|Nat.lt_of_succ_lt_succ t
def fA(H:HT g s d r o f)(h:f n=some p){k:Int}{A B:List Int}(c:p.xs=(A++B).map .key)(j:∀a∈A,a<=k)(i:∀b∈B.head?,k<b)(e:A.length<1000):Cl gl HZ 20 [.loc s,.loc (o n).1,.d<|.key k] g (.val<|.d<|.int A.length) g:=ER rfl rfl<|Bp rfl (Ad (AK AN) rfl)<|Bp rfl (My<|Mine.U.up (nL rfl) (P:=λn=>whileLoop' (AY gl n) HZ _ _ _ _=some _)<|f9 H h c j i A.length 0 1000 (Nat.zero_add _) e)<|FZ rfl<|Bo<|pR rfl rfl
end
noncomputable def Ar(l:List<|Int×Str):Pag:=⟨true,l.map AQ,[]⟩
noncomputable def AU(a c:List Int):Pag:=⟨false,a.map .key,c.map .int⟩
noncomputable def C5(k:Int)(v:Str)(l:List<|Int×Str):List<|Int×Str:=C8 (·.1)<|BX k v l
noncomputable def sV(v:Str):V:=.d<|.str v
section
variable{i:List Cell}{s d:Nat}{r:Int}{j o z:Int->BH}{f B:BV}{n:Int}{p:Pag}{q x:Nat}{t A:List (Str×V)}{K:Nat}{u:Fn}{e:Expr}
def fB(l:List<|Int×Str):IB true (l.map<|vm sV)=some (l.map AQ):=by induction l with|nil=>rfl|cons p r c=>exact bnd (a:=.str p.2) rfl<|Aa c rfl
def fC(l:List<|Int×Str):IA true ((l.map AQ).map V.d)=some (l.map<|vm sV):=by induction l with|nil=>rfl|cons p r c=>exact bnd (a:=AQ p) rfl<|bnd (a:=((true,p.1),.str p.2)) rfl<|Bk rfl<|Aa c rfl
def Pp(l:List<|Int×Str):IA (E5<|(l.map AQ).map V.d) ((l.map AQ).map V.d)=some (l.map<|vm sV):=by cases l with|nil=>rfl|cons p r=>exact fC<|p::r
def Pq(l:List<|Int×Str){k:Int}:Ea (E5<|(l.map AQ).map V.d) (l.map<|vm sV) (true,k)=true:=by cases l with|nil=>rfl|cons p r=>rfl
def Uw{l:List (Int×Str)}(h:(l.map (·.1)).Nodup)(a:l.length<64):EL (l.map AQ)=some ((C8 (·.1) l).map AQ):=UG (c:=true) (λ_=>rfl) (λ_=>rfl) h a
def Ux{c:Type}(l:List c)(a b:c):(l++[a]).set l.length b=l++[b]:=by rw[List.set_append_right _ _<|Au _,Nat.sub_self];rfl
def Db{c:Type}(l:List c)(a:c):(l++[a])[l.length]?=some a:=List.getElem?_concat_length
def Uy{a:Type}(k:Int)(v:a)(l:List<|Int×a):(BX k v l).length<=l.length+1:=by have h:=A3 List.length<|L3 k v l;rw[A4] at h;rw[h];by_cases e:k∈l.map (·.1);rw[A5 e,A4];exact Nat.le_succ _;rw[A1 e,A9,A4];exact Au _
def L6{a:Type}{k:Int}{v:a}{l:List (Int×a)}(h:(l.map (·.1)).Nodup):((BX k v l).map (·.1)).Nodup:=((⟨h,λ_=>rfl⟩:Dic l λn=>AX n l).set k v).nod
def Dz(f:BV)(j o:Int->BH):Prop:=∀n p,f n=some p->(o n).1=(j n).1
def Dz.upd1{x:BH}(h:x.1=(j n).1):Dz f j<|upd j n x:=λm p _=>by by_cases e:m=n;rw[e,Aj,h];rw[Ay e]
def Uz{g:List Cell}{w:Nat}{q:BH}{a:Nat}{m l:Pos}(y:i[w]?=some (.lst<|p.hd q))(h:Ev gl u (K+1) e ⟨t,i⟩ (.val<|.loc w) ⟨t,i⟩)(v:i.set w (.lst<|(p.hd q).set 1<|.loc x)=g):To gl u (K+1) (.Subscript e (.Constant (.int 1) a m) l) (.loc x) ⟨t,i⟩ ⟨t,g⟩:=Hd h AN (k:=(false,1)) rfl<|by rw[y];exact Ef (c:=(decide ((0:Int)<=1)&&decide (1<(p.hd q).length))=true) (by unfold Pag.hd;cases p.lf<;>rfl)<|A3 some v
def Pr{c:List Cell}{a:Nat}{k g:Pos}(H:HT i s d r j f)(m:f n=some p)(h:Ev gl u (K+1) e ⟨t,i⟩ (.val<|.loc (j n).1) ⟨t,i⟩)(l:i.set (j n).1 (.lst<|(p.hd<|j n).set 1<|.loc x)=c):To gl u (K+1) (.Subscript e (.Constant (.int 1) a k) g) (.loc x) ⟨t,i⟩ ⟨t,c⟩:=Uz (H.lay n p m).a h l
def fD{l:List Cell}{a:Nat}{v m:Pos}(H:HT i s d r j f)(y:f n=some p)(g:p.lf=false)(h:Ev gl u (K+1) e ⟨t,i⟩ (.val<|.loc (j n).1) ⟨t,i⟩)(w:i.set (j n).1 (.lst<|(p.hd<|j n).set 2<|.loc x)=l):To gl u (K+1) (.Subscript e (.Constant (.int 2) a v) m) (.loc x) ⟨t,i⟩ ⟨t,l⟩:=Hd h AN (k:=(false,2)) rfl<|by rw[(H.lay n p y).a];exact Ef (c:=(decide ((0:Int)<=2)&&decide (2<(p.hd<|j n).length))=true) (by unfold Pag.hd;rw[g];rfl)<|A3 some w
def V0{l:List D}{a b:Option Int}(h:i[q]?=Lv l):Eb i (.val<|.loc q) a b=some (.fresh<|slc (l.map V.d) a b):=Br (a:=l.map V.d) (by show EZ i[q]?=_;rw[h];rfl) rfl
def Ps{a:Type}(l:List a)(k:Nat):slc l (some (k:Int)) .none=l.drop k:=by show(l.take l.length).drop (E2 l.length k)=_;rw[List.take_length];unfold E2;rw[A5<|Int.natCast_nonneg k,Int.toNat_natCast];rcases Nat.le_total k l.length with h|h;rw[Nat.min_eq_left h];rw[Nat.min_eq_right h,List.drop_length,List.drop_of_length_le h]
def Pu{l:List D}(k:Nat)(h:i[q]?=Lv l):Eb i (.val<|.loc q) .none (some (k:Int))=some (.fresh<|(l.take k).map V.d):=by rw[V0 h,Jf,List.map_take]
def Pv{l:List D}(k:Nat)(h:i[q]?=Lv l):Eb i (.val<|.loc q) (some (k:Int)) .none=some (.fresh<|(l.drop k).map V.d):=by rw[V0 h,Ps,List.map_drop]
noncomputable def L7(s:Nat)(n k:Int)(v:Str)(a:Nat):List<|Str×V:=[("self",.loc s),("n",.d<|.int n),("key",.d<|.key k),("value",.d<|.str v),("page",.loc a)]
noncomputable def Pw:List Stmt:=CA<|Bd Ey 1
def V1{k:Int}{v:Str}{l:List (Int×Str)}(H:HT i s d r j f)(c:f n=some (Ar l))(w:(l.map (·.1)).Nodup)(y:l.length<60):∃σ' o,HT σ' s d r o (upd f n<|some<|Ar<|C5 k v l)/\Dz f j o/\∀{K fl g},Ex gl Ey (K+20) (Pw.drop 3) ⟨L7 s n k v (o n).1++[(("d" : Str),V.loc i.length)],σ'⟩ fl g->Ex gl Ey (K+23) Pw ⟨L7 s n k v (j n).1,i⟩ fl g:=by have I:=H.app [Cell.dct (E5<|(l.map AQ).map V.d)<|DC<|l.map<|vm sV];have E:=H.app [Cell.dct true<|(BX k v l).map<|vm sV];have C:=E.app [Cell.lst<|((C5 k v l).map AQ).map V.d];have G:=E.fr<|Au _;refine⟨_,_,C.mov1 c G<|Db _ _,Dz.upd1 rfl,λ{K fl g} m=>?_⟩;have h:(BX k v l).length<64:=AO (Uy k v l)<|AM (Cc y)<|nL rfl;refine BR (Ad (AK<|Ks (λ_=>rfl) (C3 H c<|pR rfl rfl) (by show EZ i[(j n).2.1]?=_;rw[(H.lay n _ c).b];rfl)<|Pp l) rfl) ?_;refine BR (FT (kR rfl rfl)<|Hd (k:=(true,k)) (σ':=i++[Cell.dct true<|(BX k v l).map<|vm sV]) (pR rfl rfl) (pR rfl rfl) rfl ?_) (BR (FT (Cq (PD (λ_=>rfl) (pR rfl rfl) (dd:=(true,(BX k v l).map<|vm sV)) (bnd (a:=i.length) rfl<|by rw[Db];rfl) (fB _)<|Uw (L6 w) h) rfl)<|Pr C c (pR rfl rfl) rfl) ?_);rw[Db];show(if (Ea _ (DC<|l.map<|vm sV) (true,k)&&decide ((DC<|l.map<|vm sV).length<lim))=true then some ((i++[_]).set i.length<|.dct true<|BX k (sV v)<|DC<|l.map<|vm sV) else .none)=_;rw[Ux,Ja w,Pq,A4,Ac<|AM y (by decide:60<lim),PK];rfl;rw[Aj] at m;exact m
end
def F8{c:Type}{g:Int->c}{n:Int}{a b:c}:upd (upd g n a) n b=upd g n b:=funext λm=>by by_cases e:m=n;rw[e,Aj,Aj];rw[Ay e,Ay e,Ay e]
section
variable{o:List Cell}{s d:Nat}{r:Int}{j i u:Int->BH}{f t w:BV}{n k:Int}{p p':Pag}{q x m:Nat}{K:Nat}{v:Str}{l:List (Int×Str)}
def Fr.upd1{y:BH}(F:Fr s d j f x)(A:x≠y.1)(z:x≠y.2.1)(h:p'.lf=false->x≠y.2.2):Fr s d (upd j n y) (upd f n<|some p') x:=by refine⟨F.s,F.d,λm p e=>?_,λm p e=>?_,λm p e=>?_⟩<;>by_cases g:m=n;rw[g,Aj];exact A;rw[Ay g] at e ⊢;exact F.a m p e;rw[g,Aj];exact z;rw[Ay g] at e ⊢;exact F.b m p e;rw[g,Aj] at e ⊢;obtain rfl:=Option.some.inj e;exact h;rw[Ay g] at e ⊢;exact F.c m p e
def Least.upd1(L:Least f m)(c:f n=some p):Least (upd f n<|some p') m:=by refine⟨λk a=>?_,?_,L.dm⟩;by_cases e:(k:Int)=n;rw[e,Aj];rfl;rw[Ay e];exact L.low k a;rw[Ay λe=>by have:=L.no;rw[e,c] at this;cases this];exact L.no
def Dz.mov{b c:Nat}(h:Dz f j i):Dz f j<|upd i n ((i n).1,b,c):=λm p e=>by by_cases g:m=n;rw[g,Aj];exact h n p<|g▸e;rw[Ay g];exact h m p e
def Dz.add{x:BH}(h:Dz f j i)(a:f n=.none):Dz f j<|upd i n x:=λm p e=>by rw[Ay λg=>by rw[g,a] at e;cases e];exact h m p e
inductive PutR(K:Nat)(o:List Cell)(s d:Nat)(r:Int)(j:Int->BH)(f:BV)(n k:Int)(v:Str)(res:D)(t:BV):Prop where
 |mk (σ':List Cell) (i:Int->BH):Cl gl Ey K [.loc s,.d (.int n),.d (.key k),.d (.str v)] o (.val (.d res)) σ'->HT σ' s d r i t->Dz f j i->PutR K o s d r j f n k v res t
def V2(H:HT o s d r j f)(c:f n=some (Ar l))(h:(l.map (·.1)).Nodup)(y:l.length<60)(z:(C5 k v l).length<=4):PutR 40 o s d r j f n k v .none<|upd f n<|some<|Ar<|C5 k v l:=by obtain⟨a,i,e,S,g⟩:=V1 (k:=k) (v:=v) H c h y;refine⟨a,i,ER rfl rfl<|Bp rfl (Ad (AK<|F7 H c .refl rfl rfl rfl<|pR rfl rfl) rfl)<|FZ rfl<|B4 (EG H c (pR rfl rfl) F5 rfl)<|g<|BR (Av (Af rfl (Ho e Aj (λ_=>rfl)<|pR rfl rfl) AN<|CX<|decide_eq_false ?_) Bh)<|Eg<|Bo JX,e,S⟩;show ¬(4:Int)<(((C5 k v l).map AQ).length:Nat);rw[A4];exact λq=>absurd (Bc.mp q)<|Nat.not_lt.mpr z
def Px{a b e:Int×Str}{R:List (Int×Str)}(H:HT o s d r j f)(E:f n=some (Ar l))(X:(l.map (·.1)).Nodup)(Y:l.length<60)(Z:C5 k v l=a::b::e::R)(h4:1<R.length)(L:Least f m):PutR 40 o s d r j f n k v (.tup [.key e.1,.int m])<|upd (upd f n<|some<|Ar [a,b]) m<|some<|Ar<|e::R:=by
 obtain⟨c,g,z,S,T⟩:=V1 (k:=k) (v:=v) H E X Y;rw[Z] at z;have h:upd f n (some<|Ar<|a::b::e::R) n=some (Ar<|a::b::e::R):=Aj;have G:=z.app [Cell.lst<|((e::R).map AQ).map V.d];have J:=z.fr<|Au c.length;have N:=G.app [Cell.lst<|([a,b].map AQ).map V.d];have C:=N.mov1 h (G.fr<|Au _)<|Db _ _;rw[F8] at C;have Q:c.length≠(c++[Cell.lst<|((e::R).map AQ).map V.d]).length:=by rw[A9];exact Nat.ne_of_lt<|CY _
 have F4:Fr s d (upd g n ((g n).1,(c++[Cell.lst<|((e::R).map AQ).map V.d]).length,(g n).2.2)) (upd f n<|some<|Ar [a,b]) c.length:=by have:=J.upd1 (n:=n) (p':=Ar [a,b]) (y:=((g n).1,(c++[Cell.lst<|((e::R).map AQ).map V.d]).length,(g n).2.2)) (J.a n _ h) Q λe=>nomatch e;rwa [F8] at this
 have I:=C2 (c':=.lst<|((Ar<|a::b::e::R).hd<|g n).set 1<|.loc (c++[Cell.lst<|((e::R).map AQ).map V.d]).length) (Da [Cell.lst<|([a,b].map AQ).map V.d]<|Db c<|Cell.lst<|((e::R).map AQ).map V.d)<|J.a n _ h;generalize B:((c++[Cell.lst<|((e::R).map AQ).map V.d])++[Cell.lst<|([a,b].map AQ).map V.d]).set (g n).1 _=σ4 at C I;have M:=C.app [Cell.lst [.d<|.str "leaf",.loc c.length]];obtain⟨A,c6,H6⟩:=Pn (q:=(σ4.length,c.length,0)) (p:=Ar<|e::R) M (L.upd1 E) ⟨Db _ _,Da _ I,λe=>nomatch e⟩ (C.fr<|Au _) F4 (λe=>nomatch e) (λq=>absurd (N0 I)<|Nat.not_lt.mpr<|BB q) λe=>nomatch e;have O:Ex gl Ey 30 (CA<|at' Pw 3) ⟨L7 s n k v (g n).1++[(("d" : Str),V.loc o.length)],c⟩ (.ret<|.val<|.d<|.tup [.key e.1,.int m]) ⟨L7 s n k v (g n).1++[(("d" : Str),V.loc o.length),("rest",.loc c.length)],A⟩:=BR (Ad (Cq (Bx (C3 z h<|pR rfl rfl) (Bs AN) (λ_=>C0)<|Pv 2 (z.lay n _ h).b) rfl) rfl) (BR (FT (Cq (Bx (C3 G h<|pR rfl rfl) (λ_=>C0) (Bs AN)<|Pu 2 (G.lay n _ h).b) rfl)<|Pr N h (pR rfl rfl) B)<|Eg<|Bo<|BU (vs:=[.d<|.key e.1,.d<|.int m]) (sK (iX (iX (pR rfl rfl)<|Dy (k:=0) I rfl) rfl)<|sZ<|EF rfl (pR rfl rfl) C.inst rfl (CD (Cq (Bt (sK (CZ F5)<|sO rfl rfl) rfl) rfl) CC) M.inst rfl rfl<|c6.u rfl) rfl<|by decide);refine⟨A,_,ER rfl rfl<|Bp rfl (Ad (AK<|F7 H E .refl rfl rfl rfl<|pR rfl rfl) rfl)<|FZ rfl<|B4 (EG H E (pR rfl rfl) F5 rfl)<|T<|Eg<|B4 (Af rfl (Ho z h (λ_=>rfl)<|pR rfl rfl) AN<|CX<|Ac ?_)<|O.up<|nL rfl,H6,S.mov.add L.no⟩;show(4:Int)<(((a::b::e::R).map AQ).length:Nat);rw[A4];exact Bc.mpr<|Cc<|Cc<|Cc h4
end
section
variable{g σ':List Cell}{s d:Nat}{r:Int}{w o J:Int->BH}{f L G:BV}{n k c:Int}{p X:Pag}{q x m:Nat}{K:Nat}{v:Str}{z:Fn}{e N M:Expr}{t:List (Str×V)}{T S Q O y:Pos}{a:Nat}
def fE{h:Type}(A B:List h)(x:h):II (A++B) A.length x=A++x::B:=by unfold II;rw[List.take_left',List.drop_left']<;>rfl
def fF{A B:List D}{x:D}{i:Int}(u:i=(A.length:Int))(h:A.length+B.length<1000):J6 g q ((A++B).map V.d) "insert" [.d<|.int i,.d x]=some (.val<|.d .none,g.set q<|.lst<|(A++x::B).map V.d):=by
 subst u;have l:((A++B).map V.d).length=A.length+B.length:=by rw[A4,A9]
 have j:=fE (A.map V.d) (B.map V.d)<|V.d x;rw[A4,<-AF] at j;refine(A1<|by decide).trans<|(A5 rfl).trans<|bnd (a:=(V.d<|.int A.length,V.d x)) rfl<|bnd (a:=(A.length:Int)) rfl<|Bk (CN.mpr ⟨CN.mpr ⟨Ac<|Int.natCast_nonneg _,Ac ?_⟩,Ac ?_⟩) ?_;exact BS<|AO (BA _ _)<|AM h<|nL rfl;rw[l];exact AM h<|nL rfl;show some (R.val<|.d .none,g.set q<|.lst<|II ((A++B).map V.d) (min (A.length:Int).toNat ((A++B).map V.d).length)<|V.d x)=_;rw[l,Int.toNat_natCast,Nat.min_eq_left<|BA _ _,j,<-List.map_cons,<-AF]
def L8{A B l j:List D}{x:D}{i:Int}(h:true=Dh e O y 2)(I:Ev gl z K e ⟨t,g⟩ (.val<|.loc q) ⟨t,g⟩)(h0:g[q]?=Lv j)(Z:Ev gl z K N ⟨t,g⟩ (.val<|.d<|.int i) ⟨t,g⟩)(Y:Ev gl z K M ⟨t,g⟩ (.val<|.d x) ⟨t,σ'⟩)(C:σ'[q]?=Lv (A++B))(H:i=(A.length:Int))(E:A.length+B.length<1000)(u:A++x::B=l):X1 gl z (K+1) (.Expr (.Call (.Attribute e "insert" O) [N,M] [] y) Q) ⟨t,g⟩ .next ⟨t,σ'.set q<|.lst<|l.map V.d⟩:=u▸Gm rfl (Kt h I h0 (sK Z<|sZ Y) C<|fF H E)
structure Inn(f:BV)(n k:Int)(A B C E:List Int)(c:Int):Prop where
 pg:f n=some (AU (A++B) (C++c::E))
 len:C.length=A.length
 low:∀a∈A,a<=k
 high:∀b∈B.head?,k<b
 sm:A.length+B.length<100
 smc:C.length+E.length<100
variable{A B C E:List Int}
def mid{i:Type}{A B:List i}{c:i}{m:Nat}(h:A.length=m):(A++c::B)[m]?=some c:=by rw[<-h,List.getElem?_append_right<|Au _,Nat.sub_self];rfl
def Inn.child(I:Inn f n k A B C E c)(H:HT g s d r w f):Cl gl HZ 20 [.loc s,.loc (w n).1,.d<|.key k] g (.val<|.d<|.int A.length) g:=fA H I.pg rfl I.low I.high<|AO (BA _ _)<|AM I.sm<|nL rfl
def Inn.at(I:Inn f n k A B C E c):(AU (A++B)<|C++c::E).cs[A.length]?=some (.int c):=by show((C++c::E).map D.int)[A.length]?=_;rw[CP,mid I.len];rfl
noncomputable def L9(s:Nat)(n k:Int)(v:Str)(a i:Nat)(u:D):List<|Str×V:=L7 s n k v a++[(("i" : Str),V.d<|.int i),("up",.d u)]
def Py{u h:D}(hc:PutR (K+20) g s d r w f c k v u G)(H:HT g s d r w f)(I:Inn f n k A B C E c)(hk:∀l i,HT l s d r i G->∃σ' o,Rn gl Ey (K+21) 4 (L9 s n k v (i n).1 A.length u) l (.val<|.d h) σ'/\HT σ' s d r o L/\Dz f i o):PutR (K+30) g s d r w f n k v h L:=by obtain⟨l,i,h1,H1,Z⟩:=hc;obtain⟨σ',o,Y,H2,S2⟩:=hk l i H1;rw[Z n _ I.pg] at Y;have h3:Cl gl Ey (K+26) [.loc s,.d<|.int n,.d<|.key k,.d<|.str v] g (.val<|.d h) σ':=ER rfl rfl<|Bp rfl (Ad (AK<|F7 H I.pg .refl rfl rfl rfl<|pR rfl rfl) rfl)<|Bp rfl (Av (EG H I.pg (pR rfl rfl) F5 rfl) Bh)<|Bp rfl (Ad (AK<|EF rfl (pR rfl rfl) H.inst rfl (sR rfl rfl<|sO rfl rfl) H.inst rfl rfl<|(I.child H).up<|Nat.le_add_left 20<|K+1) rfl)<|Bp rfl (Ad (AK<|EF rfl (pR rfl rfl) H.inst rfl (sK (BI rfl (Dn H I.pg rfl<|pR rfl rfl) (pR rfl rfl)<|Dy ((H.lay n _ I.pg).c rfl) I.at)<|sR rfl rfl<|sO rfl rfl) H.inst rfl rfl h1) rfl) Y;exact⟨σ',o,h3.up<|BW (nL rfl) K,H2,λj q e=>(S2 j q e).trans<|Z j q e⟩
def V3(j:PutR (K+20) g s d r w f c k v .none G)(H:HT g s d r w f)(I:Inn f n k A B C E c):PutR (K+30) g s d r w f n k v .none G:=Py j H I λh i l=>⟨h,i,Bp rfl (Av (Fq (λ_=>rfl) (pR rfl rfl) rfl) Bh)<|FZ rfl<|Bo JX,l,λ_ _ _=>rfl⟩
end
section
variable{j:List Cell}{s d:Nat}{r:Int}{h:Int->BH}{f e:BV}{n k c k2:Int}{m m2:Nat}{K:Nat}{v:Str}{A B C E:List Int}
noncomputable def Pz:List Stmt:=CA<|Bd Ey 4
def IZ{a i:Type}(g:a->i)(A:List a)(x:a)(B:List a):A.map g++g x::B.map g=(A++x::B).map g:=by rw[AF];rfl
def fG(C E:List Int)(c m:Int):(C++[c]).map D.int++.int m::E.map D.int=(C++c::m::E).map .int:=by rw[IZ,AD];rfl
def fH(C E:List Int)(c:Int):(C++c::E).map D.int=(C++[c]).map D.int++E.map D.int:=by rw[<-AF,AD];rfl
def V4(I:Inn f n k A B C E c)(a:e n=some (AU (A++B)<|C++c::E))(o:HT j s d r h e):∃g,HT g s d r h (upd e n<|some<|AU (A++k2::B)<|C++c::(m:Int)::E)/\∀{K fl p},Ex gl Ey (K+10) (Pz.drop 2) ⟨L9 s n k v (h n).1 A.length<|.tup [.key k2,.int m],g⟩ fl p->Ex gl Ey (K+12) Pz ⟨L9 s n k v (h n).1 A.length<|.tup [.key k2,.int m],j⟩ fl p:=by have l:=o.set1 a<|(A++k2::B).map .key;have q:=l.set2 Aj rfl<|(C++c::(m:Int)::E).map .int;rw[F8] at q;refine⟨_,q,λ{K fl p} t=>BR (L8 (A:=A.map .key) (B:=B.map .key) rfl (C3 o a<|pR rfl rfl) (o.lay n _ a).b (pR rfl rfl) (iX (pR rfl rfl) rfl) ((o.lay n _ a).b.trans<|A3 Lv AF) (by rw[A4]) (by rw[A4,A4];exact AM I.sm<|nL rfl)<|IZ ..)<|BR (L8 (i:=A.length+1) (A:=(C++[c]).map .int) (B:=E.map .int) rfl (Dn l Aj rfl<|pR rfl rfl) ((l.lay n _ Aj).c rfl) (Ak (pR rfl rfl) AN rfl) (iX (pR rfl rfl) rfl) (((l.lay n _ Aj).c rfl).trans<|A3 Lv<|fH ..) ?_ ?_<|fG ..) t⟩;rw[A4,A9,I.len];rfl;rw[A4,A4,A9,DB];exact AO (Nat.succ_le_of_lt I.smc)<|nL rfl
def V5(t:PutR (K+20) j s d r h f c k v (.tup [.key k2,.int m]) e)(H:HT j s d r h f)(I:Inn f n k A B C E c)(i:e n=some (AU (A++B)<|C++c::E))(u:(A++k2::B).length<=4):PutR (K+30) j s d r h f n k v .none<|upd e n<|some<|AU (A++k2::B)<|C++c::(m:Int)::E:=Py t H I λo g w=>by obtain⟨a,l,p⟩:=V4 (k2:=k2) (m:=m) (v:=v) I i w;refine⟨a,g,Bp rfl (B4 (Fq (λ_=>rfl) (pR rfl rfl) rfl)<|p<|xO<|Av (Af rfl (Ho l Aj (λ_=>rfl)<|pR rfl rfl) AN<|CX<|decide_eq_false ?_) Bh)<|FZ rfl<|Bo JX,l,λ_ _ _=>rfl⟩;show ¬(4:Int)<(((A++k2::B).map D.key).length:Nat);rw[A4];exact λq=>absurd (Bc.mp q)<|Nat.not_lt.mpr u
def fJ{x1 x2 x3 y1 y2 y3:Int}{Rk Tc:List Int}(hc:PutR (K+20) j s d r h f c k v (.tup [.key k2,.int m]) e)(H:HT j s d r h f)(I:Inn f n k A B C E c)(J:e n=some (AU (A++B)<|C++c::E))(hk:A++k2::B=x1::x2::x3::Rk)(hy:C++c::(m:Int)::E=y1::y2::y3::Tc)(h4:1<Rk.length)(L:Least e m2)(L':f m2=.none)(hK:20<=K):PutR (K+30) j s d r h f n k v (.tup [.key x3,.int m2])<|upd (upd e n<|some<|AU [x1,x2] [y1,y2,y3]) m2<|some<|AU Rk Tc:=
 Py hc H I λa3 g H1=>by
  obtain⟨i,t,hx⟩:=V4 (k2:=k2) (m:=m) (v:=v) I J H1;rw[hk,hy] at t;have l:upd e n (some<|AU (x1::x2::x3::Rk)<|y1::y2::y3::Tc) n=some (AU (x1::x2::x3::Rk)<|y1::y2::y3::Tc):=Aj;have T:=t.ne l;have x:=T.2 rfl;have H4:=t.app [Cell.lst<|([x1,x2].map D.key).map V.d];have Q:=H4.app [Cell.lst<|([y1,y2,y3].map D.int).map V.d];have F3:=t.fr<|Au i.length;have S:=H4.fr<|Au _;have O:=Q.mov1 l F3<|Da _<|Db _ _;have F6:=S.upd1 (n:=n) (p':=⟨false,[x1,x2].map .key,(y1::y2::y3::Tc).map .int⟩) (y:=((g n).1,i.length,(g n).2.2)) (S.a n _ l) (by rw[A9];exact Nat.ne_of_gt<|CY _) λ_=>S.c n _ l rfl;have C6:=C2 (c':=.lst<|((AU (x1::x2::x3::Rk)<|y1::y2::y3::Tc).hd<|g n).set 1<|.loc i.length) (Db (i++[Cell.lst<|([x1,x2].map D.key).map V.d])<|Cell.lst<|([y1,y2,y3].map D.int).map V.d)<|S.a n _ l;have D6:=C2 (c':=.lst<|((AU (x1::x2::x3::Rk)<|y1::y2::y3::Tc).hd<|g n).set 1<|.loc i.length) (Q.lay n _ l).b T.1.symm;have E6:=C2 (c':=.lst<|((AU (x1::x2::x3::Rk)<|y1::y2::y3::Tc).hd<|g n).set 1<|.loc i.length) ((Q.lay n _ l).c rfl) x.2.symm;rw[F8] at O F6;generalize z:(i++_++_).set (g n).1 _=σ6 at O C6 D6 E6;have G:upd e n (some (⟨false,[x1,x2].map .key,(y1::y2::y3::Tc).map .int⟩:Pag)) n=some ⟨false,[x1,x2].map .key,(y1::y2::y3::Tc).map .int⟩:=Aj;have w:=O.mov2 G rfl F6 C6;rw[Aj,F8,F8] at w;have D7:=C2 (c':=.lst<|((⟨false,[x1,x2].map .key,(y1::y2::y3::Tc).map .int⟩:Pag).hd ((g n).1,i.length,(g n).2.2)).set 2<|.loc (i++[Cell.lst<|([x1,x2].map D.key).map V.d]).length) D6 T.1.symm;have E7:=C2 (c':=.lst<|((⟨false,[x1,x2].map .key,(y1::y2::y3::Tc).map .int⟩:Pag).hd ((g n).1,i.length,(g n).2.2)).set 2<|.loc (i++[Cell.lst<|([x1,x2].map D.key).map V.d]).length) E6 x.2.symm;have T6:∀{K:Nat}{a:Nat}{p1 p2 p3:Pos}{N:List (Str×V)},AJ "page" N=some (.loc (g n).1)->To gl Ey (K+1) (.Subscript (.Name "page" p3) (.Constant (.int 2) a p1) p2) (.loc (i++[Cell.lst<|([x1,x2].map D.key).map V.d]).length) ⟨N,σ6⟩ ⟨N,σ6.set (g n).1<|.lst<|((⟨false,[x1,x2].map .key,(y1::y2::y3::Tc).map .int⟩:Pag).hd ((g n).1,i.length,(g n).2.2)).set 2<|.loc (i++[Cell.lst<|([x1,x2].map D.key).map V.d]).length⟩:=λ{K a p1 p2 p3 N} hl=>fD O G rfl (by rw[Aj];exact pR rfl hl) (by rw[Aj]);generalize a2:σ6.set (g n).1 _=σ7 at w D7 E7 T6;have H8:=w.app [Cell.lst<|(Rk.map D.key).map V.d];have H9:=H8.app [Cell.lst<|(Tc.map D.int).map V.d];have E8:=Da [Cell.lst<|(Rk.map D.key).map V.d] E7;have Y:(σ7++[Cell.lst<|(Rk.map D.key).map V.d]).length=σ7.length+1:=by rw[A9];rfl
  have X:(σ7++[Cell.lst<|(Rk.map D.key).map V.d]++[Cell.lst<|(Tc.map D.int).map V.d]).length=σ7.length+2:=by rw[A9,Y];rfl
  have M:=H9.app [Cell.lst [.d<|.str "inner",.loc σ7.length,.loc (σ7++[Cell.lst<|(Rk.map D.key).map V.d]).length]];obtain⟨o,Z,a1⟩:=Pn (q:=((σ7++[Cell.lst<|(Rk.map D.key).map V.d]++[Cell.lst<|(Tc.map D.int).map V.d]).length,σ7.length,(σ7++[Cell.lst<|(Rk.map D.key).map V.d]).length)) (p:=AU Rk Tc) M (L.upd1 J) ⟨Db _ _,Da _<|Da _<|Db _ _,λ_=>Da _<|Db _ _⟩ (w.fr<|by rw[X];exact BA _ _) (w.fr<|Au _) (λ_=>w.fr<|by rw[Y];exact BA _ _) (by rw[X];exact Nat.ne_of_gt<|Nat.lt_add_of_pos_right<|nL rfl) λ_=>by rw[X,Y];exact⟨Nat.ne_of_gt<|CY _,Nat.ne_of_lt<|CY _⟩
  have tl:Ex gl Ey 30 (CA<|at' Pz 2) ⟨L9 s n k v (g n).1 A.length<|.tup [.key k2,.int m],i⟩ (.ret<|.val<|.d<|.tup [.key x3,.int m2]) ⟨L9 s n k v (g n).1 A.length (.tup [.key k2,.int m])++[(("k" : Str),V.loc (g n).2.1),("c",V.loc (g n).2.2)],o⟩:=BR (Cr rfl rfl (BG (AK<|C3 t l<|pR rfl rfl)<|BG (AK<|Dn t l rfl<|pR rfl rfl) Cs)<|tN rfl<|tO rfl) (BR (Cr rfl rfl (BG (Cq (Bx (pR rfl rfl) (λ_=>C0) (Bs AN)<|Pu 2 (t.lay n _ l).b) rfl)<|BG (Cq (Bx (pR rfl rfl) (λ_=>C0) (Bs AN)<|Pu 3<|(H4.lay n _ l).c rfl) rfl) Cs)<|PG (Pr Q l (pR rfl rfl) z)<|PG (T6 rfl) U9)<|Eg<|Bo<|BU (vs:=[.d<|.key x3,.d<|.int m2]) (sK (iX (pR rfl rfl)<|Dy (k:=2) D7 rfl)<|sZ<|EF rfl (pR rfl rfl) w.inst rfl (CD (Cq (Bt (sK (CZ GK)<|CD (Cq (Bx (pR rfl rfl) (Bs AN) (λ_=>C0)<|Pv 3 D7) rfl)<|CD (Cq (Bx (pR rfl rfl) (Bs AN) (λ_=>C0)<|Pv 3 E8) rfl) CC) rfl) rfl) CC) M.inst rfl rfl<|Z.u rfl) rfl<|by decide);refine⟨o,_,FZ rfl<|B4 (Fq (λ_=>rfl) (pR rfl rfl) rfl)<|hx<|Eg<|B4 (Af rfl (Ho t l (λ_=>rfl)<|pR rfl rfl) AN<|CX<|Ac ?_)<|tl.up ?_,a1,Dz.add (Dz.mov λ_ _ _=>rfl) L'⟩;show(4:Int)<(((x1::x2::x3::Rk).map D.key).length:Nat);rw[A4];exact Bc.mpr<|Cc<|Cc<|Cc h4;exact AB (by decide:30<=20+17)<|Ds hK 17
end
section
variable{G:Gl}{C s:St}{f H:List Cell}{q I:Nat}{K:Nat}{o:Fn}{e w O t:Expr}{j:List (Str×V)}{p M L J E u:Pos}{a:Nat}{l N A B:List D}{x y:D}{v:V}{r:R}
def V6(h:Tt G o K t C true s){c:St}(k:Ev G o K e s r c):Ev G o (K+1) (.IfExp t e w p) C r c:=λn=>bnd (h n)<|k n
def V7(h:Tt G o K t C false s){c:St}(k:Ev G o K w s r c):Ev G o (K+1) (.IfExp t e w p) C r c:=λn=>bnd (h n)<|k n
def Q1(c:true=Dh e E u 0)(h:Ev gl o K e ⟨j,f⟩ (.val<|.loc q) ⟨j,f⟩)(g:f[q]?=Lv (l++[x])):Ev gl o (K+1) (.Call (.Attribute e "pop" E) [] [] u) ⟨j,f⟩ (.val<|.d x) ⟨j,f.set q<|.lst<|l.map V.d⟩:=Kt c h g CC g<|(A1<|by decide).trans<|(A1<|by decide).trans<|(A1<|by decide).trans<|(A5 rfl).trans<|(A5 rfl).trans<|Aa (a:=V.d x) (by rw[AF];exact List.getLast?_concat ..)<|by rw[AF];exact A3 (λl=>(R.val<|V.d x,f.set q<|.lst l)) List.dropLast_concat
def Q2(c:true=Dh e E u 1)(h:Ev gl o K e ⟨j,f⟩ (.val<|.loc q) ⟨j,f⟩)(i:Ev gl o K w ⟨j,f⟩ (.val<|.d<|.int 0) ⟨j,f⟩)(g:f[q]?=Lv (x::l)):Ev gl o (K+1) (.Call (.Attribute e "pop" E) [w] [] u) ⟨j,f⟩ (.val<|.d x) ⟨j,f.set q<|.lst<|l.map V.d⟩:=Kt c h g (sZ i) g rfl
def N6{lr:List D}(c:true=Dh e E u 1)(k:Ev gl o K e ⟨j,f⟩ (.val<|.loc q) ⟨j,f⟩)(n:f[q]?=Lv N)(m:Ev gl o K w ⟨j,f⟩ (.val<|.d x) ⟨j,H⟩)(h:H[q]?=Lv l)(i:l.length<1000)(g:l++[x]=lr):X1 gl o (K+1) (.Expr (.Call (.Attribute e "append" E) [w] [] u) p) ⟨j,f⟩ .next ⟨j,H.set q<|.lst<|lr.map V.d⟩:=Hf c k n (AK m) h (by rw[A4];exact AM i<|nL rfl)<|by rw[<-g,AF];rfl
def Q3{l' lr:List D}(g:true=Dh e E u 1)(n:Ev gl o K e ⟨j,f⟩ (.val<|.loc q) ⟨j,f⟩)(i:f[q]?=Lv l)(z:Ev gl o K w ⟨j,f⟩ (.val<|.loc I) ⟨j,f⟩)(c:f[I]?=Lv l')(h:I≠q)(m:l.length+l'.length<1000)(k:l++l'=lr):X1 gl o (K+1) (.Expr (.Call (.Attribute e "extend" E) [w] [] u) p) ⟨j,f⟩ .next ⟨j,f.set q<|.lst<|lr.map V.d⟩:=Gm rfl<|Kt g n i (sZ z) i<|(A1<|by decide).trans<|(A1<|by decide).trans<|(A5 rfl).trans<|bnd (a:=V.loc I) rfl<|bnd (a:=I) rfl<|bnd (a:=l'.map V.d) (by rw[c];rfl)<|Bk (CN.mpr ⟨by rw[decide_eq_false h];rfl,Ac<|by rw[A4,A4];exact BS<|AM m<|nL rfl⟩)<|by rw[<-k,AF]
def fM{c:Type}(A:List c)(y x:c)(B:List c):(A++y::B).set A.length x=A++x::B:=by rw[List.set_append_right _ _<|Au _,Nat.sub_self];rfl
def fN{c:Type}(A:List c)(y:c)(B:List c):(A++y::B).eraseIdx A.length=A++B:=by rw[List.eraseIdx_append_of_length_le<|Au _,Nat.sub_self];rfl
def map_mid'(g:D->V):(A++y::B).map g=A.map g++g y::B.map g:=AF
def N7{i:Int}(n:Ev gl o K e ⟨j,f⟩ (.val<|.loc q) ⟨j,f⟩)(z:Ev gl o K w ⟨j,f⟩ (.val<|.d<|.int i) ⟨j,f⟩)(h:f[q]?=Lv (A++y::B))(m:i=(A.length:Int))(g:A++x::B=l):To gl o K (.Subscript e w p) (.d x) ⟨j,f⟩ ⟨j,f.set q<|.lst<|l.map V.d⟩:=Hd n z (k:=(false,i)) rfl<|by rw[h,<-g,m];refine(Ef (c:=(decide ((0:Int)<=A.length)&&decide ((A.length:Int).toNat<((A++y::B).map V.d).length))=true) (CN.mpr ⟨Ac<|Int.natCast_nonneg _,Ac ?_⟩) rfl).trans ?_;rw[A4,A9,Int.toNat_natCast];exact Nat.lt_add_of_pos_right<|Nat.succ_pos _;rw[Int.toNat_natCast,map_mid',map_mid'];have:=fM (A.map V.d) (V.d y) (V.d x)<|B.map V.d;rw[A4] at this;rw[this]
def Dl(c:List Expr)(o:Fn)(K:Nat)(C st':St):Prop:=∀n,Kc (AY gl<|n+K) o c C=some st'
def Q4:Dl [] o K C C:=λ_=>rfl
def V8{i:Int}{c:List Expr}(z:Ev gl o K e ⟨j,f⟩ (.val<|.loc q) ⟨j,f⟩)(Q:Ev gl o K w ⟨j,f⟩ (.val<|.d<|.int i) ⟨j,f⟩)(h:f[q]?=Lv (A++y::B))(m:i=(A.length:Int))(g:A++B=l)(k:Dl c o K ⟨j,f.set q<|.lst<|l.map V.d⟩ C):Dl (.Subscript e w p::c) o K ⟨j,f⟩ C:=λn=>by refine bnd (a:=(e,w)) rfl<|bnd (a:=(q,⟨j,f⟩)) (bnd (z n) rfl)<|bnd (a:=((false,i),⟨j,f⟩)) (bnd (Q n) rfl)<|bnd (a:=⟨j,f.set q<|.lst<|l.map V.d⟩) (Aa (a:=f.set q<|.lst<|l.map V.d) ?_ rfl)<|k n;show M6 f q (false,i) f[q]?=_;rw[h,m,<-g];show(seqIndex? (A.length:Int) ((A++y::B).map V.d).length).map (λk=>f.set q<|.lst<|((A++y::B).map V.d).eraseIdx k)=_;refine Aa (a:=A.length) ?_ ?_;unfold seqIndex?;rw[A1<|Int.not_lt.mpr<|Int.natCast_nonneg _,A5<|CN.mpr ⟨Ac<|Int.natCast_nonneg _,Ac<|Bc.mpr ?_⟩];rfl;rw[A4,A9];exact Nat.lt_add_of_pos_right<|Nat.succ_pos _;rw[map_mid',AF];have:=fN (A.map V.d) (V.d y)<|B.map V.d;rw[A4] at this;rw[this]
def V9{g:List Expr}{d:Nat}{i:Int}{c:List (Int×V)}(z:Ev gl o K e ⟨j,f⟩ (.val<|.loc d) ⟨j,f⟩)(Q:Ev gl o K w ⟨j,f⟩ (.val<|.d<|.int i) ⟨j,f⟩)(h:f[d]?=some (.dct false c))(m:(AX i c).isSome=true)(k:Dl g o K ⟨j,f.set d<|.dct false<|Cd i c⟩ C):Dl (.Subscript e w p::g) o K ⟨j,f⟩ C:=λn=>by refine bnd (a:=(e,w)) rfl<|bnd (a:=(d,⟨j,f⟩)) (bnd (z n) rfl)<|bnd (a:=((false,i),⟨j,f⟩)) (bnd (Q n) rfl)<|bnd (a:=⟨j,f.set d<|.dct false<|Cd i c⟩) (Aa (a:=f.set d<|.dct false<|Cd i c) ?_ rfl)<|k n;show M6 f d (false,i) f[d]?=_;rw[h];exact Bk (by rw[Gp,m];rfl) rfl
def Q5{c:List Expr}(h:Dl c o K C s):X1 gl o K (.Delete c p) C .next s:=λn=>Aa (h n) rfl
def Jk{m:Nat}{z:Str}(c:true=Cp (o.names.lookup z))(h:AJ z j=some (.d<|.int ((m+1:Nat):Int))):Ev gl o (K+2) (.BinOp (.Name z M) .Sub (.Constant (.int 1) a L) J) ⟨j,f⟩ (.val<|.d<|.int (m:Int)) ⟨j,f⟩:=Ak (pR c h) AN<|A3 (λi=>some<|R.val<|V.d<|.int i)<|Int.add_sub_cancel (m:Int) 1
end
section
variable{o t:List Cell}{s d:Nat}{r:Int}{m u:Int->BH}{f w z:BV}{n k c:Int}{K:Nat}{A B C E:List Int}{l:List (Int×Str)}{pm:Pag}
inductive RemR(K:Nat)(o:List Cell)(s d:Nat)(r:Int)(m:Int->BH)(f:BV)(n k:Int)(z:BV):Prop where
 |mk (t:List Cell) (u:Int->BH):Cl gl DE K [.loc s,.d (.int n),.d (.key k)] o (.val (.d .none)) t->HT t s d r u z->Dz f m u->RemR K o s d r m f n k z
noncomputable def outP'(k:Int)(l:List<|Int×Str):List<|Int×Str:=l.filter λp=>!decide (p.1=k)
def VA(H:HT o s d r m f)(i:f n=some (Ar l))(M:l.length<60):RemR 40 o s d r m f n k<|upd f n<|some<|Ar<|outP' k l:=by have G:=H.lay n _ i;have L:=H.ne i;have F:=H.fr<|Au o.length;have J:(o.set (m n).2.1 (.froz<|l.map AQ)++[Cell.lst<|((outP' k l).map AQ).map V.d])[(m n).1]?=some (.lst<|(Ar l).hd<|m n):=Da _<|C2 G.a L.1;have y:(o.set (m n).2.1<|.froz<|l.map AQ).length=o.length:=List.length_set;have I:=Db (o.set (m n).2.1<|.froz<|l.map AQ)<|Cell.lst<|((outP' k l).map AQ).map V.d;rw[y] at I;have Q:=H.chg (σ':=(o.set (m n).2.1 (.froz<|l.map AQ)++[Cell.lst<|((outP' k l).map AQ).map V.d]).set (m n).1<|.lst<|((Ar l).hd<|m n).set 1<|.loc o.length) (p':=Ar<|outP' k l) (q:=((m n).1,o.length,(m n).2.2)) i rfl (.inr F) rfl (λe=>nomatch e) (λe=>nomatch e) (λx c e O N _=>C2 (Da _<|C2 e N) O) ⟨Gv J,C2 I<|F.a n _ i,λe=>nomatch e⟩;refine⟨_,_,ER rfl rfl<|Bp rfl (Ad (AK<|F7 H i .refl rfl rfl rfl<|pR rfl rfl) rfl)<|FZ rfl<|B4 (EG H i (pR rfl rfl) F5 rfl)<|BR (FT (v:=.loc o.length) (st₁:=⟨[("self",.loc s),("n",.d<|.int n),("key",.d<|.key k),("page",.loc (m n).1)],o.set (m n).2.1 (.froz<|l.map AQ)++[Cell.lst<|((outP' k l).map AQ).map V.d]⟩) ?_<|Uz J (pR rfl rfl) rfl)<|Eg λ_=>rfl,Q,Dz.mov λ_ _ _=>rfl⟩;rw[<-y];refine Cq (DF (ys:=[("key",.d<|.key k)]) (g:=λp=>V.d<|AQ p) (h:=λp=>V.d<|AQ p) (b:=λp=>!decide (p.1=k)) (l:=l) (By rfl (C3 H i<|pR rfl rfl) ?_) rfl rfl rfl (.cons rfl .nil) rfl (λp _ S j=>⟨Ei<|Af rfl (iX (pn j rfl rfl) rfl) (pn j rfl rfl) rfl,λ_=>kN j rfl rfl⟩) (BS<|AM M<|nL rfl) Am.symm) rfl;show J5 o (m n).2.1 o[(m n).2.1]?=_;rw[G.b];exact Aa (BO<|l.map AQ)<|A3 (·,_) Am
noncomputable def N8(s:Nat)(n k:Int)(a i:Nat)(e:V):List<|Str×V:=[("self",.loc s),("n",.d<|.int n),("key",.d<|.key k),("page",.loc a),("i",.d<|.int i),("me",e)]
def VB(M:RemR (K+20) o s d r m f c k w)(H:HT o s d r m f)(I:Inn f n k A B C E c)(G:w n=f n)(J:w c=some pm)(L:∀g a,HT g s d r a w->∃t u,Rn gl DE (K+20) 5 (N8 s n k (a n).1 A.length<|.loc (a c).1) g (.val<|.d .none) t/\HT t s d r u z/\Dz f a u):RemR (K+30) o s d r m f n k z:=by
 obtain⟨g,a,O,v,y⟩:=M;obtain⟨t,u,x,X,T⟩:=L g a v;have S:=y n _ I.pg;have h:=G.trans I.pg;rw[S] at x;have Q:∀{K:Nat}{p:Pos}{i:V},Ev gl DE (K+1) (.Name "page" p) ⟨[("self",.loc s),("n",.d<|.int n),("key",.d<|.key k),("page",.loc (m n).1),("i",i)],g⟩ (.val<|.loc (a n).1) ⟨[("self",.loc s),("n",.d<|.int n),("key",.d<|.key k),("page",.loc (m n).1),("i",i)],g⟩:=λ{K p i}=>by rw[S];exact pR rfl rfl
 have N:Cl gl DE (K+26) [.loc s,.d<|.int n,.d<|.key k] o (.val<|.d .none) t:=ER rfl rfl<|Bp rfl (Ad (AK<|F7 H I.pg .refl rfl rfl rfl<|pR rfl rfl) rfl)<|Bp rfl (Av (EG H I.pg (pR rfl rfl) F5 rfl) Bh)<|Bp rfl (Ad (AK<|EF rfl (pR rfl rfl) H.inst rfl (sR rfl rfl<|sO rfl rfl) H.inst rfl rfl<|(I.child H).up<|Nat.le_add_left 20<|K+1) rfl)<|Bp rfl (Gm rfl<|EF rfl (pR rfl rfl) H.inst rfl (sK (BI rfl (Dn H I.pg rfl<|pR rfl rfl) (pR rfl rfl)<|Dy ((H.lay n _ I.pg).c rfl) I.at)<|sO rfl rfl) H.inst rfl rfl O)<|Bp rfl (Ad (AK<|F7 v J .refl rfl rfl rfl<|BI rfl (Dn v h rfl Q) (pR rfl rfl)<|Dy ((v.lay n _ h).c rfl) I.at) rfl) x;exact⟨t,u,N.up<|BW (nL rfl) K,X,λj q e=>(T j q e).trans<|y j q e⟩
def VC(j:RemR (K+20) o s d r m f c k w)(H:HT o s d r m f)(I:Inn f n k A B C E c)(i:w n=f n)(g:w c=some pm)(p:2<=pm.xs.length):RemR (K+30) o s d r m f n k w:=VB j H I i g λa e h=>⟨a,e,FZ rfl<|B4 (Af rfl (Ho h g (λ_=>rfl)<|pR rfl rfl) AN<|Uv<|Ac<|Int.ofNat_le.mpr p)<|Eg λ_=>rfl,h,λ_ _ _=>rfl⟩
end
section
variable{L:Fn}{j t:List Cell}{s d q:Nat}{r:Int}{g Q:Int->BH}{f u J:BV}{n k c m:Int}{K:Nat}{A B C E:List Int}{pm p:Pag}{o:List (Str×V)}{e:Expr}{O N G M Z Y X T S:Pos}{a w:Nat}{l:List D}
def VD(v:∀m,Es gl (AY gl<|m+K) L "len" [e] ⟨o,j⟩=IJ (AY gl<|m+K) L "len" e ⟨o,j⟩)(h:Ev gl L K e ⟨o,j⟩ (.val<|.loc q) ⟨o,j⟩)(i:j[q]?=Lv l):Ev gl L (K+1) (.Call (.Name "len" G) [e] [] M) ⟨o,j⟩ (.val<|.d<|.int l.length) ⟨o,j⟩:=by have:=BP (p:=M) (q:=G) v h<|Ut i;rwa [A4] at this
noncomputable def Fa(g:Int->BH)(C:List Int):V:=BK C.getLast? (λc=>.loc (g c).1)<|.d .none
noncomputable def Gx(g:Int->BH)(E:List Int):V:=BK E.head? (λc=>.loc (g c).1)<|.d .none
noncomputable def Fb(s:Nat)(n k:Int)(a i:Nat)(h l r:V):List<|Str×V:=[("self",.loc s),("n",.d<|.int n),("key",.d<|.key k),("page",.loc a),("i",.d<|.int i),("me",h),("left",l),("right",r)]
def fO{C E:List Int}{b c:Int}:((C++[b]++c::E).map D.int)[C.length]?=some (.int b):=by rw[AD,CP];exact A3 (Option.map D.int)<|mid rfl
def VE{C E:List Int}{b c:Int}:((C++c::b::E).map D.int)[C.length+1]?=some (.int b):=by
 have:(C++c::b::E)[C.length+1]?=some b:=by rw[List.getElem?_append_right<|BA _ _,Nat.add_sub_cancel_left];rfl
 rw[CP,this];rfl
def fP{i:Nat}(H:HT j s d r g f)(z:f n=some (AU (A++B)<|C++c::E))(hl:C.length=i)(h:∀a∈C.getLast?,(f a).isSome=true){v:V}:X1 gl DE (K+10) (Bd DE 6) ⟨N8 s n k (g n).1 i v,j⟩ .next ⟨N8 s n k (g n).1 i v++[(("left" : Str),Fa g C)],j⟩:=by subst hl;rcases List.eq_nil_or_concat C with rfl|⟨x,b,rfl⟩;exact Ad (AK<|V7 (Af rfl (pR rfl rfl) AN<|CX rfl) JX) rfl;rw[List.concat_eq_append] at *;obtain⟨y,I⟩:=Option.isSome_iff_exists.mp<|h b List.getLast?_concat;rw[show Fa g (x++[b])=.loc (g b).1 from Br List.getLast?_concat rfl,show(x++[b]).length=x.length+1 from A9];exact Ad (AK<|V6 (Af rfl (pR rfl rfl) AN<|CX<|Ac<|Bc.mpr<|Nat.succ_pos x.length)<|F7 H I .refl rfl rfl rfl<|BI rfl (Dn H z rfl<|pR rfl rfl) (Jk rfl rfl)<|Dy (k:=x.length) ((H.lay n _ z).c rfl) fO) rfl
def fQ{i:Nat}(H:HT j s d r g f)(x:f n=some (AU (A++B)<|C++c::E))(hl:C.length=i)(h:∀a∈E.head?,(f a).isSome=true){v z:V}:X1 gl DE (K+10) (Bd DE 7) ⟨N8 s n k (g n).1 i v++[(("left" : Str),z)],j⟩ .next ⟨Fb s n k (g n).1 i v z<|Gx g E,j⟩:=by subst hl;cases E with|nil=>exact Ad (AK<|V7 (Af rfl (Ak (pR rfl rfl) AN rfl) (VD (λ_=>rfl) (Dn H x rfl<|pR rfl rfl)<|(H.lay n _ x).c rfl)<|ES<|decide_eq_false<|by show ¬(C.length:Int)+1<(((C++[c]).map D.int).length:Nat);rw[A4,A9];exact Int.lt_irrefl _) JX) rfl|cons b E=>obtain⟨y,I⟩:=Option.isSome_iff_exists.mp<|h b rfl;exact Ad (AK<|V6 (Af rfl (Ak (pR rfl rfl) AN rfl) (VD (λ_=>rfl) (Dn H x rfl<|pR rfl rfl)<|(H.lay n _ x).c rfl)<|ES<|Ac<|by show(C.length:Int)+1<(((C++c::b::E).map D.int).length:Nat);rw[A4,A9];exact Bc.mpr<|Nat.add_lt_add_left (Cc<|Nat.succ_pos _) _)<|F7 H I .refl rfl rfl rfl<|BI rfl (Dn H x rfl<|pR rfl rfl) (Ak (pR rfl rfl) AN rfl)<|Dy (k:=C.length+1) ((H.lay n _ x).c rfl) VE) rfl
inductive Step8(K:Nat)(s:Nat)(n k:Int)(g:Int->BH)(i:Nat)(me l r:V)(j:List Cell)(d:Nat)(rt:Int)(J:BV):Prop where
 |mk (t:List Cell) (xs':List (Str×V)):X1 gl DE (K+16) (Bd DE 8) ⟨Fb s n k (g n).1 i me l r,j⟩ .next ⟨xs',t⟩->HT t s d rt g J->Step8 K s n k g i me l r j d rt J
def VF(hc:RemR (K+20) j s d r g f c k u)(H:HT j s d r g f)(I:Inn f n k A B C E c)(y:u n=f n)(z:u c=some pm)(h1:pm.xs.length<2)(hL:∀a∈C.getLast?,(u a).isSome=true)(hR:∀a∈E.head?,(u a).isSome=true) (hk:∀i h,HT i s d r h u->Step8 K s n k h A.length (.loc (h c).1) (Fa h C) (Gx h E) i d r J):RemR (K+30) j s d r g f n k J:=VB hc H I y z λi h x=>by obtain⟨t,o,e,H'⟩:=hk i h x;have v:=y.trans I.pg;exact⟨t,h,Bp rfl (Av (Af rfl (Ho x z (λ_=>rfl)<|pR rfl rfl) AN<|Uv<|decide_eq_false λq=>absurd (Int.ofNat_le.mp q)<|Nat.not_le.mpr h1) Bh)<|Bp rfl (fP x v I.len hL)<|Bp rfl (fQ x v I.len hR)<|Bp rfl e<|Jj rfl,H',λ_ _ _=>rfl⟩
def fR(p:Pag)(q:BH):(!(p.hd q).isEmpty)=true:=by unfold Pag.hd;cases p.lf<;>rfl
def GM{b:Bool}{v:V}{z:Str}(hE:∀{K:Nat}{m:Nat},Es gl (AY gl<|m+K) DE "len" [.Subscript (.Name z O) (.Constant (.int 1) a N) G] ⟨o,j⟩=IJ (AY gl<|m+K) DE "len" (.Subscript (.Name z O) (.Constant (.int 1) a N) G) ⟨o,j⟩)(i:true=Cp (DE.names.lookup z))(x:AJ z o=some v)(H:HT j s d r g f)(h:(v=.d .none/\b=false)\/∃m p,v=.loc (g m).1/\f m=some p/\decide (2<p.xs.length)=b):Tt gl DE (K+6) (.BoolOp .And [.Name z Y,.Compare (.Call (.Name "len" M) [.Subscript (.Name z O) (.Constant (.int 1) a N) G] [] Z) [.Gt] [.Constant (.int 2) w X] T] S) ⟨o,j⟩ b ⟨o,j⟩:=by rcases h with⟨rfl,rfl⟩|⟨m,p,rfl,y,I⟩;exact CQ<|FR<|Fq (λ_=>rfl) (pR i x) rfl;refine CQ<|Dk (Fq (λ_=>rfl) (pR i x) ?_)<|Dm<|Af rfl (Ho H y (λ_=>hE)<|pR i x) AN<|CX ?_;exact Br (a:=(p.hd<|g m)) (Br (a:=(p.hd<|g m)) (by show EZ j[(g m).1]?=_;rw[(H.lay m p y).a];rfl) rfl)<|A3 some<|fR p<|g m;rw[<-I];exact decide_eq_decide.mpr Bc
end
section
variable{w z:List Cell}{s d q:Nat}{r:Int}{t:Int->BH}{f G:BV}{n k L M i:Int}{K:Nat}{A B C E kl o cl p:List Int}{ll u:List (Int×Str)}{x y:Int×Str}{kx cx:Int}{v:V}
structure Adj(f:BV)(n L M i:Int)(A B C E:List Int):Prop where
 pg:f n=some (AU (A++i::B) (C++L::M::E))
 len:C.length=A.length
 nL:n≠L
 nM:n≠M
 LM:L≠M
def N9{m:Nat}(h:2<m){a:Type}{l:List a}(e:l.length=m):decide (2<l.length)=true:=Ac<|e▸h
def fS(H:HT w s d r t f)(J:Adj f n L M i A B C E)(e:f L=some (Ar<|ll++[x]))(c:f M=some (Ar u))(m:2<(ll++[x]).length)(hs:u.length<100):Step8 K s n k t (A.length+1) (.loc (t M).1) (.loc (t L).1) v w d r<|upd (upd (upd f L<|some<|Ar ll) M<|some<|Ar<|x::u) n<|some<|AU (A++x.1::B)<|C++L::M::E:=by have j:=H.set1 e<|ll.map AQ;have h:upd f L (some (⟨true,ll.map AQ,[]⟩:Pag)) M=some (Ar u):=(Ay J.LM.symm).trans c;have a:=j.set1 h<|(x::u).map AQ;have g:upd (upd f L<|some (⟨true,ll.map AQ,[]⟩:Pag)) M (some ⟨true,(x::u).map AQ,[]⟩) n=some (AU (A++i::B)<|C++L::M::E):=(Ay J.nM).trans<|(Ay J.nL).trans J.pg;have I:=a.set1 g<|(A++x.1::B).map .key;exact⟨_,_,B4 (GM rfl rfl rfl H<|.inr ⟨L,_,rfl,e,N9 m<|A4 _⟩)<|xO<|B4 (EG H c (pR rfl rfl) F5 rfl)<|BR (L8 (A:=[]) (B:=u.map AQ) (l:=(x::u).map AQ) (x:=AQ x) rfl (C3 H c<|pR rfl rfl) (H.lay M _ c).b AN (Q1 rfl (C3 H e<|pR rfl rfl)<|(H.lay L _ e).b.trans<|A3 Lv AF) (j.lay M _ h).b rfl (by rw[A4];exact AM (Nat.add_lt_add_left hs 0)<|nL rfl) rfl)<|xO<|FT (AK<|iX (iX (C3 a Aj<|pR rfl rfl)<|Dy (k:=0) (a.lay M _ Aj).b rfl) rfl)<|N7 (A:=A.map .key) (B:=B.map .key) (C3 a g<|pR rfl rfl) (Jk rfl rfl) ((a.lay n _ g).b.trans<|A3 Lv AF) (by rw[A4])<|IZ ..,I⟩
def VG{m:Type}{g:Int->m}{a b c:m}(h:L≠M):upd (upd (upd g M a) L b) M c=upd (upd g M c) L b:=funext λj=>by by_cases e:j=M;rw[e,Aj,Ay h.symm,Aj];rw[Ay e];by_cases l:j=L;rw[l,Aj,Aj];rw[Ay l,Ay l,Ay e,Ay e]
def fT(H:HT w s d r t f)(J:Adj f n L M i A B C E)(Q:f L=some (AU (kl++[kx])<|cl++[cx]))(a:f M=some (AU o p))(S:2<(kl++[kx]).length)(hs:o.length<100)(I:p.length<100):Step8 K s n k t (A.length+1) (.loc (t M).1) (.loc (t L).1) v w d r<|upd (upd (upd f M<|some<|AU (i::o)<|cx::p) L<|some<|AU kl cl) n<|some<|AU (A++kx::B)<|C++L::M::E:=by have e:=H.set1 a<|(i::o).map .key;have m:upd f M (some (⟨false,(i::o).map .key,p.map .int⟩:Pag)) L=some (AU (kl++[kx])<|cl++[cx]):=(Ay J.LM).trans Q;have N:=e.set2 m rfl<|cl.map .int;have O:upd (upd f M<|some (⟨false,(i::o).map .key,p.map .int⟩:Pag)) L (some ⟨false,(kl++[kx]).map .key,cl.map .int⟩) M=some ⟨false,(i::o).map .key,p.map .int⟩:=(Ay J.LM.symm).trans Aj;have h:=N.set2 O rfl<|(cx::p).map .int;have X:HT _ s d r t _:=N;rw[VG J.LM] at h;have g:=h.set1 Aj<|kl.map .key;rw[F8] at g;have j:upd (upd f M<|some (⟨false,(i::o).map .key,(cx::p).map .int⟩:Pag)) L (some ⟨false,kl.map .key,cl.map .int⟩) n=some (AU (A++i::B)<|C++L::M::E):=(Ay J.nL).trans<|(Ay J.nM).trans J.pg;have T:=g.set1 j<|(A++kx::B).map .key;refine⟨_,_,B4 (GM rfl rfl rfl H<|.inr ⟨L,_,rfl,Q,N9 S<|A4 _⟩)<|xO<|Av (EG H a (pR rfl rfl) F5 rfl)<|BR (L8 (A:=[]) (B:=o.map .key) (l:=(i::o).map .key) (x:=.key i) rfl (C3 H a<|pR rfl rfl) (H.lay M _ a).b AN (BI rfl (C3 H J.pg<|pR rfl rfl) (Jk rfl rfl)<|Dy (k:=A.length) (H.lay n _ J.pg).b ?_) (H.lay M _ a).b rfl (by rw[A4];exact AM (Nat.add_lt_add_left hs 0)<|nL rfl) rfl)<|BR (L8 (A:=[]) (B:=p.map .int) (l:=(cx::p).map .int) (x:=.int cx) rfl (Dn e Aj rfl<|pR rfl rfl) ((e.lay M _ Aj).c rfl) AN (Q1 rfl (Dn e m rfl<|pR rfl rfl)<|((e.lay L _ m).c rfl).trans<|A3 Lv AF) ((N.lay M _ O).c rfl) rfl (by rw[A4];exact AM (Nat.add_lt_add_left I 0)<|nL rfl) rfl)<|xO<|FT (AK<|Q1 rfl (C3 h Aj<|pR rfl rfl)<|(h.lay L _ Aj).b.trans<|A3 Lv AF)<|N7 (A:=A.map .key) (B:=B.map .key) (C3 g j<|pR rfl rfl) (Jk rfl rfl) ((g.lay n _ j).b.trans<|A3 Lv AF) (by rw[A4])<|IZ ..,T⟩;show((A++i::B).map D.key)[A.length]?=_;rw[CP,mid rfl];rfl
end
section
variable{z σ':List Cell}{s d q:Nat}{r:Int}{c:Int->BH}{f Q:BV}{n k L M i:Int}{K:Nat}{A B C E I u N j kr cr:List Int}{O lm lr:List (Int×Str)}{x y:Int×Str}{kx cx:Int}{v w:V}
def Ek(f:BV)(c:Int->BH)(v:V):Prop:=v=.d .none\/∃m p,v=.loc (c m).1/\f m=some p/\p.xs.length<=2
def Ek.t(h:Ek f c v):(v=.d .none/\false=false)\/∃m p,v=.loc (c m).1/\f m=some p/\decide (2<p.xs.length)=false:=h.imp (λe=>⟨e,rfl⟩) λ⟨m,p,e,g,a⟩=>⟨m,p,e,g,decide_eq_false<|Nat.not_lt.mpr a⟩
def Jl{a e:Type}(g:a->e)(A:List a)(x:a):A.map g++[g x]=(A++[x]).map g:=(AF (l₁:=A) (l₂:=[x]) (f:=g)).symm
def fU(H:HT z s d r c f)(J:Adj f n L M i A B C E)(g:f L=some (Ar lm))(e:f M=some (Ar<|x::y::lr))(S:2<(x::y::lr).length)(hs:lm.length<100)(G:Ek f c v):Step8 K s n k c A.length (.loc (c L).1) v (.loc (c M).1) z d r<|upd (upd (upd f M<|some<|Ar<|y::lr) L<|some<|Ar<|lm++[x]) n<|some<|AU (A++y.1::B)<|C++L::M::E:=by have p:=H.set1 e<|(y::lr).map AQ;have o:upd f M (some (⟨true,(y::lr).map AQ,[]⟩:Pag)) L=some (Ar lm):=(Ay J.LM).trans g;have a:=p.set1 o<|(lm++[x]).map AQ;have m:upd (upd f M<|some (⟨true,(y::lr).map AQ,[]⟩:Pag)) L (some ⟨true,(lm++[x]).map AQ,[]⟩) M=some ⟨true,(y::lr).map AQ,[]⟩:=(Ay J.LM.symm).trans Aj;have h:upd (upd f M<|some (⟨true,(y::lr).map AQ,[]⟩:Pag)) L (some ⟨true,(lm++[x]).map AQ,[]⟩) n=some (AU (A++i::B)<|C++L::M::E):=(Ay J.nL).trans<|(Ay J.nM).trans J.pg;have T:=a.set1 h<|(A++y.1::B).map .key;exact⟨_,_,Av (GM rfl rfl rfl H G.t)<|xO<|B4 (GM rfl rfl rfl H<|.inr ⟨M,_,rfl,e,N9 S<|A4 _⟩)<|xO<|B4 (EG H g (pR rfl rfl) F5 rfl)<|BR (N6 (l:=lm.map AQ) (x:=AQ x) rfl (C3 H g<|pR rfl rfl) (H.lay L _ g).b (Q2 rfl (C3 H e<|pR rfl rfl) AN (H.lay M _ e).b) (p.lay L _ o).b (by rw[A4];exact AM hs<|nL rfl)<|Jl ..)<|xO<|FT (AK<|iX (iX (C3 a m<|pR rfl rfl)<|Dy (k:=0) (a.lay M _ m).b rfl) rfl)<|N7 (A:=A.map .key) (B:=B.map .key) (C3 a h<|pR rfl rfl) (pR rfl rfl) ((a.lay n _ h).b.trans<|A3 Lv AF) (by rw[A4])<|IZ ..,T⟩
def fV(H:HT z s d r c f)(J:Adj f n L M i A B C E)(a:f L=some (AU u j))(S:f M=some (AU (kx::kr)<|cx::cr))(Y:2<(kx::kr).length)(hs:u.length<100)(p:j.length<100)(X:Ek f c v):Step8 K s n k c A.length (.loc (c L).1) v (.loc (c M).1) z d r<|upd (upd (upd f L<|some<|AU (u++[i])<|j++[cx]) M<|some<|AU kr cr) n<|some<|AU (A++kx::B)<|C++L::M::E:=by have e:=H.set1 a<|(u++[i]).map .key;have o:upd f L (some (⟨false,(u++[i]).map .key,j.map .int⟩:Pag)) M=some (AU (kx::kr)<|cx::cr):=(Ay J.LM.symm).trans S;have T:=e.set2 o rfl<|cr.map .int;have G:upd (upd f L<|some (⟨false,(u++[i]).map .key,j.map .int⟩:Pag)) M (some ⟨false,(kx::kr).map .key,cr.map .int⟩) L=some ⟨false,(u++[i]).map .key,j.map .int⟩:=(Ay J.LM).trans Aj;have h:=T.set2 G rfl<|(j++[cx]).map .int;rw[VG J.LM.symm] at h;have g:=h.set1 Aj<|kr.map .key;rw[F8] at g;have m:upd (upd f L<|some (⟨false,(u++[i]).map .key,(j++[cx]).map .int⟩:Pag)) M (some ⟨false,kr.map .key,cr.map .int⟩) n=some (AU (A++i::B)<|C++L::M::E):=(Ay J.nM).trans<|(Ay J.nL).trans J.pg;have Z:=g.set1 m<|(A++kx::B).map .key;refine⟨_,_,Av (GM rfl rfl rfl H X.t)<|xO<|B4 (GM rfl rfl rfl H<|.inr ⟨M,_,rfl,S,N9 Y<|A4 _⟩)<|xO<|Av (EG H a (pR rfl rfl) F5 rfl)<|BR (N6 (l:=u.map .key) (x:=.key i) rfl (C3 H a<|pR rfl rfl) (H.lay L _ a).b (BI rfl (C3 H J.pg<|pR rfl rfl) (pR rfl rfl)<|Dy (k:=A.length) (H.lay n _ J.pg).b ?_) (H.lay L _ a).b (by rw[A4];exact AM hs<|nL rfl)<|Jl ..)<|BR (N6 (l:=j.map .int) (x:=.int cx) rfl (Dn e Aj rfl<|pR rfl rfl) ((e.lay L _ Aj).c rfl) (Q2 rfl (Dn e o rfl<|pR rfl rfl) AN<|(e.lay M _ o).c rfl) ((T.lay L _ G).c rfl) (by rw[A4];exact AM p<|nL rfl)<|Jl ..)<|xO<|FT (AK<|Q2 rfl (C3 h Aj<|pR rfl rfl) AN (h.lay M _ Aj).b)<|N7 (A:=A.map .key) (B:=B.map .key) (C3 g m<|pR rfl rfl) (pR rfl rfl) ((g.lay n _ m).b.trans<|A3 Lv AF) (by rw[A4])<|IZ ..,Z⟩;show((A++i::B).map D.key)[A.length]?=_;rw[CP,mid rfl];rfl
noncomputable def LA:List Stmt:=DN<|at' (DN<|Bd DE 8) 0
def VH(H:HT z s d r c f)(J:Adj f n L M i A B C E)(t:(f M).isSome=true):∃σ',Ex gl DE (K+8) (LA.drop 3) ⟨Fb s n k (c n).1 (A.length+1) (.loc (c M).1) (.loc (c L).1) v,z⟩ .next ⟨Fb s n k (c n).1 (A.length+1) (.loc (c M).1) (.loc (c L).1) v,σ'⟩/\HT σ' s d r c (upd (upd f M .none) n<|some<|AU (A++B)<|C++L::E):=by
 obtain⟨T,m,h⟩:=H.dic;have g:=H.del M m h;have a:upd f M .none n=some (AU (A++i::B)<|C++L::M::E):=(Ay J.nM).trans J.pg;have e:=g.set1 a<|(A++B).map .key;have o:=e.set2 Aj rfl<|(C++L::E).map .int;rw[F8] at o;have S:(C++L::M::E).map D.int=(C++[L]).map D.int++.int M::E.map .int:=by rw[IZ,AD];rfl
 have p:((A.length+1:Nat):Int)=(((C++[L]).map D.int).length:Nat):=by rw[A4,A9,J.len];rfl
 have G:((C++L::M::E).map D.int)[A.length+1]?=some (.int M):=J.len▸VE;refine⟨_,BR (Q5<|V9 (IY H .refl rfl rfl) (BI rfl (Dn H J.pg rfl<|pR rfl rfl) (pR rfl rfl)<|Dy ((H.lay n _ J.pg).c rfl) G) m ?_ Q4)<|xO<|Q5<|V8 (A:=A.map .key) (B:=B.map .key) (l:=(A++B).map .key) (C3 g a<|pR rfl rfl) (Jk rfl rfl) ((g.lay n _ a).b.trans<|A3 Lv AF) (by rw[A4]) AF.symm<|V8 (A:=(C++[L]).map .int) (B:=E.map .int) (l:=(C++L::E).map .int) (Dn e Aj rfl<|pR rfl rfl) (pR rfl rfl) (((e.lay n _ Aj).c rfl).trans<|A3 Lv S) p (by rw[<-AF,AD];rfl) Q4,o⟩;rw[h.look M];unfold tb;rw[Option.isSome_map];exact t
def HT.pls(H:HT z s d r c f){p a:Pag}(l:f L=some p)(e:f M=some a)(h:L≠M):(c M).2.1≠(c L).2.1/\(p.lf=false->a.lf=false->(c M).2.2≠(c L).2.2):=by obtain⟨o,_,_,on⟩:=H.own;exact⟨λq=>h<|A3 Prod.fst<|(on L _ l).b.symm.trans<|(A3 o q.symm).trans (on M _ e).b,λg m q=>h<|A3 Prod.fst<|((on L _ l).c g).symm.trans<|(A3 o q.symm).trans<|(on M _ e).c m⟩
def VI(H:HT z s d r c f)(J:Adj f n L M i A B C E)(g:f L=some (Ar O))(a:f M=some (Ar lm))(hs:O.length+lm.length<100):∃σ',Ex gl DE (K+12) (LA.drop 1) ⟨Fb s n k (c n).1 (A.length+1) (.loc (c M).1) (.loc (c L).1) v,z⟩ .next ⟨Fb s n k (c n).1 (A.length+1) (.loc (c M).1) (.loc (c L).1) v,σ'⟩/\HT σ' s d r c (upd (upd (upd f L<|some<|Ar<|O++lm) M .none) n<|some<|AU (A++B)<|C++L::E):=by have l:=H.set1 g<|(O++lm).map AQ;have h:upd f L (some (⟨true,(O++lm).map AQ,[]⟩:Pag)) M=some (Ar lm):=(Ay J.LM.symm).trans a;obtain⟨σ',e,m⟩:=VH (K:=K+2) (k:=k) (v:=v) l ⟨(Ay J.nL).trans J.pg,J.len,J.nL,J.nM,J.LM⟩<|A3 Option.isSome h;refine⟨σ',BR (Av (EG H a (pR rfl rfl) GK rfl) Bh)<|BR (Q3 rfl (C3 H g<|pR rfl rfl) (H.lay L _ g).b (C3 H a<|pR rfl rfl) (H.lay M _ a).b ?_ (by rw[show(Ar O).xs.length=O.length from A4 _,show(Ar lm).xs.length=lm.length from A4 _];exact AM hs<|nL rfl) AF.symm) e,m⟩;exact(H.pls g a J.LM).1
def VJ(H:HT z s d r c f)(J:Adj f n L M i A B C E)(h:f L=some (AU I N))(g:f M=some (AU u j))(hs:I.length+u.length<100)(o:N.length+j.length<100):∃σ',Ex gl DE (K+12) (LA.drop 1) ⟨Fb s n k (c n).1 (A.length+1) (.loc (c M).1) (.loc (c L).1) v,z⟩ .next ⟨Fb s n k (c n).1 (A.length+1) (.loc (c M).1) (.loc (c L).1) v,σ'⟩/\HT σ' s d r c (upd (upd (upd f L<|some<|AU (I++i::u)<|N++j) M .none) n<|some<|AU (A++B)<|C++L::E):=by have m:=H.set1 h<|(I++[i]).map .key;have t:upd f L (some (⟨false,(I++[i]).map .key,N.map .int⟩:Pag)) M=some (AU u j):=(Ay J.LM.symm).trans g;have a:=m.set2 Aj rfl<|(N++j).map .int;rw[F8] at a;have p:upd f L (some (⟨false,(I++[i]).map .key,(N++j).map .int⟩:Pag)) M=some (AU u j):=(Ay J.LM.symm).trans g;have G:=a.set1 Aj<|(I++i::u).map .key;rw[F8] at G;have S:upd f L (some (⟨false,(I++i::u).map .key,(N++j).map .int⟩:Pag)) M=some (AU u j):=(Ay J.LM.symm).trans g;have P:=H.pls h g J.LM;obtain⟨σ',e,T⟩:=VH (K:=K+2) (k:=k) (v:=v) G ⟨(Ay J.nL).trans J.pg,J.len,J.nL,J.nM,J.LM⟩<|A3 Option.isSome S;refine⟨σ',BR (B4 (EG H g (pR rfl rfl) GK rfl)<|BR (N6 (l:=I.map .key) (x:=.key i) rfl (C3 H h<|pR rfl rfl) (H.lay L _ h).b (BI rfl (C3 H J.pg<|pR rfl rfl) (Jk rfl rfl)<|Dy (k:=A.length) (H.lay n _ J.pg).b ?_) (H.lay L _ h).b (by rw[A4];exact AM (AO (BA _ _) hs)<|nL rfl)<|Jl ..)<|xO<|Q3 (l:=N.map .int) (l':=j.map .int) rfl (Dn m Aj rfl<|pR rfl rfl) ((m.lay L _ Aj).c rfl) (Dn m t rfl<|pR rfl rfl) ((m.lay M _ t).c rfl) (P.2 rfl rfl) (by rw[A4,A4];exact AM o<|nL rfl) AF.symm)<|BR (Q3 (l:=(I++[i]).map .key) (l':=u.map .key) rfl (C3 a Aj<|pR rfl rfl) (a.lay L _ Aj).b (C3 a p<|pR rfl rfl) (a.lay M _ p).b P.1 (by rw[A4,A4,A9,DB];exact AO (Nat.succ_le_of_lt hs)<|nL rfl)<|by rw[<-AF,AD];rfl) e,T⟩;show((A++i::B).map D.key)[A.length]?=_;rw[CP,mid rfl];rfl
def Jm{m:Fn}{e:Expr}{a:Nat}{p q:Pos}{l g:St}{r:R}{b:Bool}(h:Ev gl m K e l r g)(o:isNone r=b):Tt gl m (K+1) (.Compare e [.Is] [.Constant .none a p] q) l b g:=λn=>Aa (h n)<|by rw[o]
def VK{a:BV}(H:HT z s d r c f)(l:Ek f c<|.loc (c L).1)(g:Ek f c w)(h:∃σ',Ex gl DE (K+12) (LA.drop 1) ⟨Fb s n k (c n).1 (A.length+1) (.loc (c M).1) (.loc (c L).1) w,z⟩ .next ⟨Fb s n k (c n).1 (A.length+1) (.loc (c M).1) (.loc (c L).1) w,σ'⟩/\HT σ' s d r c a):Step8 K s n k c (A.length+1) (.loc (c M).1) (.loc (c L).1) w z d r a:=by obtain⟨σ',e,m⟩:=h;exact⟨σ',_,Av (GM rfl rfl rfl H l.t)<|xO<|Av (GM rfl rfl rfl H g.t)<|BR (Av (Jm (pR rfl rfl) rfl) Bh)<|e.up<|BW (nL rfl) K,m⟩
def VL{a:BV}(H:HT z s d r c f)(g:Ek f c<|.loc (c M).1)(h:∃σ',Ex gl DE (K+12) (LA.drop 1) ⟨Fb s n k (c n).1 (A.length+1) (.loc (c M).1) (.loc (c L).1)<|.loc (c M).1,z⟩ .next ⟨Fb s n k (c n).1 (A.length+1) (.loc (c M).1) (.loc (c L).1)<|.loc (c M).1,σ'⟩/\HT σ' s d r c a):Step8 K s n k c A.length (.loc (c L).1) (.d .none) (.loc (c M).1) z d r a:=by obtain⟨σ',e,l⟩:=h;exact⟨σ',_,Av (GM rfl rfl rfl H<|.inl ⟨rfl,rfl⟩)<|xO<|Av (GM rfl rfl rfl H g.t)<|BR (B4 (Jm (pR rfl rfl) rfl)<|xO<|Cr rfl rfl (BG (AK<|Ak (pR rfl rfl) AN rfl)<|BG (kR rfl rfl)<|BG (kR rfl rfl) Cs)<|tN rfl<|tN rfl<|tO rfl)<|e.up<|BW (nL rfl) K,l⟩
end
section
variable{σ i:List Cell}{s d q:Nat}{r:Int}{B:Int->BH}{f I:BV}{n:Int}{K:Nat}{p:Pag}{t ys:List (Str×V)}{G:Gl}{C:Fn}{E st₁ u z:St}{A:Expr}
def NA{c:Tg}{v w:V}{l r:List V}(g:GB c v E=some st₁)(e:Kp G C K C.hm A st₁ w u)(k:Tn G C K c [] A [] r u l z):Tn G C K c [] A [] (v::r) E (w::l) z:=λn=>bnd (bnd g<|bnd (a:=(true,st₁)) rfl<|Aa (e n) rfl)<|Aa (k n) rfl
def VM{c:Scope}{p:Pos}{g:Comprehension}{h:It}{e:Tg}{l:List V}{k:List (Str×V)}{a:List Cell}(j:(GC C c&&[g].all Fm)=true)(x:Dj G C K g.iter ⟨t,σ⟩ h ⟨t,a⟩)(m:Dg g.target=some e)(w:Ci (C.sc c.names) h.pr e=true)(o:Tn G (C.sc c.names) K e g.ifs A [] h.items ⟨seen c.names t,a⟩ l ⟨k,i⟩)(v:l.length<=lim):Ev G C (K+1) (.ListComp A [g] c p) ⟨t,σ⟩ (.fresh l) ⟨t,i⟩:=Pf (st₂:=⟨k,i⟩) j x m w o v
noncomputable def inB:List Stmt:=CA<|Bd Gi 1
noncomputable def fW:Stmt->Expr|.Assign _ e _=>e|_=>.Constant .none 0 default
noncomputable def cells(p:Pag):List Cell:=cond p.lf [.lst<|p.xs.map .d] [.lst<|p.xs.map .d,.lst<|p.cs.map .d]
noncomputable def Fu(σ:List Cell)(p:Pag):BH:=cond p.lf (σ.length+1,σ.length,0) (σ.length+2,σ.length,σ.length+1)
def fX{e:Expr}(j:fW (at' inB 0)=e)(h:AA t ys)(a:AJ "p" ys=some (.d p.d)):Ev gl Gi (K+10) e ⟨t,σ⟩ (.fresh<|p.hd<|Fu σ p) ⟨t,σ++cells p⟩:=by
 subst j;obtain⟨g,l,c⟩:=p;cases g;have m:(σ++[Cell.lst<|l.map .d]).length=σ.length+1:=A9;have k:σ++cells ⟨false,l,c⟩=(σ++[Cell.lst<|l.map .d])++[Cell.lst<|c.map .d]:=by rw[AD];rfl
 show Ev gl Gi (K+10) _ ⟨t,σ⟩ (.fresh [.d<|.str "inner",.loc σ.length,.loc<|σ.length+1]) ⟨t,_⟩;rw[k,<-m];exact Ak (b:=.fresh [.loc σ.length,.loc (σ++[Cell.lst<|l.map .d]).length]) (Bt (sZ<|iX (pn h rfl a) rfl) rfl) (VM (l:=[.loc σ.length,.loc (σ++[Cell.lst<|l.map .d]).length]) rfl (By rfl (Bx (pn h rfl a) (Bs AN) (λ_=>C0) rfl) rfl) rfl rfl (NA rfl (Cq (BP (λ_=>rfl) (pR rfl CL) rfl) rfl)<|NA rfl (Cq (BP (λ_=>rfl) (pR rfl CL) rfl) rfl) Jg) (by decide:2<=lim)) rfl;exact Ak (b:=.fresh [.loc σ.length]) (Bt (sZ<|iX (pn h rfl a) rfl) rfl) (VM (l:=[.loc σ.length]) rfl (By rfl (Bx (pn h rfl a) (Bs AN) (λ_=>C0) rfl) rfl) rfl rfl (NA rfl (Cq (BP (λ_=>rfl) (pR rfl CL) rfl) rfl) Jg) (by decide:1<=lim)) rfl
def Jn{c:Type}{a b:List c}{m j:Nat}(h:a.length=m):(a++b)[m+j]?=b[j]?:=by subst h;rw[List.getElem?_append_right<|BA _ _,Nat.add_sub_cancel_left]
structure PlsOk(τ:List Cell)(m:Nat)(q:BH)(p:Pag):Prop where
 lay:Lay τ q p
 a:m<=q.1
 b:m<=q.2.1
 c:p.lf=false->m<=q.2.2
 ne:q.1≠q.2.1
 ne':p.lf=false->q.1≠q.2.2/\q.2.1≠q.2.2
theorem fY{a:List Cell}(h:a.length=σ.length):∀p:Pag,PlsOk (a++(cells p++[Cell.lst<|p.hd<|Fu σ p])) σ.length (Fu σ p) p|⟨true,l,c⟩=>⟨⟨Jn h,Jn (j:=0) h,λe=>Bool.noConfusion e⟩,BA _ _,Au _,λe=>Bool.noConfusion e,Nat.ne_of_gt<|CY _,λe=>Bool.noConfusion e⟩|⟨false,l,c⟩=>⟨⟨Jn h,Jn (j:=0) h,λ_=>Jn h⟩,BA _ _,Au _,λ_=>BA _ _,Nat.ne_of_gt<|Nat.lt_succ_of_lt<|CY _,λ_=>⟨Nat.ne_of_gt<|CY _,Nat.ne_of_lt<|CY _⟩⟩
theorem fZ(σ:List Cell):∀p:Pag,(Fu σ p).1=(σ++cells p).length|⟨true,l,c⟩=>by rw[A9];rfl|⟨false,l,c⟩=>by rw[A9];rfl
noncomputable def VN(q:Int×Pag):V:=.d<|.tup [.int q.1,q.2.d]
def fb(hs:σ[s]?=some (.inst [("pages",.loc d)]))(H:HT (σ.set s<|Hn d 0) s d 0 B f)(h:AA t ys)(N:AJ "self" ys=some (.loc s))(Q:AJ "p" ys=some (.d p.d))(S:AJ "n" ys=some (.d<|.int n))(T:f n=.none)(X:n∈B7):∃i j,Ex gl Gi (K+20) inB ⟨t,σ⟩ .next ⟨t,i⟩/\i[s]?=some (.inst [("pages",.loc d)])/\HT (i.set s<|Hn d 0) s d 0 j (upd f n<|some p):=by
 obtain⟨y,L,J⟩:=H.dic;obtain⟨o,m,M,_⟩:=H.own;have g:s≠d:=λe=>by rw[e,M] at m;cases m
 have Y:=N0 hs;have w:(σ.set s<|Hn d 0).length=σ.length:=List.length_set;have Z:σ[d]?=some (.dct false y):=(List.getElem?_set_ne g).symm.trans L;have H2:=H.app<|cells p++[Cell.lst<|p.hd<|Fu σ p];have P:=fY (σ:=σ) w p;have l:∀x,σ.length<=x->Fr s d B f x:=λx O=>H.fr<|w▸O;have H3:=H2.add T X (Da _ L) J P.lay (l _ P.a) (l _ P.b) (λe=>l _<|P.c e) P.ne P.ne';refine⟨(σ++(cells p++[Cell.lst<|p.hd<|Fu σ p])).set d<|.dct false<|BX n (.loc (Fu σ p).1) y,upd B n<|Fu σ p,xO<|FT (v:=.loc (Fu σ p).1) (st₁:=⟨t,σ++(cells p++[Cell.lst<|p.hd<|Fu σ p])⟩) ?_<|Hd (k:=(false,n)) (N1 rfl (pn h rfl N) (Da _ hs) rfl) (pn h rfl S) rfl ?_,C2 (Da _ hs) g,?_⟩;rw[show(Fu σ p).1=(σ++cells p).length from fZ σ p,<-AD];exact Cq (fX (K:=K+9) (σ:=σ) rfl h Q) rfl;rw[Da _ Z];exact Bk (by rw[Gp,Ac<|H.len J];rfl) rfl;rw[List.set_comm _ _ g.symm,List.set_append_left _ _ Y];exact H3
def fc{a:Type}{P:List (Int×a)}{n:Int}{p:a}(h:n∉P.map (·.1)):upd (λm=>AX m P) n (some p)=λm=>AX m<|P++[(n,p)]:=funext λm=>by rw[<-UJ h,PJ];by_cases e:m=n;rw[A5 e,e,Aj];rw[A1 e,Ay e]
def ff(R:List<|Int×Pag):∀(P:List<|Int×Pag)(σ:List Cell)(B:Int->BH)(t:List<|Str×V),((P++R).map (·.1)).Nodup->(∀q∈R,q.1∈B7)->σ[s]?=some (.inst [("pages",.loc d)])->HT (σ.set s<|Hn d 0) s d 0 B (λm=>AX m P)->AA t ys->AJ "self" ys=some (.loc s)->AJ "n" ys=.none->AJ "p" ys=.none->∃i v c,Lp gl Gi 30 (.two "n" "p") inB (R.map VN) ⟨t,σ⟩ ⟨c,i⟩/\i[s]?=some (.inst [("pages",.loc d)])/\HT (i.set s<|Hn d 0) s d 0 v (λm=>AX m<|P++R)/\AA c ys:=by induction R with|nil=>exact λP σ B t _ _ hs H h _ _ _=>⟨σ,B,t,F0,hs,by rw[BJ];exact H,h⟩|cons q R T=>
 intro P σ B t w L hs H h M y x;have J:q.1∉P.map (·.1):=λe=>by rw[AF] at w;exact(List.nodup_append.mp w).2.2 _ e _ AT rfl
 have X:AA (AS "p" (.d q.2.d) (AS "n" (.d<|.int q.1) t))<|("n",.d<|.int q.1)::("p",.d q.2.d)::ys:=.cons ((JW<|by decide).trans CL)<|.cons CL<|(h.other y).other x;obtain⟨j,o,e1,S,O⟩:=fb (K:=10) (p:=q.2) hs H X M rfl rfl (DY.mpr J)<|L q AT;rw[fc J] at O;obtain⟨g,l,k,e2,Q,N,Y⟩:=T (P++[q]) j o _ (by rw[AD];exact w) (λa Z=>L a<|Ah _ Z) S O ((h.other y).other x) M y x;rw[AD] at N;exact⟨g,l,k,ED rfl e1 e2,Q,N,Y⟩
noncomputable def tD(f:BV)(r:Int):D:=BD ⟨λn=>(f n).map Pag.d,r⟩
def VO{c h:Type}(g:c->h)(f:Int->Option c)(a:List Int):DP a (λn=>(f n).map g)=(DP a f).map (vm g):=by induction a with|nil=>rfl|cons n a e=>rw[JZ,JZ];cases f n with|none=>exact e|some y=>exact A3 (_::·) e
def NB(v:C1 f):∃i B,Cl gl Gi 40 [.loc σ.length,.d<|tD f r] (σ++[.inst []]) (.val<|.d .none) i/\HT i σ.length (σ.length+1) r B f:=by
 have h:((σ++[Cell.inst [("pages",V.loc<|σ.length+1)]])++[Cell.dct false []])[σ.length]?=some (.inst [("pages",.loc<|σ.length+1)]):=Da _<|Db _ _;have w:((σ++[Cell.inst [("pages",V.loc<|σ.length+1)]])++[Cell.dct false []])[σ.length+1]?=some (.dct false []):=by rw[AD];exact Jn rfl
 have y:HT (((σ++[Cell.inst [("pages",V.loc<|σ.length+1)]])++[Cell.dct false []]).set σ.length<|Hn (σ.length+1) 0) σ.length (σ.length+1) 0 (λ_=>(0,0,0)) λm=>AX m []:=⟨Gv h,⟨[],C2 w<|Nat.ne_of_gt<|CY _,List.nodup_nil,λ_=>rfl⟩,λ_ _ e=>(nomatch e),⟨λx=>if x=σ.length then(0,3) else(0,4),A5 rfl,A1<|Nat.ne_of_gt<|CY _,λ_ _ e=>(nomatch e)⟩,λ_ _ e=>(nomatch e)⟩;obtain⟨i,a,j,e,k,H,g⟩:=ff (ys:=[("self",.loc σ.length),("tree",.d<|tD f r)]) (AH f) [] _ _ _ (Cf FU) (λq o=>(GH.mp o).1) h y .refl rfl rfl rfl;have c:=H.root r;rw[List.set_set] at c;refine⟨_,a,ER rfl rfl<|Bp rfl (N3 (AK λ_=>rfl)<|N2 (σ':=(σ++[Cell.inst [("pages",V.loc<|σ.length+1)]])++[Cell.dct false []]) rfl (pR rfl rfl) (Da _<|Db _ _) ?_)<|Bp rfl (Ez (l:=⟨(AH f).map VN,false⟩) (By rfl (iX (pR rfl rfl) rfl) ?_) rfl rfl<|Mine.U.up (nL rfl) (P:=λn=>forLoop' (AY gl n) Gi _ _ _ _=some _) e)<|Bp rfl (N3 (AK<|iX (pn g rfl rfl) rfl)<|N2 rfl (pn g rfl rfl) k rfl)<|Jj rfl,?_⟩;show((σ++[Cell.inst []])++[Cell.dct false []]).set σ.length (.inst [("pages",V.loc (σ++[Cell.inst []]).length)])=_;rw[A9,List.set_append_left _ _<|by rw[A9];exact CY _,Ux];rfl;show some (((DP B7 λn=>(f n).map Pag.d).map BT).map V.d,_)=_;rw[VO,Am,Am];rfl;have e:(λm=>AX m<|AH f)=f:=funext λm=>Mp v m;rw[List.nil_append,e] at c;exact c
end
section
variable{i o:List Cell}{s d q:Nat}{r:Int}{j:Int->BH}{f v:BV}{n:Int}{K:Nat}{p:Pag}{t ys:List (Str×V)}{u:Fn}
noncomputable def Jo(j:Int->BH)(q:Int×Pag):V:=.tup [.d<|.int q.1,.tup<|q.2.hd<|j q.1]
def fg(p:Pag)(q:BH):EJ (p.hd q)=.tup (p.hd q):=by unfold Pag.hd;cases p.lf<;>rfl
def fh{c:List (Int×V)}(H:HT i s d r j f)(h:Dic c<|tb j f):(B7.filter λn=>(c.map (·.1)).contains n)=(AH f).map (·.1):=by
 have l:(B7.filter λn=>(c.map (·.1)).contains n)=B7.filter λn=>(f n).isSome:=List.filter_congr λn _=>by rw[Bool.eq_iff_iff,Dp];have e:=h.look n;unfold tb at e;cases hf:f n with|none=>rw[hf] at e;exact⟨λq=>absurd q<|DY.mp e,λq=>Bool.noConfusion q⟩|some p=>rw[hf] at e;exact⟨λ_=>rfl,λ_=>Classical.byContradiction λq=>by rw[DY.mpr q] at e;exact Ae e⟩
 have k:∀a:List Int,(DP a f).map (·.1)=a.filter λn=>(f n).isSome:=by intro a;induction a with|nil=>rfl|cons n a g=>rw[JZ,List.filter_cons];cases hf:f n with|none=>exact g|some y=>exact A3 (n::·) g
 exact l.trans (k B7).symm
def VP(H:HT i s d r j f):Cl gl Ti 40 [.loc s] i (.val<|.tup [.loc i.length,.d<|.int r])<|i++[.lst<|(AH f).map<|Jo j]:=by
 obtain⟨x,z,k⟩:=H.dic;have hs:E9 i "sorted" (.val<|.loc d)=some (.fresh<|((AH f).map (·.1)).map λn=>V.d<|.int n):=by
  refine(A1<|by decide).trans ((A1<|by decide).trans<|(A1<|by decide).trans<|(A5 rfl).trans<|Br (a:=(false,x)) (bnd (a:=d) rfl<|by rw[z];rfl) ?_);have w:=Pa (l:=x.map (·.1)) k.nod λn y=>by
   obtain⟨p,hp⟩:∃p,f n=some p:=by have e:=k.look n;unfold tb at e;cases hf:f n with|none=>rw[hf] at e;exact absurd y (DY.mp e)|some p=>exact⟨p,rfl⟩
   exact H.dm n p hp
  rw[fh H k,Am] at w;exact Aa w<|A3 R.fresh Am
 refine ER rfl rfl (FZ rfl<|Bo<|BU (vs:=[.loc i.length,.d<|.int r]) (CD (Cq (DF (g:=λq:Int×Pag=>V.d<|.int q.1) (h:=Jo j) (b:=λ_=>true) (l:=AH f) (ys:=[("self",.loc s)]) (Ky (λ_=>rfl) (BP (λ_=>rfl) (IY H .refl rfl rfl) hs)<|A3 (λl=>some (l,i)) Am) rfl rfl rfl (.cons rfl .nil) rfl (λq m A c=>⟨FY,λ_=>AK<|BU (vs:=[.d<|.int q.1,.tup<|q.2.hd<|j q.1]) (sN c rfl rfl<|sZ<|BP (λ_=>rfl) (F7 H (GH.mp m).2 c rfl rfl rfl<|pn c rfl rfl) ?_) rfl<|by decide⟩) (AB Go<|nL rfl)<|A3 (List.map _)<|List.filter_eq_self.mpr λ_ _=>rfl) rfl)<|sZ<|Ft (H.app _) .refl rfl rfl) rfl<|by decide);refine(A1<|by decide).trans ((A1<|by decide).trans<|(A5 rfl).trans<|Aa (a:=q.2.hd<|j q.1) ?_<|A3 R.val<|fg q.2 _);show EZ i[(j q.1).1]?=_;rw[(H.lay q.1 q.2 (GH.mp m).2).a];rfl
def Fv{e c:Type}{g:e->Option c}{a:e}{b:c}{l:List e}{m:List c}(h:g a=some b)(k:l.mapM g=some m):(a::l).mapM g=some (b::m):=by rw[List.mapM_cons];exact bnd h<|bnd k rfl
def NC{c a:Type}{g:c->Option a}:[].mapM g=some []:=rfl
def LB(k:Nat)(x:D):FN k i (.d x)=some x:=by cases k<;>rfl
def ND(k:Nat)(l:List D):(l.map V.d).mapM (FN k i)=some l:=by induction l with|nil=>rfl|cons x r a=>exact Fv (LB k x) a
def Q6{l:List D}(k:Nat)(h:i[q]?=Lv l):FN (k+1) i (.loc q)=some (.lst l):=bnd (a:=l.map .d) (by rw[h];rfl)<|Aa (ND k l) rfl
def fi{q:BH}(h:Lay i q p)(k:Nat):FN (k+2) i (.tup<|p.hd q)=some p.d:=by obtain⟨e,l,c⟩:=p;cases e with|true=>exact Aa (a:=[.str "leaf",.lst l]) (Fv (LB _ _)<|Fv (Q6 k h.b) NC) rfl|false=>exact Aa (a:=[.str "inner",.lst l,.lst c]) (Fv (LB _ _)<|Fv (Q6 k h.b)<|Fv (Q6 k<|h.c rfl) NC) rfl
def fj(L:List<|Int×Pag)(h:∀q∈L,Lay i (j q.1) q.2)(k:Nat):(L.map<|Jo j).mapM (FN (k+3) i)=some ((L.map<|vm Pag.d).map BT):=by induction L with|nil=>rfl|cons q L c=>exact Fv (Aa (a:=[.int q.1,q.2.d]) (Fv (LB _ _)<|Fv (fi (h q AT) k) NC) rfl)<|c λa e=>h a<|Ah _ e
def VQ(H:HT i s d r j f):IH (i++[.lst<|(AH f).map<|Jo j]) (.val<|.tup [.loc i.length,.d<|.int r])=some (.val<|.d<|tD f r):=by have e:=H.app [.lst<|(AH f).map<|Jo j];refine Aa (a:=tD f r) (Aa (a:=[.lst<|(AH λn=>(f n).map Pag.d).map BT,.int r]) (Fv (bnd (a:=(AH f).map<|Jo j) (by rw[Db];rfl)<|Aa (fj (AH f) (λq c=>e.lay _ _ (GH.mp c).2) 3) ?_)<|Fv (LB _ _) NC) rfl) rfl;unfold AH;rw[VO]
end
section
variable{g σ':List Cell}{s d q:Nat}{r w k o:Int}{m u:Nat}{j:Int->BH}{f i:BV}{n:Int}{K:Nat}{p:Pag}{z G:List (Str×V)}{y:Fn}{v:Str}{B:St}{t:List Expr}{A:List V}{E C:Pos}
inductive TP(g:List Cell)(s d:Nat)(k:Int)(v:Str)(r:Int)(i:BV):Prop where
 |mk (σ':List Cell) (pl':Int->BH):Cl gl Tj 80 [.loc s,.d (.key k),.d (.str v)] g (.val (.d .none)) σ'->HT σ' s d r pl' i->TP g s d k v r i
inductive TQ(g:List Cell)(s d:Nat)(k r:Int)(i:BV):Prop where
 |mk (σ':List Cell) (pl':Int->BH):Cl gl P1 80 [.loc s,.d (.key k)] g (.val (.d .none)) σ'->HT σ' s d r pl' i->TQ g s d k r i
def Q7(h:PutR 60 g s d r j f r k v .none i)(H:HT g s d r j f):TP g s d k v r i:=by obtain⟨σ',a,c,e,_⟩:=h;exact⟨σ',a,ER rfl rfl<|Bp rfl (Ad (AK<|EF rfl (pR rfl rfl) H.inst rfl (sK (Ft H .refl rfl rfl)<|sR rfl rfl<|sO rfl rfl) H.inst rfl rfl<|c.u rfl) rfl)<|Bp rfl (Av (Fq (λ_=>rfl) (pR rfl rfl) rfl) Bh)<|Jj rfl,e⟩
def VR(h:PutR 60 g s d r j f r k v (.tup [.key o,.int m]) i)(H:HT g s d r j f)(L:Least i u):TP g s d k v u<|upd i u<|some<|AU [o] [r,m]:=by
 obtain⟨a,N,O,c,_⟩:=h;have J:=c.app [Cell.lst [.d<|.key o]];have S:=J.app [Cell.lst [.d<|.int r,.d<|.int m]];have l:(a++[Cell.lst [.d<|.key o]]).length=a.length+1:=by rw[A9];rfl
 have e:(a++[Cell.lst [.d<|.key o]]++[Cell.lst [.d<|.int r,.d<|.int m]]).length=a.length+2:=by rw[A9,l];rfl
 have I:=S.app [Cell.lst [.d<|.str "inner",.loc a.length,.loc (a++[Cell.lst [.d<|.key o]]).length]];obtain⟨M,Q,x⟩:=Pn (q:=((a++[Cell.lst [.d<|.key o]]++[Cell.lst [.d<|.int r,.d<|.int m]]).length,a.length,(a++[Cell.lst [.d<|.key o]]).length)) (p:=AU [o] [r,m]) I L ⟨Db _ _,Da _<|Da _<|Db _ _,λ_=>Da _<|Db _ _⟩ (c.fr<|by rw[e];exact BA _ _) (c.fr<|Au _) (λ_=>c.fr<|by rw[l];exact BA _ _) (by rw[e];exact Nat.ne_of_gt<|Nat.lt_add_of_pos_right<|nL rfl) λ_=>by rw[e,l];exact⟨Nat.ne_of_gt<|CY _,Nat.ne_of_lt<|CY _⟩
 exact⟨_,_,ER rfl rfl<|Bp rfl (Ad (AK<|EF rfl (pR rfl rfl) H.inst rfl (sK (Ft H .refl rfl rfl)<|sR rfl rfl<|sO rfl rfl) H.inst rfl rfl<|O.u rfl) rfl)<|Bp rfl (B4 (Fq (λ_=>rfl) (pR rfl rfl) rfl)<|xO<|N3 (AK<|EF rfl (pR rfl rfl) c.inst rfl (CD (Cq (Bt (sK (CZ GK)<|CD (Cq (Bt (sZ<|iX (pR rfl rfl) rfl) rfl) rfl)<|CD (Cq (Bt (sK (Ft J .refl rfl rfl)<|sZ<|iX (pR rfl rfl) rfl) rfl) rfl) CC) rfl) rfl) CC) I.inst rfl rfl<|Q.u rfl)<|N2 rfl (pR rfl rfl) x.inst rfl)<|Jj rfl,x.root u⟩
def Jp(h:RemR 60 g s d r j f r k i)(H:HT g s d r j f)(L:i r=some p)(N:p.lf=true\/p.xs≠[]):TQ g s d k r i:=by obtain⟨σ',I,O,J,_⟩:=h;refine⟨σ',I,ER rfl rfl<|Bp rfl (Gm rfl<|EF rfl (pR rfl rfl) H.inst rfl (sK (Ft H .refl rfl rfl)<|sO rfl rfl) H.inst rfl rfl<|O.u rfl)<|Bp rfl (Ad (AK<|F7 J L .refl rfl rfl rfl<|Ft J .refl rfl rfl) rfl)<|Bp (xs':=[("self",.loc s),("key",.d<|.key k),("top",.loc (I r).1)]) (σ':=σ') rfl (Av (st₁:=⟨[("self",.loc s),("key",.d<|.key k),("top",.loc (I r).1)],σ'⟩) ?_ Bh)<|Jj rfl,J⟩;show Tt gl P1 76 _ ⟨[("self",.loc s),("key",.d<|.key k),("top",.loc (I r).1)],σ'⟩ false _;obtain⟨M,l,c⟩:=p;cases M with|true=>exact CQ (FR<|EG J L (pR rfl rfl) GK rfl)|false=>cases l with|nil=>exact absurd rfl (N.resolve_left λe=>Bool.noConfusion e)|cons x l=>exact CQ<|Dk (EG J L (pR rfl rfl) GK rfl)<|Dm<|U7 (Fq (λ_=>rfl) (C3 J L<|pR rfl rfl)<|Br (a:=(x::l).map V.d) (Br (a:=(x::l).map V.d) (by show EZ σ'[_]?=_;rw[(J.lay r _ L).b];rfl) rfl) rfl) rfl
def VS{c:Int}(h:RemR 60 g s d r j f r k i)(H:HT g s d r j f)(I:i r=some (AU [] [c])):TQ g s d k c<|upd i r .none:=by
 obtain⟨σ',x,N,l,_⟩:=h;obtain⟨t,J,L⟩:=l.dic;have M:=l.del r J L;have S:s≠d:=λe=>by have:=l.inst;rw[e,J] at this;exact Cell.noConfusion<|Option.some.inj this
 have Q:(σ'.set d<|.dct false<|Cd r t)[(x r).1]?=some (.lst<|(AU [] [c]).hd<|x r):=C2 (l.lay r _ I).a λe=>by have:=(l.lay r _ I).a;rw[e,J] at this;exact Cell.noConfusion<|Option.some.inj this
 have O:(σ'.set d<|.dct false<|Cd r t)[(x r).2.2]?=Lv [.int c]:=C2 ((l.lay r _ I).c rfl) λe=>by have:=(l.lay r _ I).c rfl;rw[e,J] at this;exact Cell.noConfusion<|Option.some.inj this
 refine⟨_,x,ER rfl rfl<|Bp rfl (Gm rfl<|EF rfl (pR rfl rfl) H.inst rfl (sK (Ft H .refl rfl rfl)<|sO rfl rfl) H.inst rfl rfl<|N.u rfl)<|Bp rfl (Ad (AK<|F7 l I .refl rfl rfl rfl<|Ft l .refl rfl rfl) rfl)<|Bp rfl (B4 (CQ<|Dk (EG l I (pR rfl rfl) GK rfl)<|Dm<|U7 (Fq (λ_=>rfl) (C3 l I<|pR rfl rfl)<|Br (a:=[]) (Br (a:=[]) (by show EZ σ'[_]?=_;rw[(l.lay r _ I).b];rfl) rfl) rfl) rfl)<|BR (Q5<|V9 (IY l .refl rfl rfl) (Ft l .refl rfl rfl) J ?_ Q4)<|xO<|N3 (AK<|iX (iX (pR rfl rfl)<|Gw Q rfl)<|Dy (k:=0) O rfl)<|N2 rfl (pR rfl rfl) M.inst rfl)<|Jj rfl,M.root c⟩;rw[L.look r];unfold tb;rw[I];rfl
def NE(a:true=FL y "_Tree")(h:Sl gl y K t B A ⟨z,g⟩)(e:Cl gl Gi K (.loc g.length::A) (g++[.inst []]) (.val<|.d .none) σ'):Ev gl y (K+1) (.Call (.Name "_Tree" C) t [] E) B (.val<|.loc g.length) ⟨z,σ'⟩:=λn=>Bk a.symm<|Ef (c:=_=_) rfl<|bnd (h n)<|bnd (e n) rfl
def LC(I:C1 f)(h:∀g s d j,HT g s d r j f->TP g s d k v w i):Gn (tD f r) k v<|tD i w:=by obtain⟨c,e,L,l⟩:=NB (σ:=[]) (r:=r) I;obtain⟨x,H,J,a⟩:=h c _ _ e l;exact Cl.u (Ct rfl rfl (Ag rfl (Ad (AK<|NE rfl (sO rfl rfl)<|L.u rfl) rfl)<|Ag rfl (Gm rfl<|EF rfl (pR rfl rfl) l.inst rfl (sR rfl rfl<|sO rfl rfl) l.inst rfl rfl<|J.u rfl)<|CR rfl (Bo<|EF rfl (pR rfl rfl) a.inst rfl CC a.inst rfl rfl<|(VP a).u rfl)<|VQ a):Cl gl Kr 100 [.d<|tD f r,.d<|.key k,.d<|.str v] [] (.val<|.d<|tD i w) []) rfl
end
section
variable{g σ':List Cell}{s d q:Nat}{r o k:Int}{i:Int->BH}{f u:BV}{n:Int}{K j:Nat}{l:List (Int×Str)}
inductive Path(f:BV)(k:Int):Nat->Int->List (Int×Str)->Prop
 |leaf {n:Int}{l:List (Int×Str)}:f n=some (Ar l)->Path f k 0 n l
 |inner {j:Nat}{n c:Int}{A B C E:List Int}{l:List (Int×Str)}:Inn f n k A B C E c->Path f k j c l->Path f k (j+1) n l
def Path.has(P:Path f k j n l):∃p,f n=some p:=by cases P with|leaf h=>exact⟨_,h⟩|inner I _=>exact⟨_,I.pg⟩
noncomputable def VT(t:D)(k:Int)(s a:Nat):List<|Str×V:=[("tree",.d t),("key",.d<|.key k),("t",.loc s),("page",.loc a)]
def fk{t:D}(H:HT g s d r i f)(P:Path f k j n l):∀c,j<c->∃m,Wh gl GE 30 (CB<|Bd GE 2) (CA<|Bd GE 2) c ⟨VT t k s (i n).1,g⟩ ⟨VT t k s (i m).1,g⟩/\f m=some (Ar l):=by
 induction P with
 |leaf h=>intro c a;cases c with|zero=>exact absurd a (Nat.lt_irrefl 0)|succ c=>exact⟨_,Ji<|EG H h (pR rfl rfl) GK rfl,h⟩
 |inner I P p=>intro c a;obtain⟨y,v⟩:=P.has;cases c with|zero=>exact absurd a (Nat.not_lt_zero _)|succ c=>obtain⟨m,e,w⟩:=p c<|Nat.lt_of_succ_lt_succ a;exact⟨m,Mw (EG H I.pg (pR rfl rfl) GK rfl) (xO<|Ad (AK<|F7 H v .refl rfl rfl rfl<|BI rfl (Dn H I.pg rfl<|pR rfl rfl) (EF rfl (pR rfl rfl) H.inst rfl (sR rfl rfl<|sO rfl rfl) H.inst rfl rfl<|(I.child H).u rfl)<|Dy ((H.lay _ _ I.pg).c rfl) I.at) rfl) e,w⟩
noncomputable def ET(k:Int)(l:List<|Int×Str):D:=BK (AX k l) .str .none
def NF(z:C1 f)(P:Path f k j r l)(y:j<900)(v:(l.map (·.1)).Nodup):Cl gl GE 80 [.d<|tD f r,.d<|.key k] [] (.val<|.d<|ET k l) []:=by obtain⟨c,p,B,h⟩:=NB (σ:=[]) (r:=r) z;obtain⟨m,e,w⟩:=fk (t:=tD f r) h P 1000<|AM y<|nL rfl;have A:=h.lay m _ w;have x:(c++[Cell.dct (E5<|(l.map AQ).map V.d)<|DC<|l.map<|vm sV])[c.length]?=some (.dct (E5<|(l.map AQ).map V.d)<|DC<|l.map<|vm sV):=Db _ _;refine Ct rfl rfl (Ag rfl (Ad (AK<|NE rfl (sO rfl rfl)<|B.u rfl) rfl)<|Ag rfl (Ad (AK<|F7 h P.has.choose_spec .refl rfl rfl rfl<|Ft h .refl rfl rfl) rfl)<|Ag rfl (My<|Mine.U.up (nL rfl) (P:=λn=>whileLoop' (AY gl n) GE _ _ _ _=some _) e)<|CR rfl (Bo<|Ku (r:=.val<|.d<|ET k l) (σ':=c++[Cell.dct (E5<|(l.map AQ).map V.d)<|DC<|l.map<|vm sV]) rfl (Ks (λ_=>rfl) (C3 h w<|pR rfl rfl) (by show EZ c[(p m).2.1]?=_;rw[A.b];rfl)<|Pp l) x (sO rfl rfl) x ?_) rfl);refine(A5 rfl).trans<|bnd (a:=V.d<|.key k) rfl<|bnd (a:=(true,k)) rfl<|Bk ?_ ?_;rw[Ja v,Pq];rw[Ja v,L1];unfold ET;cases AX k l<;>rfl
def VU(m:C1 f)(P:Path f k j r l)(c:j<900)(a:(l.map (·.1)).Nodup)(h:AX k l=.none):EQ (tD f r) k<|tD f r:=by have e:=NF m P c a;rw[show ET k l=.none from by unfold ET;rw[h];rfl] at e;exact Cl.u (Ct rfl rfl (CR rfl (B4 (Jm (BY (f:=GE) rfl (BQ<|by decide) rfl rfl (sR rfl rfl<|sO rfl rfl) rfl<|e.u rfl) rfl)<|Eg<|Bo<|pR rfl rfl) rfl):Cl gl JO 100 [.d<|tD f r,.d<|.key k] [] (.val<|.d<|tD f r) []) rfl
def NG{v:Str}(t:C1 f)(P:Path f k j r l)(A:j<900)(z:(l.map (·.1)).Nodup)(y:AX k l=some v)(h:∀g s d i,HT g s d r i f->TQ g s d k o u):EQ (tD f r) k<|tD u o:=by have e:=NF t P A z;rw[show ET k l=.str v from by unfold ET;rw[y];rfl] at e;obtain⟨c,m,C,p⟩:=NB (σ:=[]) (r:=r) t;obtain⟨w,x,B,a⟩:=h c _ _ m p;exact Cl.u (Ct rfl rfl (Ag rfl (Av (Jm (BY (f:=GE) rfl (BQ<|by decide) rfl rfl (sR rfl rfl<|sO rfl rfl) rfl<|e.u rfl) rfl) Bh)<|Ag rfl (Ad (AK<|NE rfl (sO rfl rfl)<|C.u rfl) rfl)<|Ag rfl (Gm rfl<|EF rfl (pR rfl rfl) p.inst rfl (sO rfl rfl) p.inst rfl rfl<|B.u rfl)<|CR rfl (Bo<|EF rfl (pR rfl rfl) a.inst rfl CC a.inst rfl rfl<|(VP a).u rfl)<|VQ a):Cl gl JO 120 [.d<|tD f r,.d<|.key k] [] (.val<|.d<|tD u o) []) rfl
end
section
variable{σ σ' u:List Cell}{s d q x:Nat}{r k C y:Int}{E:Int->BH}{f:BV}{n:Int}{K j:Nat}{p:Pag}{c:Cell}{l:List D}{G:Gl}{fn:Fn}{w i o z:St}{elt:Expr}
def Fz(σ σ':List Cell):Prop:=∀x:Nat,σ'[x]?=σ[x]?\/∃l,σ[x]?=Lv l/\σ'[x]?=some (.froz l)
def Fz.refl:Fz σ σ:=λ_=>.inl rfl
theorem Fz.set(F:Fz σ σ')(h:σ[q]?=Lv l):Fz σ<|σ'.set q<|.froz l:=λx=>by by_cases e:q=x;subst e;by_cases a:q<σ'.length;exact .inr ⟨l,h,List.getElem?_set_self a⟩;rw[List.set_eq_of_length_le<|Nat.not_lt.mp a];exact F q;rw[List.getElem?_set_ne e];exact F x
def Fz.keep(F:Fz σ σ')(h:σ[x]?=some c)(a:∀l:List D,c≠.lst (l.map V.d)):σ'[x]?=some c:=(F x).elim (λe=>e.trans h) λ⟨l,e,_⟩=>absurd (Option.some.inj<|h.symm.trans e)<|a l
def Fz.read(F:Fz σ σ')(h:σ[x]?=Lv l):σ'[x]?=Lv l\/σ'[x]?=some (.froz l):=(F x).elim (λe=>.inl<|e.trans h) λ⟨m,e,g⟩=>by have:l=m:=(List.map_inj_right λa b h=>V.d.inj h).mp<|Cell.lst.inj<|Option.some.inj<|h.symm.trans e;exact .inr<|this▸g
def Fz.lst(F:Fz σ σ')(h:σ[x]?=Lv l):EZ σ'[x]?=some (l.map V.d):=(F.read h).elim (λe=>by rw[e];rfl) λe=>by rw[e];rfl
def fq(p:Pag)(q:BH)(l:List D):Cell.lst (p.hd q)≠.lst (l.map V.d):=λe=>by have e:=Cell.lst.inj e;unfold Pag.hd at e;cases hp:p.lf<;>rw[hp] at e<;>cases l with|nil=>cases e|cons a l=>cases l with|nil=>cases e|cons b l=>cases (List.cons.inj (List.cons.inj e).2).1
def Fz.iter(F:Fz σ σ')(h:σ[q]?=Lv l):∃u,Fz σ u/\HR σ' (.val<|.loc q)=some (l.map V.d,u):=by rcases F.read h with e|e;refine⟨_,F.set h,?_⟩;show J5 σ' q σ'[q]?=_;rw[e];exact Aa (BO l) rfl;refine⟨σ',F,?_⟩;show J5 σ' q σ'[q]?=_;rw[e];rfl
noncomputable def LD{e:Type}(P:Int->List e->Prop):List Int->List e->Prop|[],L=>L=[]|c::g,L=>∃a b,L=a++b/\P c a/\LD P g b
noncomputable def Ib(f:BV):Nat->Int->List (Int×Str)->Prop|0,n,L=>f n=some (Ar L)|j+1,n,L=>∃e a,f n=some (AU e a)/\LD (Ib f j) a L
def VV{e:Tg}{v:V}{m h r:List V}{g:List Comprehension}(A:GB e v w=some i)(t:∀n,IG G (AY G<|n+K) fn elt g i=some (m,o))(k:Tn G fn K e [] elt g r o h z):Tn G fn K e [] elt g (v::r) w (m++h) z:=λn=>bnd (bnd A<|bnd (a:=(true,i)) rfl<|t n)<|Aa (k n) rfl
def VW{g:Comprehension}{h:It}{e:Tg}{l:List V}{m:List Comprehension}(y:Dj G fn K g.iter w h i)(t:Dg g.target=some e)(A:Ci fn h.pr e=true)(v:Tn G fn K e g.ifs elt m h.items i l o):∀n,IG G (AY G<|n+K) fn elt (g::m) w=some (l,o):=λn=>bnd (a:=(e,h,i)) (bnd (y n)<|bnd t<|Bk A rfl)<|v n
noncomputable def EH(L:List<|Int×Str):List V:=(L.map AQ).map V.d
def ft{ys:List (Str×V)}{gs:List Comprehension}{P:Int->List (Int×Str)->Prop}{x:Str}(Q:AJ x ys=.none)(S:∀c A a M,P c A->A.length<1000->Fz σ a->AA M ((x,.d<|.int c)::ys)->∃e g,Fz σ e/\AA g ys/\∀n,IG G (AY G<|n+K) fn elt gs ⟨M,a⟩=some (EH A,⟨g,e⟩))(t:List Int):∀L a m,LD P t L->L.length<1000->Fz σ a->AA m ys->∃e I,Fz σ e/\Tn G fn K (.one x) [] elt gs ((t.map D.int).map V.d) ⟨m,a⟩ (EH L) ⟨I,e⟩:=by induction t with|nil=>intro L a m h _ F _;subst h;exact⟨a,m,F,Jg⟩|cons c t O=>intro L a m h J F hs;obtain⟨A,B,rfl,X,T⟩:=h;rw[A9] at J;obtain⟨e,g,F2,N,Z⟩:=S c A a (AS x (.d<|.int c) m) X (AO (BA _ _) J) F<|.cons CL<|hs.other Q;obtain⟨v,H,F3,Y⟩:=O B e g T (AO (Nat.le_add_left _ _) J) F2 N;refine⟨v,H,F3,?_⟩;rw[show EH (A++B)=EH A++EH B from by unfold EH;rw[AF,AF]];exact VV rfl Z Y
def VX{h:Scope}{e B:List (Str×V)}{p:Pos}{g A:Comprehension}{t:It}{m:Tg}{l:List V}{a:List Cell}(v:(GC fn h&&[g,A].all Fm)=true)(y:Dj G fn K g.iter ⟨e,σ⟩ t ⟨e,a⟩)(H:Dg g.target=some m)(L:Ci (fn.sc h.names) t.pr m=true)(I:Tn G (fn.sc h.names) K m g.ifs elt [A] t.items ⟨seen h.names e,a⟩ l ⟨B,σ'⟩)(J:l.length<=lim):Ev G fn (K+1) (.ListComp elt [g,A] h p) ⟨e,σ⟩ (.fresh l) ⟨e,σ'⟩:=Pf (st₂:=⟨B,σ'⟩) v y H L I J
def fu{m:List (Str×V)}{x:Str}{p:Pos}(B:true=Cp (fn.names.lookup x))(A:AJ x m=.none)(L:List V):∀g,AA g m->∃a,Tn G fn (K+1) (.one x) [] (.Name x p) [] L ⟨g,σ⟩ L ⟨a,σ⟩/\AA a m:=by induction L with|nil=>exact λg h=>⟨g,Jg,h⟩|cons v L t=>intro g h;obtain⟨a,e,H⟩:=t (AS x v g)<|h.other A;exact⟨a,NA rfl (kR B CL) e,H⟩
def fv(H:HT σ s d r E f)(j:Nat):∀{n:Int}{L:List (Int×Str)}{σ':List Cell},Ib f j n L->L.length<1000->Fz σ σ'->∃u,Fz σ u/\Cl gl Kq (20*j+30) [.loc s,.d<|.int n] σ' (.fresh<|EH L) u:=by
 have Q:∀{n:Int}{p:Pag}{σ':List Cell}{K:Nat}{Y X T S:Pos},f n=some p->Fz σ σ'->Ev gl Kq (K+4) (.Subscript (.Attribute (.Name "t" Y) "pages" X) (.Name "n" S) T) ⟨[("t",.loc s),("n",.d<|.int n)],σ'⟩ (.val<|.loc (E n).1) ⟨[("t",.loc s),("n",.d<|.int n)],σ'⟩:=λ{n p σ' K Y X T S} g F=>by obtain⟨es,e1,e2⟩:=H.dic;exact BI rfl (N1 rfl (pR rfl rfl) (F.keep H.inst λ_=>nofun) rfl) (pR rfl rfl)<|Jd (F.keep e1 λ_=>nofun)<|(e2.look n).trans<|by unfold tb;rw[g];rfl
 have Z:∀{n:Int}{p:Pag}{σ':List Cell},f n=some p->Fz σ σ'->σ'[(E n).1]?=some (.lst<|p.hd<|E n):=λ{n p σ'} g F=>F.keep (H.lay n p g).a<|fq _ _;induction j with|zero=>intro n L σ' M _ F;have g:f n=some (Ar L):=M;have a:=Z g F;refine⟨σ',F,ER rfl rfl<|Bp rfl (Ad (AK<|Q g F) rfl)<|FZ rfl<|B4 (Af rfl (iX (pR rfl rfl)<|Gw a rfl) (CZ F5)<|Hh<|Gq rfl)<|Eg<|Bo<|BP (λ_=>rfl) (iX (pR rfl rfl)<|Gw a rfl) ?_⟩;exact(A1<|by decide).trans ((A5 rfl).trans<|Aa (a:=EH L) (Br (a:=EH L) (F.lst (H.lay n _ g).b) rfl) rfl)|succ j ih=>
  intro n L σ' M hL F;obtain⟨ks,cs,g,hc⟩:=M;have a:=Z g F;obtain⟨m,N,y⟩:=F.iter<|(H.lay n _ g).c rfl;refine Exists.elim (ft (σ:=σ) (P:=Ib f j) (x:="c") (ys:=[("t",.loc s)]) (K:=20*j+40) (G:=gl) (fn:=_) (elt:=_) (gs:=_) rfl ?hg cs L m _ hc hL N ?hs) λe h=>h.elim λa1 h=>⟨e,h.1,(show Cl gl Kq (20*j+45) [.loc s,.d<|.int n] σ' (.fresh<|EH L) e from ER rfl rfl<|Bp rfl (Ad (AK<|Q g F) rfl)<|Bp rfl (Av (Af rfl (iX (pR rfl rfl)<|Gw a rfl) (CZ F5)<|Hh<|Gq rfl) Bh)<|FZ rfl<|Bo<|VX rfl (By rfl (iX (pR rfl rfl)<|Gw a rfl) y) rfl rfl h.2 ?hl).up<|by omega⟩;case hl=>unfold EH;rw[A4,A4];exact BS<|AM hL<|nL rfl
  case hs=>exact .cons rfl .nil
  case hg=>intro c A m O hA J N I;obtain⟨e,F2,c2⟩:=ih hA J N;have B:AA O [("t",.loc s)]:=I.trans<|.cons rfl .nil;exact Exists.elim (fu (x:="p") (p:=_) (fn:=Kq.sc _) (K:=20*j+39) (σ:=e) rfl rfl (EH A) O B) λv h=>⟨e,v,F2,h.2,VW (Ky (λ_=>rfl) (U6 rfl (BQ<|by decide) rfl rfl (sN I rfl rfl<|sZ<|pn I rfl rfl)<|c2.up<|BW (nL rfl) _) rfl) rfl rfl h.1⟩
def VY{l m e:Expr}{p:Pos}{a b c:Int}(t:Ev gl fn K l w (.val<|.d<|.key a) w)(h:Ev gl fn K m w (.val<|.d<|.key b) w)(g:Ev gl fn K e w (.val<|.d<|.key c) w):Tt gl fn (K+1) (.Compare l [.LtE,.Lt] [m,e] p) w (decide (a<=b)&&decide (b<c)) w:=λn=>by show OL (AY gl<|n+K) fn l (.LtE,m) (.Lt,e) w=_;refine Bk rfl<|bnd (a:=((true,a),w)) (bnd (t n) rfl)<|bnd (a:=((true,b),w)) (bnd (h n) rfl)<|bnd (a:=decide (a<=b)) rfl ?_;show cond (decide (a<=b)) _ _=_;cases decide (a<=b) with|true=>exact bnd (a:=((true,c),w)) (bnd (g n) rfl) rfl|false=>rfl
noncomputable def LE(C y:Int)(L:List<|Int×Str):List<|Int×Str:=L.filter λp=>decide (C<=p.1)&&decide (p.1<y)
def g5{L:List (Int×Str)}(H:C1 f)(P:Ib f j r L)(B:j<5)(e:L.length<1000):Cl gl MW 160 [.d<|tD f r,.d<|.key C,.d<|.key y] [] (.fresh<|EH<|LE C y L) []:=by obtain⟨v,A,J,m⟩:=NB (σ:=[]) (r:=r) H;obtain⟨t,N,I⟩:=fv m j P e .refl;refine Ct rfl rfl (Ag rfl (Ad (AK<|NE rfl (sO rfl rfl)<|J.u rfl) rfl)<|CR rfl (Bo<|DF (g:=λp=>V.d<|AQ p) (h:=λp=>V.d<|AQ p) (b:=λp:Int×Str=>decide (C<=p.1)&&decide (p.1<y)) (l:=L) (lr:=EH<|LE C y L) (ys:=[("low",.d<|.key C),("high",.d<|.key y)]) (Ky (λ_=>rfl) (U6 rfl (BQ<|by decide) rfl rfl (sR rfl rfl<|sZ<|Ft m .refl rfl rfl)<|I.up ?_)<|A3 (λl=>some (l,_)) Am) rfl rfl rfl (.cons rfl<|.cons rfl .nil) rfl (λp _ M a=>⟨Ei<|VY (pn a rfl rfl) (iX (pn a rfl rfl) rfl)<|pn a rfl rfl,λ_=>kN a rfl rfl⟩) (BS<|AM e<|nL rfl) (Am (f:=AQ) (g:=V.d)).symm)<|Aa (ND 8<|(LE C y L).map AQ) rfl);exact AB (Ds (Nat.mul_le_mul_left 20<|BS B) 30)<|nL rfl
end
def VZ:∀(n:Nat)(l:List Int),(∀k:Nat,k<n->(k:Int)∈l)->n<=l.length:=by intro n;induction n with|zero=>exact λ_ _=>Bm _|succ n d=>intro l h;have a:=h n<|CY n;have:=d (l.erase n) λk c=>(List.mem_erase_of_ne λe=>Nat.ne_of_lt c<|Int.ofNat.inj e).mpr<|h k<|Nat.lt_succ_of_lt c;rw[List.length_erase_of_mem a] at this;exact Nat.lt_of_le_sub_one (List.length_pos_of_mem a) this
structure Free(U:List Int)(m:Nat):Prop where
 low:∀k:Nat,k<m->(k:Int)∈U
 no:(m:Int)∉U
def Free.le{U:List Int}{m:Nat}(h:Free U m):m<=U.length:=VZ m U h.low
def free_ex(U:List Int):∃m,Free U m:=by
 have:∀n i:Nat,(∀k:Nat,k<i->(k:Int)∈U)->(∃m,Free U m)\/∀k:Nat,k<i+n->(k:Int)∈U:=by intro n;induction n with|zero=>exact λi h=>.inr h|succ n d=>intro i h;by_cases c:(i:Int)∈U;rw[show i+(n+1)=i+1+n from by rw[Bv,C7 1]];exact d (i+1) λk a=>(Nat.lt_or_eq_of_le<|CF a).elim (h k) λe=>e▸c;exact .inl ⟨i,h,c⟩
 refine(this (U.length+1) 0 λk a=>absurd a<|Nat.not_lt_zero k).elim id λh=>absurd (VZ (U.length+1) U λk a=>h k<|by rw[Nat.zero_add];exact a)<|Nat.not_succ_le_self _
def Free.perm{U W:List Int}{m:Nat}(h:Free U m)(p:∀n,n∈U↔n∈W):Free W m:=⟨λk a=>(p _).mp<|h.low k a,λq=>h.no<|(p _).mpr q⟩
section
variable{G:Gl}{c:Fn}{K a:Nat}{g:St}{σ:List Cell}{xs:List (Str×V)}{e o:Expr}{p q:Pos}{r:R}{l:List D}{w:D}
def D3{xs ys:List D}{r₁ r₂:R}(f:I7 r₂=.none)(j:Ch σ r₁=some (xs.map V.d))(i:Ch σ r₂=some (ys.map V.d))(h:xs.length+ys.length<1000):Er σ .Add r₁ r₂=some (.fresh<|(xs++ys).map V.d):=by rw[AF];exact Mv f j i<|by rw[A4,A4];exact BS<|AM h<|nL rfl
def g7{n:Int}{U:List Int}:KJ (.int n) (U.map .int)=some (decide (n∈U)):=by induction U with|nil=>rfl|cons u U d=>refine bnd (a:=decide (u=n)) rfl<|Aa d ?_;rw[Bool.eq_iff_iff,Bool.or_eq_true,decide_eq_true_eq,decide_eq_true_eq,decide_eq_true_eq,An];exact or_congr eq_comm Iff.rfl
def LF{i:Int}{l:List V}(k:∀n,Fk G (AY G<|n+K) c (.Call (.Name "range" p) [e] [] q) g=Lw (AY G<|n+K) c [e] g)(h:Ev G c K e g (.val<|.d<|.int i) ⟨xs,σ⟩)(f:KO 0 i=true)(j:(HO 0 i).map (λi=>V.d<|.int i)=l):Dj G c K (.Call (.Name "range" p) [e] [] q) g ⟨l,false⟩ ⟨xs,σ⟩:=λn=>(k n).trans<|j▸DM rfl (bnd (a:=e) rfl<|bnd (a:=(i,⟨xs,σ⟩)) (bnd (bnd (h n) rfl) rfl)<|Bk f rfl)
def g8{i j:Int}{l:List V}{f:St}(s:∀n,Fk G (AY G<|n+K) c (.Call (.Name "range" p) [e,o] [] q) g=Lw (AY G<|n+K) c [e,o] g)(h:Ev G c K e g (.val<|.d<|.int i) f)(t:Ev G c K o f (.val<|.d<|.int j) ⟨xs,σ⟩)(k:KO i j=true)(m:(HO i j).map (λi=>V.d<|.int i)=l):Dj G c K (.Call (.Name "range" p) [e,o] [] q) g ⟨l,false⟩ ⟨xs,σ⟩:=λn=>(s n).trans<|m▸bnd (a:=(i,f)) (bnd (bnd (h n) rfl) rfl) (bnd (a:=(j,⟨xs,σ⟩)) (bnd (bnd (t n) rfl) rfl)<|Bk k rfl)
def Va(M N:Nat):HO (M:Int) ((M+N:Nat):Int)=(List.range N).map λi:Nat=>((M+i:Nat):Int):=by unfold HO;rw[show((M+N:Nat):Int)-(M:Int)=(N:Int) from by rw[Int.natCast_add,Int.add_comm,Int.add_sub_cancel],Int.toNat_natCast];exact List.map_congr_left λi _=>(Int.natCast_add ..).symm
def NH(N:Nat):HO 0 (N:Int)=(List.range N).map λi:Nat=>(i:Int):=by have:=Va 0 N;rw[Nat.zero_add] at this;exact this.trans<|List.map_congr_left λi _=>by rw[Nat.zero_add]
def LG{M N:Nat}(h:M<1000)(d:N<1000):KO (M:Int) (N:Int)=true:=CN.mpr ⟨Ac<|BS<|AM h<|nL rfl,Ac<|BS<|AM d<|nL rfl⟩
def Vb{d:Int->Int->Bool}{l:List Int}{m:Int}(f:m∈l)(h:∀a∈l,d a m=true)(k:∀a b,d a b=true->d b a=true->a=b):GW d l=some m:=by have j:l.all (λa=>d a m)=true:=List.all_eq_true.mpr h;unfold GW;cases hf:l.find? λm=>l.all λa=>d a m with|none=>exact absurd j (List.find?_eq_none.mp hf m f)|some i=>exact A3 some<|k _ _ (h i<|List.mem_of_find?_eq_some hf)<|List.all_eq_true.mp (List.find?_some (p:=λm=>l.all λa=>d a m) hf) m f
def Q8(l:List Int):GA (l.map .int)=some l:=by induction l with|nil=>rfl|cons a l d=>exact bnd (a:=(false,a)) rfl<|bnd (a:=a) rfl<|Aa d rfl
def Vc{l:List Int}{m:Int}(f:m∈l)(h:∀a∈l,m<=a):E9 σ "min" (.fresh<|(l.map D.int).map V.d)=some (.val<|.d<|.int m):=(A1<|by decide).trans<|(A1<|by decide).trans<|(A1<|by decide).trans<|(A1<|by decide).trans<|(A1<|by decide).trans<|(A5 rfl).trans<|bnd (a:=(l.map D.int).map V.d) rfl<|bnd (BO _)<|bnd (Q8 l)<|Aa (Vb f (λa i=>Ac<|h a i) λa b k j=>Int.le_antisymm (D2 j)<|D2 k) rfl
def Vd{l:List Int}{m:Int}(f:m∈l)(h:∀a∈l,a<=m):E9 σ "max" (.fresh<|(l.map D.int).map V.d)=some (.val<|.d<|.int m):=(A1<|by decide).trans<|(A1<|by decide).trans<|(A1<|by decide).trans<|(A1<|by decide).trans<|(A5 rfl).trans<|bnd (a:=(l.map D.int).map V.d) rfl<|bnd (BO _)<|bnd (Q8 l)<|Aa (Vb f (λa i=>Ac<|h a i) λa b k j=>Int.le_antisymm (D2 k)<|D2 j) rfl
def g9{l:List Int}:E9 σ "sum" (.fresh<|(l.map D.int).map V.d)=some (.val<|.d<|.int l.sum):=(A1<|by decide).trans<|(A1<|by decide).trans<|(A1<|by decide).trans<|(A1<|by decide).trans<|(A1<|by decide).trans<|(A1<|by decide).trans<|(A5 rfl).trans<|bnd (a:=(l.map D.int).map V.d) rfl<|bnd (BO _)<|Aa (Q8 l) rfl
def Ve{l f:List D}(h:EL l=some f):E9 σ "sorted" (.fresh<|l.map V.d)=some (.fresh<|f.map V.d):=(A1<|by decide).trans<|(A1<|by decide).trans<|(A1<|by decide).trans<|(A5 rfl).trans<|DM rfl<|bnd (a:=l.map V.d) rfl<|bnd (BO l)<|Aa h rfl
def gC{d:D}{f:List D}{b:Bool}(i:(Bj d 30&&Du f 30)=true)(h:KJ d f=some b):G9 σ (.val<|.d d) (.val<|.d<|.lst f)=some b:=DM rfl<|bnd (a:=d) rfl<|bnd (a:=f.map V.d) rfl<|bnd (BO f)<|Bk i h
def CS(h:l[a]?=some w):Ce σ (.val<|.d<|.lst l) (.val<|.d<|.int a)=some (.d w):=DM rfl<|bnd (a:=(a:Int)) rfl<|bnd (a:=l.map V.d) rfl<|N5 _<|by rw[CP,h];rfl
def Gy(k:Nat):Eb σ (.val<|.d<|.lst l) .none (some (k:Int))=some (.fresh<|(l.take k).map V.d):=by rw[List.map_take];exact A3 (λl=>some<|R.fresh l)<|Jf _ _
def Fw(k:Nat):Eb σ (.val<|.d<|.lst l) (some (k:Int)) .none=some (.fresh<|(l.drop k).map V.d):=by rw[List.map_drop];exact A3 (λl=>some<|R.fresh l)<|Ps _ _
def Ic{d h:Type}(f:d->h)(A:List d)(B:List d):((A++B).map f).take A.length=A.map f:=by rw[AF,List.take_left'<|A4 f]
def LH{d h:Type}(f:d->h)(A:List d)(x:d)(B:List d):((A++x::B).map f).drop (A.length+1)=B.map f:=by rw[show A++x::B=(A++[x])++B from by rw[AD];rfl,AF,List.drop_left'<|by rw[A4,A9];rfl]
def Do{σ:List Cell}(f:List D):E9 σ "len" (.val<|.d<|.lst f)=some (.val<|.d<|.int f.length):=by have:E9 σ "len" (.val<|.d<|.lst f)=some (.val<|.d<|.int (f.map V.d).length):=rfl;rw[this,A4]
def LJ{σ:List Cell}(f:List D):E9 σ "len" (.val<|.d<|.tup f)=some (.val<|.d<|.int f.length):=by have:E9 σ "len" (.val<|.d<|.tup f)=some (.val<|.d<|.int (f.map V.d).length):=rfl;rw[this,A4]
end
section
variable{G:Gl}{fn:Fn}{K:Nat}{i d:List Cell}{f ys:List (Str×V)}{elt:Expr}{p:Pos}{m o:Type}{l:List m}{g:m->V}{inn:m->List o}{g2 h:m->o->V}{b:m->o->Bool}{x y:Str}{n j:Comprehension}{k:Scope}
def gD(A:AJ x ys=.none)(u:AJ y ((x,V.d .none)::ys)=.none)(L:Dg j.target=some (.one y))(M:Ci fn false (.one y)=true) (B:∀a∈l,∀r,AA r ((x,g a)::ys)->Dj G fn K j.iter ⟨r,i⟩ ⟨(inn a).map<|g2 a,false⟩ ⟨r,i⟩/\∀c∈inn a,∀r,AA r ((y,g2 a c)::(x,g a)::ys)->Hk G fn K j.ifs ⟨r,i⟩ (b a c)/\(b a c=true->Kp G fn K fn.hm elt ⟨r,i⟩ (h a c) ⟨r,i⟩)):∀f,AA f ys->∃w,Tn G fn K (.one x) [] elt [j] (l.map g) ⟨f,i⟩ (l.flatMap λa=>((inn a).filter<|b a).map<|h a) ⟨w,i⟩:=by
 have t:∀v,AJ y ((x,v)::ys)=.none:=λv=>by rw[IS] at u ⊢;by_cases e:y=x;rw[A5 e] at u;exact FO u;rw[A1 e] at u ⊢;exact u
 induction l with|nil=>exact λf _=>⟨f,Jg⟩|cons a l J=>
  intro f hs;have C:AA (AS x (g a) f)<|(x,g a)::ys:=.cons CL<|hs.other A;have q:=B a AT;obtain⟨H,S,I⟩:=Ud (σ:=i) (g:=g2 a) (h:=h a) (b:=b a) (tg:=.one y) (ifs:=j.ifs) (elt:=elt) (l:=inn a) (ys:=(x,g a)::ys) _ C λc N r s=>⟨AS y (g2 a c) r,rfl,s.other<|t _,(q r s).2 c N _<|.cons CL<|s.other<|t _⟩;obtain⟨E,Q⟩:=J (λT O=>B T<|Ah _ O) H λz v e=>by by_cases s:z=x;rw[s,A] at e;exact Ae e;exact I z v<|(A1 s).trans e
  exact⟨E,VV rfl (VW (q _ C).1 L M S) Q⟩
def LK{lr:List V}(B:Dj G fn K n.iter ⟨f,i⟩ ⟨l.map g,false⟩ ⟨f,d⟩)(r:(GC fn k&&[n,j].all Fm)=true)(H:Dg n.target=some (.one x))(E:n.ifs=[])(s:Ci (fn.sc k.names) false (.one x)=true)(hs:AA (seen k.names f) ys)(u:AJ x ys=.none)(t:AJ y ((x,V.d .none)::ys)=.none)(v:Dg j.target=some (.one y))(A:Ci (fn.sc k.names) false (.one y)=true) (C:∀a∈l,∀q,AA q ((x,g a)::ys)->Dj G (fn.sc k.names) K j.iter ⟨q,d⟩ ⟨(inn a).map<|g2 a,false⟩ ⟨q,d⟩/\∀c∈inn a,∀q,AA q ((y,g2 a c)::(x,g a)::ys)->Hk G (fn.sc k.names) K j.ifs ⟨q,d⟩ (b a c)/\(b a c=true->Kp G (fn.sc k.names) K fn.hm elt ⟨q,d⟩ (h a c) ⟨q,d⟩)) (w:(l.flatMap λa=>((inn a).filter<|b a).map<|h a)=lr) (z:lr.length<=lim):Ev G fn (K+1) (.ListComp elt [n,j] k p) ⟨f,i⟩ (.fresh lr) ⟨f,d⟩:=by obtain⟨I,e⟩:=gD (fn:=fn.sc k.names) u t v A C _ hs;rw[w] at e;exact VX r B H s (E▸e) z
end
abbrev LR:=Option Int×List Int×List (Int×Str)
noncomputable def eS(s:Option Int):D:=BK s .key .none
noncomputable def eN(a:List Int):D:=.tup<|a.map .int
noncomputable def AP(r:LR):D:=.tup [eS r.1,eN r.2.1,.lst<|r.2.2.map AQ]
noncomputable def AI(l:List LR):D:=.lst<|l.map AP
noncomputable def nmz(l:List LR):List Int:=l.flatMap (·.2.1)
def Id(f:Fn)(K:Nat)(a:List V)(l:List LR):Prop:=Cl gl f K a [] (.fresh<|(l.map AP).map V.d) []
noncomputable def Jq(k:Int)(s:Option Int):Bool:=BK s (λs=>decide (s<=k)) false
noncomputable def NI(k:Int)(s:Option Int):Bool:=BK s (λs=>decide (k<s)) false
section
variable{K m:Nat}{d:List Cell}{k:Int}{x h:LR}{A B U S W c:List LR}{e:List Int}
def gE{s:Option Int}{b:Bool}(h:(Jq k s=b/\b=true)\/(NI k s=true/\b=false)):E4 .LtE d (.val<|.d<|eS s) (.val<|.d<|.key k)=some b:=by
 cases s with
 |none=>rcases h with⟨h,rfl⟩|⟨h,_⟩<;>cases h
 |some s=>refine Po ?_;rcases h with⟨h,_⟩|⟨h,rfl⟩;exact h;exact decide_eq_false<|Int.not_le.mpr<|D2 h
def LL{g:Type}{f:g->D}{l:List g}:HR d (.fresh<|(l.map f).map V.d)=some (l.map λa=>V.d<|f a,d):=A3 (λl=>some (l,d)) Am
def DG{g:Type}{f:g->D}{l:List g}:HR d (.val<|.d<|.lst<|l.map f)=some (l.map λa=>V.d<|f a,d):=A3 (λl=>some (l,d)) Am
def Vf{g:Type}{f:g->D}{l:List g}:HR d (.val<|.d<|.tup<|l.map f)=some (l.map λa=>V.d<|f a,d):=A3 (λl=>some (l,d)) Am
def Vg(o:∀r∈A,Jq k r.1=true)(i:∀r∈B,NI k r.1=true)(t:A.length+B.length<100):Cl gl JP 30 [.d<|AI<|x::(A++B),.d<|.key k] [] (.val<|.d<|.int A.length) []:=by
 have j:∀{r:LR},NI k r.1=true->Jq k r.1=false:=λ{r} h=>by obtain⟨s,_⟩:=r;cases s with|none=>exact Bw h|some s=>exact decide_eq_false<|Int.not_le.mpr<|D2 h
 have w:(A++B).filter (λr=>Jq k r.1)=A:=by rw[List.filter_append,List.filter_eq_self.mpr o,List.filter_eq_nil_iff.mpr λr f q=>absurd ((j<|i r f).symm.trans q) Cb,BJ]
 have v:∀l:List LR,(l.map λ_=>(1:Int)).sum=(l.length:Int):=λl=>by induction l with|nil=>rfl|cons a l p=>rw[List.map_cons,List.sum_cons,p,CK,Int.natCast_add,Int.add_comm];rfl
 refine Cl.u (Ct rfl rfl (CR rfl (Bo<|BP (λ_=>rfl) (DF (g:=λr=>V.d<|AP r) (h:=λ_=>V.d<|.int 1) (b:=λr:LR=>Jq k r.1) (l:=A++B) (lr:=((A.map λ_=>(1:Int)).map D.int).map V.d) (ys:=[("key",.d<|.key k)]) (By rfl (Bx (pR rfl rfl) (Bs AN) (λ_=>C0)<|Fw (l:=(x::(A++B)).map AP) 1) LL) rfl rfl rfl (.cons rfl .nil) rfl (λr f y n=>⟨Ei<|Af rfl (iX (pn n rfl rfl) rfl) (pn n rfl rfl)<|gE ?_,λ_=>AK AN⟩) ?_ ?_) g9) ?_):Cl gl JP 20 [.d<|AI<|x::(A++B),.d<|.key k] [] (.val<|.d<|.int A.length) []) rfl;exact(BE.mp f).elim (λq=>.inl ⟨rfl,o r q⟩) λq=>.inr ⟨i r q,j<|i r q⟩;rw[A9];exact BS<|AM t<|nL rfl;rw[w,Am,Am];rfl;rw[v];rfl
def Q9{j i n:Type}(f:j->List i)(g:i->n)(l:List j):(l.flatMap λa=>((f a).filter λ_=>true).map g)=(l.flatMap f).map g:=by rw[List.map_flatMap];exact A3 (λh=>l.flatMap h)<|funext λa=>by rw[List.filter_eq_self.mpr λ_ _=>rfl]
def Vh(h:Free (nmz c) m)(j:(nmz c).length<100):Cl gl MX 40 [.d<|AI c] [] (.val<|.d<|.int m) []:=by have p:Du ((nmz c).map D.int) 30=true:=Jc λ_ _=>rfl;have s:=h.le;refine Cl.u (K:=30) (Ct rfl rfl<|Ag (xs':=[("rows",.d<|AI c),("used",.d<|.lst<|(nmz c).map D.int)]) (σ':=[]) rfl (Ad (BN (LK (g:=λr=>V.d<|AP r) (inn:=λr:LR=>r.2.1) (g2:=λ_ n=>V.d<|.int n) (h:=λ_ n=>V.d<|.int n) (b:=λ_ _=>true) (l:=c) (lr:=((nmz c).map D.int).map V.d) (ys:=[]) (By rfl (pR rfl rfl) DG) rfl rfl rfl rfl .nil rfl rfl rfl rfl (λr _ o f=>⟨By rfl (iX (pn f rfl rfl) rfl) Vf,λn _ o f=>⟨FY,λ_=>kN f rfl rfl⟩⟩) ?_ ?_) rfl<|BO _) rfl)<|CR rfl (Bo<|BP (λ_=>rfl) (DF (g:=λi:Nat=>V.d<|.int i) (h:=λi:Nat=>V.d<|.int i) (b:=λi:Nat=>!decide ((i:Int)∈nmz c)) (l:=List.range<|(nmz c).length+1) (lr:=((((List.range<|(nmz c).length+1).filter λi:Nat=>!decide ((i:Int)∈nmz c)).map λi:Nat=>(i:Int)).map D.int).map V.d) (ys:=[("used",.d<|.lst<|(nmz c).map D.int)]) (LF (i:=(((nmz c).length+1:Nat):Int)) (λ_=>rfl) (Ak (BP (λ_=>rfl) (pR rfl rfl)<|Do _) AN ?_) (LG (M:=0) (nL rfl)<|AM (Cc j)<|nL rfl) ?_) rfl rfl rfl (.cons rfl .nil) rfl (λi _ o f=>⟨Ei<|JY (pn f rfl rfl) (pn f rfl rfl) (gC (by rw[p];rfl) g7) rfl,λ_=>kN f rfl rfl⟩) ?_ ?_)<|Vc ?_ ?_) rfl) rfl;exact(Q9 _ _ _).trans (by rw[Am];rfl);rw[A4,A4];exact BS<|AM j<|nL rfl;refine A3 (λi:Int=>some<|R.val<|V.d<|.int i) ?_;rw[A4];rfl;rw[NH,Am];rfl;rw[List.length_range];exact BS<|AM (Cc j)<|nL rfl;rw[Am,Am];rfl;exact B9.mpr ⟨m,List.mem_filter.mpr ⟨List.mem_range.mpr<|D0 s,by rw[decide_eq_false h.no];rfl⟩,rfl⟩;intro a v;obtain⟨i,t,rfl⟩:=B9.mp v;refine Int.ofNat_le.mpr<|Nat.not_lt.mp λq=>?_;have:=(List.mem_filter.mp t).2;rw[Ac<|h.low i q] at this;exact Bw this
def NJ(x:LR)(a:A.length+B.length<100):Er d .Add (.fresh<|(A.map AP++[AP x]).map V.d) (.fresh<|(B.map AP).map V.d)=some (.fresh<|((A++x::B).map AP).map V.d):=by refine(D3 (xs:=A.map AP++[AP x]) (ys:=B.map AP) rfl rfl rfl ?_).trans<|A3 (λl:List D=>some<|R.fresh<|l.map V.d) ?_;rw[A9,A4,A4,DB];exact AM (Cc a)<|nL rfl;rw[AF,AD];rfl
def LN(l:List LR):IH d (.fresh<|(l.map AP).map V.d)=some (.fresh<|(l.map AP).map V.d):=Aa (ND 8<|l.map AP) rfl
def LO(a:A.length+B.length<100):Id IR 30 [.d<|AI<|A++x::B,.d<|.int A.length,.d<|eN e]<|A++(x.1,e,x.2.2)::B:=by
 have ex:((A++x::B).map AP)[A.length]?=some (AP x):=by rw[CP,mid rfl];rfl
 exact Cl.u (K:=20) (Ct rfl rfl<|CR rfl (Bo<|Ak (Ak (Bx (pR rfl rfl) (λ_=>C0) (Bs<|pR rfl rfl)<|Ic AP A (x::B)▸Gy A.length) (Bt (sZ<|BU (v:=.d<|AP (x.1,e,x.2.2)) (sK (iX (BI rfl (pR rfl rfl) (pR rfl rfl)<|CS ex) rfl)<|sR rfl rfl<|sZ<|iX (BI rfl (pR rfl rfl) (pR rfl rfl)<|CS ex) rfl) rfl rfl) rfl)<|D3 (xs:=A.map AP) (ys:=[AP (x.1,e,x.2.2)]) rfl rfl rfl<|by rw[A4];exact AM (Cc<|AO (BA A.length B.length) a)<|nL rfl) (Bx (pR rfl rfl) (Bs<|Ak (pR rfl rfl) AN rfl) (λ_=>C0)<|LH AP A x B▸Fw (A.length+1))<|NJ (x.1,e,x.2.2) a)<|LN _) rfl
end
structure Seg(U:List LR)(h:LR)(S W:List LR):Prop where
 hd:1<h.2.1.length
 one:∀r∈S,r.2.1.length=1
 nx:∀r∈W.head?,1<r.2.1.length
section
variable{K j:Nat}{d:List Cell}{h:LR}{U S W c:List LR}
noncomputable def DR(c:List LR)(i:Nat):Nat:=((c[i]?).map (·.2.1.length)).getD 0
def Jr{r:LR}{i:Nat}(e:c[i]?=some r):DR c i=r.2.1.length:=by unfold DR;rw[e];rfl
def Seg.at_h(g:Seg U h S W):1<DR (U++h::(S++W)) U.length:=by rw[Jr<|mid rfl];exact g.hd
def Seg.in_(g:Seg U h S W){i:Nat}(e:U.length<i)(f:i<U.length+1+S.length):¬1<DR (U++h::(S++W)) i:=by obtain⟨j,rfl⟩:=Nat.exists_eq_add_of_le<|Nat.succ_le_of_lt e;have a:j<S.length:=Nat.lt_of_add_lt_add_left f;rw[Jr (r:=S[j])<|by rw[List.getElem?_append_right<|BS e,show U.length+1+j-U.length=j+1 from by rw[Bv,Nat.add_sub_cancel_left,C7],List.getElem?_cons_succ,List.getElem?_append_left a,Cv a],g.one _<|List.getElem_mem a];exact Nat.lt_irrefl 1
def Vi:(U++h::(S++W)).length=U.length+1+S.length+W.length:=by rw[A9,CK,A9,Bv U.length,Bv U.length,C7 1,DB S.length]
def Seg.at_w(g:Seg U h S W)(a:W≠[]):1<DR (U++h::(S++W)) (U.length+1+S.length):=by cases W with|nil=>exact absurd rfl a|cons w W=>rw[Jr (r:=w)<|by rw[show U++h::(S++w::W)=(U++h::S)++w::W from by rw[AD];rfl];exact mid<|by rw[A9,CK,Bv,C7 1]];exact g.nx w rfl
def Vj{k g:List (Str×V)}{i:Nat}{q p o m l v u t s:Pos}{a b:Nat}{f:Fn}(A:∀{K n:Nat}{r:St},Es gl (AY gl<|n+K) f "len" [.Subscript (.Subscript (.Name "rows" q) (.Name "i" p) o) (.Constant (.int 1) a m) l] r=IJ (AY gl<|n+K) f "len" (.Subscript (.Subscript (.Name "rows" q) (.Name "i" p) o) (.Constant (.int 1) a m) l) r)(y:true=Cp (f.names.lookup ("rows" : Str)))(x:true=Cp (f.names.lookup ("i" : Str)))(h:AA k g)(C:AJ "rows" g=some (.d<|AI c))(B:AJ "i" g=some (.d<|.int i))(z:i<c.length):Tt gl f (K+5) (.Compare (.Call (.Name "len" v) [.Subscript (.Subscript (.Name "rows" q) (.Name "i" p) o) (.Constant (.int 1) a m) l] [] u) [.Gt] [.Constant (.int 1) b t] s) ⟨k,d⟩ (decide (1<DR c i)) ⟨k,d⟩:=by have e:c[i]?=some c[i]:=Cv z;refine Af rfl (BP (λ_=>A) (iX (BI rfl (pn h y C) (pn h x B)<|CS (w:=AP c[i])<|by rw[CP,e];rfl) rfl)<|LJ _) AN<|CX ?_;rw[A4,Jr e];exact decide_eq_decide.mpr Bc
def NL(g:Seg U h S W)(y:j<=S.length)(k:(U++h::(S++W)).length<100):Cl gl JQ 40 [.d<|AI<|U++h::(S++W),.d<|.int (U.length+j:Nat)] [] (.val<|.d<|.tup [.int U.length,.int (U.length+1+S.length:Nat)]) []:=by
 have L:=Vi (U:=U) (h:=h) (S:=S) (W:=W);generalize t:U++h::(S++W)=c at *;have C:1<DR c U.length:=t▸g.at_h;have v:∀i,U.length<i->i<U.length+1+S.length->¬1<DR c i:=λi A z=>t▸g.in_ A z;have B:W≠[]->1<DR c (U.length+1+S.length):=λq=>t▸g.at_w q;have r:U.length+j+1<=U.length+1+S.length:=by rw[DB];exact BW y _
 have m:U.length+j+1<=c.length:=AB r (by rw[L];exact BA _ _);obtain⟨N,p⟩:=Nat.exists_eq_add_of_le m;have x:∀{i:Nat},i<N->U.length+j+1+i<c.length:=λh=>by rw[p];exact Nat.add_lt_add_left h _
 refine Cl.u (K:=30) (Ct rfl rfl<|Ag (xs':=[("rows",.d<|AI c),("at",.d<|.int (U.length+j:Nat)),("start",.d<|.int U.length)]) (σ':=[]) rfl (Ad (AK<|BP (λ_=>rfl) (DF (g:=λi:Nat=>V.d<|.int i) (h:=λi:Nat=>V.d<|.int i) (b:=λi:Nat=>decide (1<DR c i)) (l:=List.range<|U.length+j+1) (lr:=((((List.range<|U.length+j+1).filter λi:Nat=>decide (1<DR c i)).map λi:Nat=>(i:Int)).map D.int).map V.d) (ys:=[("rows",.d<|AI c)]) (LF (i:=((U.length+j+1:Nat):Int)) (λ_=>rfl) (Ak (pR rfl rfl) AN rfl) (LG (M:=0) (nL rfl)<|AO m<|AM k<|nL rfl) ?_) rfl rfl rfl (.cons rfl .nil) rfl (λi e w o=>⟨Ei<|Vj rfl rfl rfl o rfl rfl<|Be (List.mem_range.mp e) m,λ_=>kN o rfl rfl⟩) ?_ ?_)<|Vd ?_ ?_) rfl)<|Ag (xs':=[("rows",.d<|AI c),("at",.d<|.int (U.length+j:Nat)),("start",.d<|.int U.length),("stop",.d<|.int (U.length+1+S.length:Nat))]) (σ':=[]) rfl (Ad (AK<|BP (λ_=>rfl) (Ak (DF (g:=λi:Nat=>V.d<|.int (U.length+j+1+i:Nat)) (h:=λi:Nat=>V.d<|.int (U.length+j+1+i:Nat)) (b:=λi:Nat=>decide (1<DR c (U.length+j+1+i))) (l:=List.range N) (lr:=((((List.range N).filter λi:Nat=>decide (1<DR c (U.length+j+1+i))).map λi:Nat=>((U.length+j+1+i:Nat):Int)).map D.int).map V.d) (ys:=[("rows",.d<|AI c)]) (g8 (i:=((U.length+j+1:Nat):Int)) (j:=(c.length:Int)) (λ_=>rfl) (Ak (pR rfl rfl) AN rfl) (BP (λ_=>rfl) (pR rfl rfl) ?_) (LG (AO m<|AM k<|nL rfl)<|AM k<|nL rfl) ?_) rfl rfl rfl (.cons rfl .nil) rfl (λi e w o=>⟨Ei<|Vj rfl rfl rfl o rfl rfl<|x<|List.mem_range.mp e,λ_=>kN o rfl rfl⟩) ?_ ?_) (Bt (sZ<|BP (r₁:=.val<|.d<|.int c.length) (λ_=>rfl) (pR rfl rfl) ?_) rfl)<|D3 (xs:=(((List.range N).filter λi:Nat=>decide (1<DR c (U.length+j+1+i))).map λi:Nat=>((U.length+j+1+i:Nat):Int)).map D.int) (ys:=[D.int c.length]) rfl rfl rfl ?_) ?_) rfl)<|CR rfl (Bo<|BU (vs:=[.d<|.int U.length,.d<|.int (U.length+1+S.length:Nat)]) (sR rfl rfl<|sO rfl rfl) rfl rfl) rfl) rfl;rw[NH,Am];rfl;rw[List.length_range];exact AB m<|BS<|AM k<|nL rfl;rw[Am,Am];rfl;exact B9.mpr ⟨U.length,List.mem_filter.mpr ⟨List.mem_range.mpr<|D0<|BA _ _,Ac C⟩,rfl⟩;intro a f;obtain⟨i,e,rfl⟩:=B9.mp f;have e:=List.mem_filter.mp e;exact Int.ofNat_le.mpr<|Nat.not_lt.mp λq=>v i q (Be (List.mem_range.mp e.1) r)<|D2 e.2;exact(Do _).trans (by rw[A4]);rw[p,Va,Am];rfl;rw[List.length_range];exact BS<|AO (AB (Nat.le_add_left _ _)<|BB p.symm)<|AM k<|nL rfl;rw[Am,Am];rfl;exact(Do _).trans (by rw[A4]);rw[A4,A4];exact AO (Ds (AB (List.length_filter_le _ _)<|by rw[List.length_range];exact AB (Nat.le_add_left _ _)<|BB p.symm) 1)<|AM (Cc k)<|nL rfl;rw[show(((List.range N).filter λi:Nat=>decide (1<DR c (U.length+j+1+i))).map λi:Nat=>((U.length+j+1+i:Nat):Int)).map D.int++[D.int c.length]=((((List.range N).filter λi:Nat=>decide (1<DR c (U.length+j+1+i))).map λi:Nat=>((U.length+j+1+i:Nat):Int))++[(c.length:Int)]).map D.int from Jl D.int _ _];refine Vc ?_ λa f=>?_;by_cases s:W=[];subst s;exact Aw _<|Ao.mpr<|A3 Int.ofNat L.symm;obtain⟨i,e⟩:=Nat.exists_eq_add_of_le r;refine BC _<|B9.mpr ⟨i,List.mem_filter.mpr ⟨List.mem_range.mpr ?_,Ac<|e▸B s⟩,A3 Int.ofNat e.symm⟩;refine Nat.lt_of_add_lt_add_left (n:=U.length+j+1) ?_;rw[<-e,<-p,L];exact Nat.lt_add_of_pos_right<|List.length_pos_iff.mpr s;refine(BE.mp f).elim (λf=>?_) λf=>?_;obtain⟨i,e,rfl⟩:=B9.mp f;have e:=List.mem_filter.mp e;exact Int.ofNat_le.mpr<|Nat.not_lt.mp λq=>v _ (Be (D0<|BA _ _)<|BA _ _) q<|D2 e.2;rw[Ao.mp f,L];exact Int.ofNat_le.mpr<|BA _ _
end
structure LocL(k:Int)(A:List LR)(x:LR)(B:List LR):Prop where
 low:∀y∈(A++[x]).tail,Jq k y.1=true
 high:∀y∈B,NI k y.1=true
 len:A.length+B.length<50
section
variable{K m G E j:Nat}{o:List Cell}{k:Int}{v:Str}{x y h:LR}{A B U S W z H:List LR}{u C:List Int}{ps d:List (Int×Str)}{a b e:Int×Str}{r:R}{f:Fn}{n:List (Str×V)}
def nA{a b:Nat}(h:true=Nat.ble a b):a<=K+b:=AB (nL h)<|Nat.le_add_left b K
def F9{a b:Int}{c:Bool}(h:decide (a=b)=c):E4 .Eq o (.val<|.d<|.int a) (.val<|.d<|.int b)=some c:=A3 some h
def NM(l:List D):EJ (l.map V.d)=.d (.tup l):=by unfold EJ;rw[BO];rfl
def Vk(h:u.length+C.length<100):Er o .Add (.val<|.d<|eN u) (.val<|.d<|eN C)=some (.val<|.d<|eN<|u++C):=by refine DM rfl<|DM rfl<|bnd (a:=(u.map D.int).map V.d) rfl<|bnd (a:=(C.map D.int).map V.d) rfl<|Ef ?_ ?_;rw[A4,A4,A4,A4];exact BS<|AM h<|nL rfl;rw[<-AF,<-AF,NM];rfl
def Vl(h:LocL k A x B):Cl gl JP 30 [.d<|AI<|A++x::B,.d<|.key k] [] (.val<|.d<|.int A.length) []:=by have c:=AM h.len (nL rfl:50<99);have g:=h.low;cases A with|nil=>exact Vg (A:=[]) (λ_ q=>absurd q Ax) h.high (Nat.lt_succ_of_lt c)|cons a A=>have:=Vg (x:=a) (A:=A++[x]) g h.high (by rw[A9];exact Nat.lt_succ_of_lt c);rw[A9,AD] at this;exact this
noncomputable def gF(z:List LR)(k:Int)(v:Str)(a:Nat)(s:Option Int)(u:List Int)(ps:List<|Int×Str):List<|Str×V:=[("rows",.d<|AI z),("key",.d<|.key k),("value",.d<|.str v),("at",.d<|.int a),("sep",.d<|eS s),("nums",.d<|eN u),("pairs",.d<|.lst<|ps.map AQ)]
def Fc:((A++x::B).map AP)[A.length]?=some (AP x):=by rw[CP,mid rfl];rfl
structure NewP(k:Int)(v:Str)(l ps:List (Int×Str)):Prop where
 eq:C8 (·.1) (outP' k l++[(k,v)])=ps
 nod:(l.map (·.1)).Nodup
 len:l.length<50
def NewP.nd(h:NewP k v d ps):((outP' k d++[(k,v)]).map (·.1)).Nodup:=by rw[AF];refine List.nodup_append.mpr ⟨(List.filter_sublist.map _).nodup h.nod,Bi.mpr ⟨Ax,List.nodup_nil⟩,λi l j g e=>?_⟩;obtain⟨p,c,rfl⟩:=B9.mp l;have:=(List.mem_filter.mp c).2;rw[Ac<|e.trans<|Ao.mp g] at this;exact Bw this
def Vm(h:ps.length<50){i:Fn}{c:Scope}{s:Comprehension}{q p:Pos}(N:Dj gl i (K+4) s.iter ⟨n,o⟩ ⟨ps.map λp=>V.d<|AQ p,false⟩ ⟨n,o⟩)(w:(GC i c&&[s].all Fm)=true)(J:Dg s.target=some (.one "p"))(M:Ci (i.sc c.names) false (.one "p")=true)(hs:AA (seen c.names n) [("key",.d<|.key k)]) (O:∀(a:Int×Str) t,AA t [("p",.d<|AQ a),("key",.d<|.key k)]->Hk gl (i.sc c.names) (K+4) s.ifs ⟨t,o⟩ (!decide (a.1=k))) (L:true=Cp (c.names.lookup ("p" : Str))):Ev gl i (K+5) (.ListComp (.Name "p" p) [s] c q) ⟨n,o⟩ (.fresh<|((outP' k ps).map AQ).map V.d) ⟨n,o⟩:=DF (g:=λp=>V.d<|AQ p) (h:=λp=>V.d<|AQ p) (b:=λp=>!decide (p.1=k)) (l:=ps) (ys:=[("key",.d<|.key k)]) N w J M hs rfl (λa _ t I=>⟨O a t I,λ_=>AK<|pn I L rfl⟩) (BS<|AM h<|nL rfl) Am.symm
def Vn(h:ps.length<50):(outP' k ps).length<50:=AO (List.length_filter_le _ _) h
def Vo(h:LocL k A x B)(c:NewP k v x.2.2 ps)(i:B3 gl DX (K+60) 3 (gF (A++x::B) k v A.length x.1 x.2.1 ps) [] r):Cl gl DX (K+64) [.d<|AI<|A++x::B,.d<|.key k,.d<|.str v] [] r []:=by refine Ct rfl rfl (Ag rfl (Ad (AK<|BY (f:=JP) rfl (BQ<|by decide) rfl rfl (sR rfl rfl<|sO rfl rfl) rfl<|(Vl h).up<|nA rfl) rfl)<|Ag rfl (Cr rfl rfl (BG (AK<|iX (BI rfl (pR rfl rfl) (pR rfl rfl)<|CS Fc) rfl)<|BG (AK<|iX (BI rfl (pR rfl rfl) (pR rfl rfl)<|CS Fc) rfl) Cs)<|tN rfl<|tO rfl)<|Ag rfl (Ad (BN (ds:=ps.map AQ) (BP (λ_=>rfl) (Ak (Vm c.len (By rfl (iX (BI rfl (pR rfl rfl) (pR rfl rfl)<|CS Fc) rfl) DG) rfl rfl rfl (.cons rfl .nil) (λa l g=>Ei<|Af rfl (iX (pn g rfl rfl) rfl) (pn g rfl rfl) rfl) rfl) (Bt (sZ<|BU (vs:=[.d<|.key k,.d<|.str v]) (sR rfl rfl<|sO rfl rfl) rfl rfl) rfl)<|D3 (xs:=(outP' k x.2.2).map AQ) (ys:=[AQ (k,v)]) rfl rfl rfl ?_)<|Ve ?_) rfl<|BO _) rfl) i);rw[A4];exact AM (Cc<|Vn c.len)<|nL rfl;rw[<-c.eq];exact(A3 EL<|Jl AQ _ _).trans<|Uw c.nd<|by rw[A9];exact AM (Cc<|Vn c.len)<|nL rfl
def Hp(ps:List<|Int×Str):E9 o "len" (.val<|.d<|.lst<|ps.map AQ)=some (.val<|.d<|.int ps.length):=(Do _).trans<|by rw[A4]
def Vp(h:LocL k A x B)(c:NewP k v x.2.2 ps)(g:ps.length<5):Id DX 100 [.d<|AI<|A++x::B,.d<|.key k,.d<|.str v]<|A++(x.1,x.2.1,ps)::B:=Cl.u (Vo (K:=20) h c<|CR rfl (B4 (Af rfl (BP (λ_=>rfl) (pR rfl rfl)<|Hp _) AN<|ES<|Ac<|Bc.mpr g)<|Eg<|Bo<|Ak (Ak (Bx (pR rfl rfl) (λ_=>C0) (Bs<|pR rfl rfl)<|Ic AP A (x::B)▸Gy A.length) (Bt (sZ<|BU (v:=.d<|AP (x.1,x.2.1,ps)) (sR rfl rfl<|sR rfl rfl<|sO rfl rfl) rfl rfl) rfl)<|D3 (xs:=A.map AP) (ys:=[AP (x.1,x.2.1,ps)]) rfl rfl rfl<|by rw[A4];exact AM (Cc<|AO (BA A.length B.length) h.len)<|nL rfl) (Bx (pR rfl rfl) (Bs<|Ak (pR rfl rfl) AN rfl) (λ_=>C0)<|LH AP A x B▸Fw (A.length+1))<|NJ (x.1,x.2.1,ps)<|AM h.len<|nL rfl)<|LN _) rfl
noncomputable def LP(A:List LR)(x:LR)(a b e:Int×Str)(d:List<|Int×Str)(m:Nat)(B:List LR):List LR:=A++(x.1,x.2.1,[a,b])::(some e.1,[(m:Int)],e::d)::B
noncomputable def Hq(z:List LR)(k:Int)(v:Str)(a:Nat)(s:Option Int)(u:List Int)(ps:List<|Int×Str)(t:D):List<|Str×V:=[("rows",.d<|AI z),("key",.d<|.key k),("value",.d<|.str v),("at",.d<|.int a),("sep",.d<|eS s),("nums",.d<|eN u),("pairs",.d<|.lst<|ps.map AQ),("two",.d t)]
def Vq(h:LocL k A x B)(i:NewP k v x.2.2<|a::b::e::d)(s:1<d.length)(p:Free (nmz<|A++x::B) m)(c:(nmz<|A++x::B).length<100)(g:B3 gl DX (K+60) 6 (Hq (LP A x a b e d m B) k v A.length x.1 x.2.1 (a::b::e::d)<|.lst [AP (x.1,x.2.1,[a,b]),AP (some e.1,[(m:Int)],e::d)]) [] r):Cl gl DX (K+67) [.d<|AI<|A++x::B,.d<|.key k,.d<|.str v] [] r []:=by refine Vo (K:=K+3) h i (Ag rfl (Av (Af rfl (BP (λ_=>rfl) (pR rfl rfl)<|Hp _) AN<|ES<|decide_eq_false λq=>absurd (Bc.mp q)<|Nat.not_lt.mpr<|CV<|CV<|CV s) Bh)<|Ag rfl (Ad (BN (ds:=[AP (x.1,x.2.1,[a,b]),AP (some e.1,[(m:Int)],e::d)]) (Bt (sK (BU (v:=.d<|AP (x.1,x.2.1,[a,b])) (sR rfl rfl<|sR rfl rfl<|CD (BN (ds:=[AQ a,AQ b]) (Bx (pR rfl rfl) (λ_=>C0) (Bs AN)<|Gy (l:=(a::b::e::d).map AQ) 2) rfl rfl) CC) rfl rfl)<|sZ<|BU (v:=.d<|AP (some e.1,[(m:Int)],e::d)) (sK (iX (iX (pR rfl rfl)<|CS (a:=2) (w:=AQ e) rfl) rfl)<|sK (BU (v:=.d<|eN [(m:Int)]) (sZ<|BY (f:=MX) rfl (BQ<|by decide) rfl rfl (sO rfl rfl) rfl<|(Vh p c).up<|nA rfl) rfl rfl)<|CD (BN (ds:=(e::d).map AQ) (Bx (pR rfl rfl) (Bs AN) (λ_=>C0)<|Fw (l:=(a::b::e::d).map AQ) 2) rfl<|BO _) CC) rfl rfl) rfl) rfl rfl) rfl)<|Ag rfl (Ad (BN (ds:=(LP A x a b e d m B).map AP) (Ak (Ak (Bx (pR rfl rfl) (λ_=>C0) (Bs<|pR rfl rfl)<|Ic AP A (x::B)▸Gy A.length) (pR rfl rfl)<|D3 (xs:=A.map AP) (ys:=[AP (x.1,x.2.1,[a,b]),AP (some e.1,[(m:Int)],e::d)]) rfl rfl rfl ?_) (Bx (pR rfl rfl) (Bs<|Ak (pR rfl rfl) AN rfl) (λ_=>C0)<|LH AP A x B▸Fw (A.length+1)) ?_) rfl<|BO _) rfl) g);rw[A4];exact AM (Nat.add_lt_add_right (AO (BA A.length B.length) h.len) 2)<|nL rfl;refine(D3 (xs:=A.map AP++[AP (x.1,x.2.1,[a,b]),AP (some e.1,[(m:Int)],e::d)]) (ys:=B.map AP) rfl rfl rfl ?_).trans<|A3 (λl:List D=>some<|R.fresh<|l.map V.d) ?_;rw[A9,A4,A4,DB];exact AM (Nat.add_lt_add_right h.len 2)<|nL rfl;unfold LP;rw[AF,AD];rfl
end
inductive To3(f:Fn)(K:Nat)(vs:List V)(l:List LR):Prop where
 |fr:Cl gl f K vs [] (.fresh ((l.map AP).map V.d)) []->To3 f K vs l
 |vl:Cl gl f K vs [] (.val (.d (AI l))) []->To3 f K vs l
section
variable{K L m T p j:Nat}{Y σ':List Cell}{k:Int}{v:Str}{x y h E C J I H:LR}{A B U S W o N l:List LR}{Q d:List Int}{ps n:List (Int×Str)}{a b:Int×Str}{e:Option Int}{r:R}{f M:Fn}{O:List (Str×V)}{t:D}{X:St}{Z us:List V}
theorem To3.u(h:To3 f K Z l)(c:true=Nat.ble K L):To3 f L Z l:=by cases h with|fr h=>exact .fr (h.u c)|vl h=>exact .vl<|h.u c
def NN{f:Fn}{z:Str}{w:List Expr}{G q:Pos}{b:Bool}(c:true=FL M z)(s:z≠gl.cls)(i:AJ z gl.fns=some f)(hs:f.sh=false)(u:Sl gl M K w X Z ⟨O,Y⟩)(g:KQ Z Y=some (us,σ'))(h:To3 f K us l)(hb:b=false):Kp gl M (K+1) b (.Call (.Name z q) w [] G) X (.d<|AI l) ⟨O,σ'⟩:=by cases h with|fr h=>exact BN (BY c s i hs u g h) hb (BO _)|vl h=>exact AK<|BY c s i hs u g h
noncomputable def Ie(y:LR)(m:Nat):LR:=(y.1,y.2.1++[(m:Int)],y.2.2)
def Ig{c:Int}{z:Bool}{u s q i g p6 p7 p8 p9:Pos}{a b ms:Nat}(hE:∀{K G:Nat}{X:St},Es gl (AY gl<|G+K) M "len" [.Subscript (.Subscript (.Name "rows" u) (.Constant (.int 0) a s) q) (.Constant (.int 1) b i) g] X=IJ (AY gl<|G+K) M "len" (.Subscript (.Subscript (.Name "rows" u) (.Constant (.int 0) a s) q) (.Constant (.int 1) b i) g) X)(hk:true=Cp (M.names.lookup ("rows" : Str)))(h1:AJ "rows" O=some (.d<|AI<|y::N))(hz:decide ((y.2.1.length:Int)=c)=z):Tt gl M (K+5) (.Compare (.Call (.Name "len" p6) [.Subscript (.Subscript (.Name "rows" u) (.Constant (.int 0) a s) q) (.Constant (.int 1) b i) g] [] p7) [.Eq] [.Constant (.int c) ms p8] p9) ⟨O,Y⟩ z ⟨O,Y⟩:=Af rfl (BP (λ_=>hE) (iX (iX (pR hk h1)<|CS (a:=0) (w:=AP y) rfl) rfl)<|LJ _) AN<|F9<|by rw[A4];exact hz
def Vr{U W:List LR}{i:Nat}{u s:Expr}(hi:U.length=i)(hm:Free (nmz<|U++y::W) m)(hu:(nmz<|U++y::W).length<90)(hy:y.2.1.length<50)(hl:U.length+W.length<90){p1 p2 p6 p7 p8 p9 pa pb pc pd G pf:Pos}{c ms:Nat}(k0:true=FL M "_law_nums")(k1:true=FL M "_law_new")(g:true=Cp (M.names.lookup ("rows" : Str)))(q:AJ "rows" O=some (.d<|AI<|U++y::W))(z:Ev gl M (K+49) u ⟨O,[]⟩ (.val<|.d<|.int i) ⟨O,[]⟩)(w:Ev gl M (K+46) s ⟨O,[]⟩ (.val<|.d<|.int i) ⟨O,[]⟩)(hs:J4 s=.none):Ev gl M (K+50) (.Call (.Name "_law_nums" p1) [.Name "rows" p2,u,.BinOp (.Subscript (.Subscript (.Name "rows" p6) s p7) (.Constant (.int 1) c p8) pf) .Add (.Tuple [.Call (.Name "_law_new" p9) [.Name "rows" pa] [] pb] ms pc) pd] [] G) ⟨O,[]⟩ (.fresh<|((U++Ie y m::W).map AP).map V.d) ⟨O,[]⟩:=by subst hi;exact BY (f:=IR) k0 (BQ<|by decide) rfl rfl (sR g q<|sK z<|sZ<|Ak (iX (BI hs (pR g q) w<|CS Fc) rfl) (BU (v:=.d<|eN [(m:Int)]) (sZ<|BY (f:=MX) k1 (BQ<|by decide) rfl rfl (sO g q) rfl<|(Vh hm<|AM hu<|nL rfl).up<|nA rfl) rfl rfl)<|Vk<|AM (Nat.add_lt_add_right hy 1)<|nL rfl) rfl<|(LO (AM hl<|nL rfl):Id ..).up<|nA rfl
def Vs(hm:Free (nmz<|y::N) m)(hu:(nmz<|y::N).length<90)(hy:y.2.1.length<50)(hl:N.length<90){p1 p2 p3 p4 p5 p6 G z w u s q i g:Pos}{a b c ms:Nat}(k0:true=FL M "_law_nums")(k1:true=FL M "_law_new")(hk:true=Cp (M.names.lookup ("rows" : Str)))(h1:AJ "rows" O=some (.d<|AI<|y::N)):Ev gl M (K+50) (.Call (.Name "_law_nums" p1) [.Name "rows" p2,.Constant (.int 0) a p3,.BinOp (.Subscript (.Subscript (.Name "rows" p4) (.Constant (.int 0) b p5) p6) (.Constant (.int 1) c G) z) .Add (.Tuple [.Call (.Name "_law_new" w) [.Name "rows" u] [] s] ms q) i] [] g) ⟨O,[]⟩ (.fresh<|((Ie y m::N).map AP).map V.d) ⟨O,[]⟩:=Vr (U:=[]) rfl hm hu hy (by rw[List.length_nil,Nat.zero_add];exact hl) k0 k1 hk h1 AN AN rfl
def gG(c:y.2.1.length=1)(i:Free (nmz<|y::N) T)(g:(nmz<|y::N).length<90)(q:N.length<90):B3 gl DX 70 6 (Hq (y::N) k v j x.1 Q ps t) []<|.fresh<|((Ie y T::N).map AP).map V.d:=B3.u (K:=60) (CR rfl (B4 (Ig rfl rfl rfl<|Ac<|A3 Int.ofNat c)<|Eg<|Bo<|Vs i g (AO (BB c)<|nL rfl) q rfl rfl rfl rfl)<|LN _) rfl
def Js(a b:Nat):((a+b:Nat):Int)-(a:Int)=(b:Int):=by rw[Int.natCast_add,Int.add_comm,Int.add_sub_cancel]
noncomputable def NO(o:List LR)(k:Int)(v:Str)(a:Nat)(s:Option Int)(Q:List Int)(ps:List<|Int×Str)(t:D)(i j:Nat):List<|Str×V:=[("rows",.d<|AI o),("key",.d<|.key k),("value",.d<|.str v),("at",.d<|.int a),("sep",.d<|eS s),("nums",.d<|eN Q),("pairs",.d<|.lst<|ps.map AQ),("two",.d t),("start",.d<|.int i),("stop",.d<|.int j)]
def Vt(g:Seg U h S W)(w:j<=S.length)(u:(U++h::(S++W)).length<90)(i:U++h::(S++W)=y::N)(s:y.2.1.length≠1)(c:B3 gl DX (K+60) 8 (NO (U++h::(S++W)) k v (U.length+j) x.1 Q ps t U.length<|U.length+1+S.length) [] r):B3 gl DX (K+62) 6 (Hq (U++h::(S++W)) k v (U.length+j) x.1 Q ps t) [] r:=by have q:=NL g w<|AM u<|nL rfl;rw[i] at q c ⊢;exact Ag rfl (Av (Ig rfl rfl rfl<|decide_eq_false λq=>s<|Int.ofNat.inj q) Bh)<|Ag rfl (PE rfl rfl (AK<|BY (f:=JQ) rfl (BQ<|by decide) rfl rfl (sR rfl rfl<|sO rfl rfl) rfl<|q.up<|nA rfl) rfl<|tN rfl<|tO rfl) c
def gH(g:Seg U h S W)(w:j<=S.length)(s:(U++h::(S++W)).length<90)(c:U++h::(S++W)=y::N)(i:y.2.1.length≠1)(z:S.length≠5):B3 gl DX 70 6 (Hq (U++h::(S++W)) k v (U.length+j) x.1 Q ps t) []<|.val<|.d<|AI<|U++h::(S++W):=by refine B3.u (Vt (K:=5) g w s c i<|Ag rfl (Av (Af rfl (Ak (pR rfl rfl) (pR rfl rfl) rfl) AN<|F9<|decide_eq_false λq=>?_) Bh)<|CR rfl (Bo<|pR rfl rfl) rfl) rfl;rw[Bv,Js] at q;exact z<|Nat.succ.inj<|by rw[C7] at q;exact Int.ofNat.inj q
noncomputable def NP(U:List LR)(h E C J I H:LR)(W:List LR)(m:Nat):List LR:=U++h::E::C::Ie J m::I::H::W
def Vu:U++h::E::C::x::I::H::W=(U++[h,E,C])++x::I::H::W:=by rw[AD];rfl
def Vv(g:Seg U h [E,C,J,I,H] W)(hj:j<=5)(c:(U++h::([E,C,J,I,H]++W)).length<80)(w:U++h::([E,C,J,I,H]++W)=y::N)(G:y.2.1.length≠1)(s:Free (nmz<|U++h::([E,C,J,I,H]++W)) T)(q:(nmz<|U++h::([E,C,J,I,H]++W)).length<90) {l:List LR} (z:X1 gl DX (K+58) (at' (CA<|Bd DX 8) 1) ⟨NO (NP U h E C J I H W T) k v (U.length+j) x.1 Q ps t U.length<|U.length+6,[]⟩ .next ⟨NO l k v (U.length+j) x.1 Q ps t U.length<|U.length+6,[]⟩):B3 gl DX (K+63) 6 (Hq (U++h::([E,C,J,I,H]++W)) k v (U.length+j) x.1 Q ps t) []<|.val<|.d<|AI l:=by have hR:U++h::([E,C,J,I,H]++W)=(U++[h,E,C])++J::I::H::W:=Vu;have K':(U++[h,E,C]).length=U.length+3:=A9;have u:=g.one J<|Ah _<|Ah _ AT;refine Vt (K:=K+1) g hj (AM c<|nL rfl) w G ?_;rw[hR] at s q c ⊢;have hs:(U++[h,E,C])++Ie J T::I::H::W=NP U h E C J I H W T:=Vu.symm;refine Ag (xs':=NO l k v (U.length+j) x.1 Q ps t U.length<|U.length+6) (σ':=[]) rfl (B4 (Af rfl (Ak (pR rfl rfl) (pR rfl rfl) rfl) AN<|F9<|Ac ?_)<|BR (Ad (BN (Vr (i:=U.length+3) (U:=U++[h,E,C]) (W:=I::H::W) K' s q (AO (BB u)<|nL rfl) ?_ rfl rfl rfl rfl (Ak (pR rfl rfl) AN rfl) (Ak (pR rfl rfl) AN rfl) rfl) rfl<|BO _) rfl)<|BR ?_ Bh)<|CR rfl (Bo<|pR rfl rfl) rfl;exact(Js U.length 6);rw[A9] at c;exact AM (AO (BW (Nat.le_succ _) _) c)<|nL rfl;rw[hs];exact z
def gI(g:Seg U h [E,C,J,I,H] W)(hj:j<=5)(G:(U++h::([E,C,J,I,H]++W)).length<80)(i:U++h::([E,C,J,I,H]++W)=y::N)(w:y.2.1.length≠1)(z:Free (nmz<|U++h::([E,C,J,I,H]++W)) T)(s:(nmz<|U++h::([E,C,J,I,H]++W)).length<90)(c:NP U h E C J I H W T=x::S)(h2:x.2.1.length≠2):B3 gl DX 70 6 (Hq (U++h::([E,C,J,I,H]++W)) k v (U.length+j) e Q ps t) []<|.val<|.d<|AI<|x::S:=by refine B3.u (Vv (K:=5) (x:=(e,[],[])) g hj G i w z s ?_) rfl;rw[c];exact Av (Ig rfl rfl rfl<|decide_eq_false λq=>h2<|Int.ofNat.inj q) Bh
def gJ(g:Seg U h [E,C,J,I,H] W)(hj:j<=5)(hl:(U++h::([E,C,J,I,H]++W)).length<80)(w:U++h::([E,C,J,I,H]++W)=y::N)(G:y.2.1.length≠1)(hm:Free (nmz<|U++h::([E,C,J,I,H]++W)) T)(z:(nmz<|U++h::([E,C,J,I,H]++W)).length<90)(s:NP U h E C J I H W T=x::S)(q:x.2.1.length=2)(i:Free (nmz<|x::S) p)(c:(nmz<|x::S).length<90)(hS:S.length<90):B3 gl DX 70 6 (Hq (U++h::([E,C,J,I,H]++W)) k v (U.length+j) e Q ps t) []<|.val<|.d<|AI<|Ie x p::S:=by refine B3.u (Vv (K:=5) (x:=(e,[],[])) g hj hl w G hm z ?_) rfl;rw[s];exact B4 (Ig rfl rfl rfl<|Ac<|A3 Int.ofNat q)<|xO<|Ad (BN (Vs i c (AO (BB q)<|nL rfl) hS rfl rfl rfl rfl) rfl<|BO _) rfl
end
noncomputable def EU:Stmt:=Bd C9 0
noncomputable def Ih:Stmt:=at' (DN EU) 0
noncomputable def Vx:Stmt:=at' (DN Ih) 0
noncomputable def Bu(e:List LR)(a c:Nat):List<|Str×V:=[("rows",.d<|AI e),("start",.d<|.int a),("stop",.d<|.int c)]
noncomputable def Jt(e:List LR)(a c d t:Nat):List<|Str×V:=[("rows",.d<|AI e),("start",.d<|.int a),("stop",.d<|.int c),("down",.d<|.int d),("to",.d<|.int t)]
section
variable{K a c d t:Nat}{h m o y z w:LR}{A B A2 r U j S e l W p rs:List LR}{n:Int}{ns:List Int}
def gK:Tt gl C9 (K+55) (CB EU) ⟨Bu rs 0 c,[]⟩ false ⟨Bu rs 0 c,[]⟩:=CQ<|FR<|Af rfl (pR rfl rfl) AN<|CX rfl
def Vy(g:Seg j m e W)(k:(j++m::(e++W)).length<90):Tt gl C9 (K+55) (CB EU) ⟨Bu (j++m::(e++W)) (j.length+1+e.length) c,[]⟩ (decide (2<e.length)) ⟨Bu (j++m::(e++W)) (j.length+1+e.length) c,[]⟩:=by have q:=NL g (Au e.length)<|AM k<|nL rfl;refine CQ (Dk (Af rfl (pR rfl rfl) AN<|CX<|Ac ?_)<|Dm<|Af rfl (Ak (pR rfl rfl) (iX (BY (f:=JQ) (us:=[.d<|AI<|j++m::(e++W),.d<|.int (j.length+e.length:Nat)]) rfl (BQ<|by decide) rfl rfl (sR rfl rfl<|sZ<|Ak (x:=.val<|.d<|.int (j.length+e.length:Nat)) (pR rfl rfl) AN ?_) rfl<|q.up<|nA rfl) rfl) rfl) AN<|CX ?_);exact Bc.mpr<|Be (Nat.succ_pos j.length)<|BA _ _;refine A3 (λi:Int=>some<|R.val<|V.d<|.int i) ?_;rw[DB];exact Int.add_sub_cancel ((j.length+e.length:Nat):Int) 1;rw[Bv,Js];exact decide_eq_decide.mpr<|Bc.trans<|by rw[C7];exact Nat.succ_lt_succ_iff
def gL(f:rs.length=c):Tt gl C9 (K+55) (CB Ih) ⟨Bu rs a c,[]⟩ false ⟨Bu rs a c,[]⟩:=CQ<|FR<|Af rfl (pR rfl rfl) (BP (λ_=>rfl) (pR rfl rfl)<|Do _)<|ES<|decide_eq_false λq=>by rw[A4,f] at q;exact Int.lt_irrefl _ q
def Vz(g:Seg U o l p)(i:(U++o::(l++p)).length<90):Tt gl C9 (K+55) (CB Ih) ⟨Bu (U++o::(l++p)) a U.length,[]⟩ (decide (2<l.length)) ⟨Bu (U++o::(l++p)) a U.length,[]⟩:=by have q:=NL g (Bm l.length)<|AM i<|nL rfl;refine CQ (Dk (Af rfl (pR rfl rfl) (BP (λ_=>rfl) (pR rfl rfl)<|Do _)<|ES<|Ac ?_)<|Dm<|Af rfl (Ak (iX (BY (f:=JQ) rfl (BQ<|by decide) rfl rfl (sR rfl rfl<|sO rfl rfl) rfl<|q.up<|nA rfl) rfl) (pR rfl rfl) rfl) AN<|CX ?_);rw[A4,A9];exact Bc.mpr<|Nat.lt_add_of_pos_right<|Nat.succ_pos _;rw[Bv,Js];exact decide_eq_decide.mpr<|Bc.trans<|by rw[C7];exact Nat.succ_lt_succ_iff
def gM(f:0<a):Tt gl C9 (K+55) (CB Vx) ⟨Bu rs a c,[]⟩ true ⟨Bu rs a c,[]⟩:=Af rfl (pR rfl rfl) AN<|CX<|Ac<|Bc.mpr f
def gN:Tt gl C9 (K+55) (CB Vx) ⟨Bu rs 0 c,[]⟩ false ⟨Bu rs 0 c,[]⟩:=Af rfl (pR rfl rfl) AN<|CX rfl
def gO(h:Tt gl C9 60 (CB EU) ⟨Bu rs (a+1) c,[]⟩ true ⟨Bu rs (a+1) c,[]⟩):X1 gl C9 60 EU ⟨Bu rs (a+1) c,[]⟩ .next ⟨Jt rs (a+1) c (a+1) a,[]⟩:=B4 h<|xO<|Cr rfl rfl (BG (kR rfl rfl)<|BG (AK<|Ak (x:=.val<|.d<|.int a) (pR rfl rfl) AN<|A3 (λi:Int=>some<|R.val<|V.d<|.int i)<|Int.add_sub_cancel (a:Int) 1) Cs)<|tN rfl<|tO rfl
def gP(h:Tt gl C9 60 (CB EU) ⟨Bu rs a c,[]⟩ false ⟨Bu rs a c,[]⟩)(k:Tt gl C9 59 (CB Ih) ⟨Bu rs a c,[]⟩ true ⟨Bu rs a c,[]⟩):X1 gl C9 60 EU ⟨Bu rs a c,[]⟩ .next ⟨Jt rs a c c<|c+1,[]⟩:=As h<|B4 k<|xO<|Cr rfl rfl (BG (kR rfl rfl)<|BG (AK<|Ak (pR rfl rfl) AN rfl) Cs)<|tN rfl<|tO rfl
def gQ(h:Tt gl C9 60 (CB EU) ⟨Bu rs a c,[]⟩ false ⟨Bu rs a c,[]⟩)(k:Tt gl C9 59 (CB Ih) ⟨Bu rs a c,[]⟩ false ⟨Bu rs a c,[]⟩)(f:0<a):X1 gl C9 60 EU ⟨Bu rs a c,[]⟩ .next ⟨Jt rs a c a 0,[]⟩:=As h<|As k<|B4 (gM (K:=3) f)<|xO<|Cr rfl rfl (BG (kR rfl rfl)<|BG (AK AN) Cs)<|tN rfl<|tO rfl
def gR(h:Tt gl C9 60 (CB EU) ⟨Bu rs 0 c,[]⟩ false ⟨Bu rs 0 c,[]⟩)(k:Tt gl C9 59 (CB Ih) ⟨Bu rs 0 c,[]⟩ false ⟨Bu rs 0 c,[]⟩):X1 gl C9 60 EU ⟨Bu rs 0 c,[]⟩ .next ⟨Jt rs 0 c c 0,[]⟩:=As h<|As k<|Av (gN (K:=3))<|xO<|Cr rfl rfl (BG (kR rfl rfl)<|BG (AK AN) Cs)<|tN rfl<|tO rfl
noncomputable def Gz(z:LR)(n:Int):LR:=(z.1,[n],z.2.2)
def W0{ns:List Int}{f:List Cell}:Eb f (.val<|.d<|eN<|n::ns) .none (some 1)=some (.val<|.d<|eN [n]):=by refine DM rfl<|Aa (a:=((n::ns).map D.int).map V.d) rfl ?_;rw[show(1:Int)=((1:Nat):Int) from rfl,Jf];rfl
def gS{ns:List Int}{f:List Cell}:Eb f (.val<|.d<|eN<|n::ns) (some 1) .none=some (.val<|.d<|eN ns):=by refine DM rfl<|Aa (a:=((n::ns).map D.int).map V.d) rfl ?_;rw[show(1:Int)=((1:Nat):Int) from rfl,Ps];exact A3 R.val<|NM _
def W1(g:z.2.1=n::ns)(i:A.length+B.length<90)(h:X1 gl C9 60 EU ⟨Bu (A++z::B) a c,[]⟩ .next ⟨Jt (A++z::B) a c A.length 0,[]⟩):Cl gl C9 70 [.d<|AI<|A++z::B,.d<|.int a,.d<|.int c] [] (.val<|.d<|AI<|A++Gz z n::B) []:=by refine Cl.u (K:=62) (Ct rfl rfl<|Ag rfl h<|Ag rfl (Ad (AK<|iX (BI rfl (pR rfl rfl) (pR rfl rfl)<|CS Fc) rfl) rfl)<|Ag rfl (Ad (BN (BY (f:=IR) rfl (BQ<|by decide) rfl rfl (sR rfl rfl<|sR rfl rfl<|sZ<|Bx (pR rfl rfl) (λ_=>C0) (Bs AN)<|g▸W0) rfl<|(LO (AM i<|nL rfl):Id ..).up<|nL rfl) rfl<|BO _) rfl)<|Ag rfl (Av (Af rfl (pR rfl rfl) AN<|CX rfl) Bh)<|CR rfl (Bo<|pR rfl rfl) rfl) rfl
def W3(g:z.2.1=n::ns)(q:A.length+B.length<90)(k:A2.length=t+1)(i:A++Gz z n::B=A2++w::r)(hs:w.2.1.length+ns.length<90)(h:X1 gl C9 60 EU ⟨Bu (A++z::B) a c,[]⟩ .next ⟨Jt (A++z::B) a c A.length<|t+1,[]⟩):Cl gl C9 70 [.d<|AI<|A++z::B,.d<|.int a,.d<|.int c] [] (.val<|.d<|AI<|A2++(w.1,w.2.1++ns,w.2.2)::r) []:=by
 have s:A2.length+r.length<90:=by have:=A3 List.length i;rw[A9,A9] at this;exact AO (BB (Nat.succ.inj this).symm) q
 refine Cl.u (K:=62) (Ct rfl rfl<|Ag rfl h<|Ag rfl (Ad (AK<|iX (BI rfl (pR rfl rfl) (pR rfl rfl)<|CS Fc) rfl) rfl)<|Ag rfl (Ad (BN (BY (f:=IR) rfl (BQ<|by decide) rfl rfl (sR rfl rfl<|sR rfl rfl<|sZ<|Bx (pR rfl rfl) (λ_=>C0) (Bs AN)<|g▸W0) rfl<|(LO (AM q<|nL rfl):Id ..).up<|nL rfl) rfl<|BO _) rfl) ?_) rfl;rw[show((A++(z.1,[n],z.2.2)::B).map AP)=(A2++w::r).map AP from A3 (List.map AP) i,<-k];exact Ag rfl (B4 (Af rfl (pR rfl rfl) AN<|CX<|Ac<|Bc.mpr<|k▸Nat.succ_pos t)<|xO<|Ad (BN (BY (f:=IR) rfl (BQ<|by decide) rfl rfl (sR rfl rfl<|sR rfl rfl<|sZ<|Ak (iX (BI rfl (pR rfl rfl) (pR rfl rfl)<|CS Fc) rfl) (Bx (pR rfl rfl) (Bs AN) (λ_=>C0)<|g▸gS)<|Vk<|AM hs<|nL rfl) rfl<|(LO (AM s<|nL rfl):Id ..).up<|nL rfl) rfl<|BO _) rfl)<|CR rfl (Bo<|pR rfl rfl) rfl
end
noncomputable def Ju(c:List LR)(k:Int)(a:Nat)(e:List<|Int×Str):List<|Str×V:=[("rows",.d<|AI c),("key",.d<|.key k),("at",.d<|.int a),("rest",.d<|.lst<|e.map AQ)]
noncomputable def CT(c:List LR)(k:Int)(a:Nat)(f:List<|Int×Str)(s e:Nat):List<|Str×V:=[("rows",.d<|AI c),("key",.d<|.key k),("at",.d<|.int a),("rest",.d<|.lst<|f.map AQ),("start",.d<|.int s),("stop",.d<|.int e)]
noncomputable def Ii(f:List LR)(k:Int)(a:Nat)(g:List<|Int×Str)(s e h c:Nat):List<|Str×V:=[("rows",.d<|AI f),("key",.d<|.key k),("at",.d<|.int a),("rest",.d<|.lst<|g.map AQ),("start",.d<|.int s),("stop",.d<|.int e),("hi",.d<|.int h),("cut",.d<|.int c)]
noncomputable def Dc(f:List LR)(k:Int)(a:Nat)(g:List<|Int×Str)(s e i c:Nat)(h:LR)(j:List<|Int×Str):List<|Str×V:=[("rows",.d<|AI f),("key",.d<|.key k),("at",.d<|.int a),("rest",.d<|.lst<|g.map AQ),("start",.d<|.int s),("stop",.d<|.int e),("hi",.d<|.int i),("cut",.d<|.int c),("low",.d<|AP h),("both",.d<|.lst<|j.map AQ)]
section
variable{K j a s e l c m:Nat}{k:Int}{x y lo hr h:LR}{A B U S W P Q o d:List LR}{ps n:List (Int×Str)}{r:R}{b:Bool}{p:Int×Str}
def W4(h:LocL k A x B)(i:x.2.2.length<50)(hr:B3 gl BF (K+100) 3 (Ju (A++(x.1,x.2.1,outP' k x.2.2)::B) k A.length<|outP' k x.2.2) [] r):Cl gl BF (K+104) [.d<|AI<|A++x::B,.d<|.key k] [] r []:=Ct rfl rfl<|Ag rfl (Ad (AK<|BY (f:=JP) rfl (BQ<|by decide) rfl rfl (sR rfl rfl<|sO rfl rfl) rfl<|(Vl h).up<|nA rfl) rfl)<|Ag rfl (Ad (BN (Vm i (By rfl (iX (BI rfl (pR rfl rfl) (pR rfl rfl)<|CS Fc) rfl) DG) rfl rfl rfl (.cons rfl .nil) (λa q g=>Ei<|Af rfl (iX (pn g rfl rfl) rfl) (pn g rfl rfl) rfl) rfl) rfl<|BO _) rfl)<|Ag rfl (Ad (BN (ds:=(A++(x.1,x.2.1,outP' k x.2.2)::B).map AP) (Ak (Ak (Bx (pR rfl rfl) (λ_=>C0) (Bs<|pR rfl rfl)<|Ic AP A (x::B)▸Gy A.length) (Bt (sZ<|BU (v:=.d<|AP (x.1,x.2.1,outP' k x.2.2)) (sK (iX (BI rfl (pR rfl rfl) (pR rfl rfl)<|CS Fc) rfl)<|sK (iX (BI rfl (pR rfl rfl) (pR rfl rfl)<|CS Fc) rfl)<|sO rfl rfl) rfl rfl) rfl)<|D3 (xs:=A.map AP) (ys:=[AP (x.1,x.2.1,outP' k x.2.2)]) rfl rfl rfl<|by rw[A4];exact AM (Cc<|AO (BA A.length B.length) h.len)<|nL rfl) (Bx (pR rfl rfl) (Bs<|Ak (pR rfl rfl) AN rfl) (λ_=>C0)<|LH AP A x B▸Fw (A.length+1))<|NJ (x.1,x.2.1,outP' k x.2.2)<|AM h.len<|nL rfl) rfl<|BO _) rfl) hr
def gT(h:1<ps.length\/d.length=1):Tt gl BF (K+50) (CB<|Bd BF 3) ⟨Ju d k a ps,[]⟩ true ⟨Ju d k a ps,[]⟩:=by by_cases f:1<ps.length;exact IT<|U8<|Af rfl (BP (λ_=>rfl) (pR rfl rfl)<|Hp _) AN<|CX<|Ac<|Bc.mpr f;exact IT<|Kw (Af rfl (BP (λ_=>rfl) (pR rfl rfl)<|Hp _) AN<|CX<|decide_eq_false λq=>f<|Bc.mp q)<|Kx<|Af rfl (BP (λ_=>rfl) (pR rfl rfl)<|Do _) AN<|F9<|Ac<|by rw[A4];exact A3 Int.ofNat<|h.resolve_left f
def gU(g:ps.length<=1)(f:d.length≠1):Tt gl BF (K+50) (CB<|Bd BF 3) ⟨Ju d k a ps,[]⟩ false ⟨Ju d k a ps,[]⟩:=IT<|Kw (Af rfl (BP (λ_=>rfl) (pR rfl rfl)<|Hp _) AN<|CX<|decide_eq_false λq=>absurd (Bc.mp q)<|Nat.not_lt.mpr g)<|Kx<|Af rfl (BP (λ_=>rfl) (pR rfl rfl)<|Do _) AN<|F9<|decide_eq_false λq=>f<|by rw[A4] at q;exact Int.ofNat.inj q
def W5(h:LocL k A x B)(f:x.2.2.length<50)(g:1<(outP' k x.2.2).length\/(A++(x.1,x.2.1,outP' k x.2.2)::B).length=1):To3 BF 200 [.d<|AI<|A++x::B,.d<|.key k]<|A++(x.1,x.2.1,outP' k x.2.2)::B:=.vl<|Cl.u (W4 (K:=0) h f<|CR rfl (B4 (gT (K:=49) g)<|Eg<|Bo<|pR rfl rfl) rfl) rfl
def gV(g:Seg U h S W)(q:j<=S.length)(i:(U++h::(S++W)).length<90)(u:ps.length<=1)(t:(U++h::(S++W)).length≠1)(hr:B3 gl BF (K+98) 5 (CT (U++h::(S++W)) k (U.length+j) ps U.length<|U.length+1+S.length) [] r):B3 gl BF (K+100) 3 (Ju (U++h::(S++W)) k (U.length+j) ps) [] r:=Ag rfl (Av (gU (K:=K+49) u t) Bh)<|Ag rfl (PE rfl rfl (AK<|BY (f:=JQ) rfl (BQ<|by decide) rfl rfl (sR rfl rfl<|sO rfl rfl) rfl<|(NL g q<|AM i<|nL rfl).up<|nA rfl) rfl<|tN rfl<|tO rfl) hr
noncomputable def Fy:Stmt:=Bd BF 5
noncomputable def LQ:Stmt:=at' (DN Fy) 0
def QC(a:Nat):((a+1:Nat):Int)-1=(a:Int):=Int.add_sub_cancel (a:Int) 1
def Ij{f:List (Str×V)}{g:Fn}{z:Str}{u t q:Pos}{i:Nat}(v:true=Cp (g.names.lookup z))(w:AJ z f=some (.d<|.int (a+1:Nat))):Ev gl g (K+2) (.BinOp (.Name z u) .Sub (.Constant (.int 1) i t) q) ⟨f,[]⟩ (.val<|.d<|.int a) ⟨f,[]⟩:=Ak (pR v w) AN<|A3 (λi:Int=>some<|R.val<|V.d<|.int i)<|QC a
def W6(hs:a<=s):Tt gl BF (K+50) (CB Fy) ⟨CT d k a ps s e,[]⟩ false ⟨CT d k a ps s e,[]⟩:=CQ<|FR<|Af rfl (pR rfl rfl) (pR rfl rfl)<|CX<|decide_eq_false λq=>absurd (Bc.mp q)<|Nat.not_lt.mpr hs
def QD(hs:s<a+1)(f:d[a]?=some lo):Tt gl BF (K+50) (CB Fy) ⟨CT d k (a+1) ps s e,[]⟩ (decide (2<lo.2.2.length)) ⟨CT d k (a+1) ps s e,[]⟩:=CQ<|Dk (Af rfl (pR rfl rfl) (pR rfl rfl)<|CX<|Ac<|Bc.mpr hs)<|Dm<|Af rfl (BP (λ_=>rfl) (iX (BI rfl (pR rfl rfl) (Ij rfl rfl)<|CS (w:=AP lo)<|by rw[CP,f];rfl) rfl)<|Hp _) AN<|CX<|decide_eq_decide.mpr Bc
def gW(hs:e<=a+1):Tt gl BF (K+50) (CB LQ) ⟨CT d k a ps s e,[]⟩ false ⟨CT d k a ps s e,[]⟩:=CQ<|FR<|Af rfl (Ak (pR rfl rfl) AN rfl) (pR rfl rfl)<|ES<|decide_eq_false λq=>absurd (Bc.mp q)<|Nat.not_lt.mpr hs
def W7(hs:a+1<e)(f:d[a+1]?=some hr):Tt gl BF (K+50) (CB LQ) ⟨CT d k a ps s e,[]⟩ (decide (2<hr.2.2.length)) ⟨CT d k a ps s e,[]⟩:=CQ<|Dk (Af rfl (Ak (pR rfl rfl) AN rfl) (pR rfl rfl)<|ES<|Ac<|Bc.mpr hs)<|Dm<|Af rfl (BP (λ_=>rfl) (iX (BI rfl (pR rfl rfl) (Ak (pR rfl rfl) AN rfl)<|CS (a:=a+1) (w:=AP hr)<|by rw[CP,f];rfl) rfl)<|Hp _) AN<|CX<|decide_eq_decide.mpr Bc
def gX(hs:s<a+1)(f:d[a]?=some lo)(q:c+1=lo.2.2.length)(g:2<lo.2.2.length):X1 gl BF 95 Fy ⟨CT d k (a+1) ps s e,[]⟩ .next ⟨Ii d k (a+1) ps s e (a+1) c,[]⟩:=B4 ((QD (K:=45) hs f:Tt ..) |> λh=>by rw[Ac g] at h;exact h)<|xO<|Cr rfl rfl (BG (kR rfl rfl)<|BG (AK<|Ak (x:=.val<|.d<|.int c) (BP (λ_=>rfl) (iX (BI rfl (pR rfl rfl) (Ij rfl rfl)<|CS (w:=AP lo)<|by rw[CP,f];rfl) rfl)<|Hp _) AN<|A3 (λi:Int=>some<|R.val<|V.d<|.int i)<|q▸QC c) Cs)<|tN rfl<|tO rfl
def gY(h:Tt gl BF 95 (CB Fy) ⟨CT d k a ps s e,[]⟩ false ⟨CT d k a ps s e,[]⟩)(hs:a+1<e)(f:d[a+1]?=some hr)(g:2<hr.2.2.length):X1 gl BF 95 Fy ⟨CT d k a ps s e,[]⟩ .next ⟨Ii d k a ps s e (a+1) 2,[]⟩:=As h<|B4 ((W7 (K:=44) hs f:Tt ..) |> λh=>by rw[Ac g] at h;exact h)<|xO<|Cr rfl rfl (BG (AK<|Ak (pR rfl rfl) AN rfl)<|BG (AK AN) Cs)<|tN rfl<|tO rfl
def gZ(h:Tt gl BF 95 (CB Fy) ⟨CT d k a ps s e,[]⟩ false ⟨CT d k a ps s e,[]⟩)(f:Tt gl BF 94 (CB LQ) ⟨CT d k a ps s e,[]⟩ false ⟨CT d k a ps s e,[]⟩)(hs:s<a):X1 gl BF 95 Fy ⟨CT d k a ps s e,[]⟩ .next ⟨Ii d k a ps s e a 0,[]⟩:=As h<|As f<|B4 (Af rfl (pR rfl rfl) (pR rfl rfl)<|CX<|Ac<|Bc.mpr hs)<|xO<|Cr rfl rfl (BG (kR rfl rfl)<|BG (AK AN) Cs)<|tN rfl<|tO rfl
def gf(h:Tt gl BF 95 (CB Fy) ⟨CT d k a ps s e,[]⟩ false ⟨CT d k a ps s e,[]⟩)(f:Tt gl BF 94 (CB LQ) ⟨CT d k a ps s e,[]⟩ false ⟨CT d k a ps s e,[]⟩)(hs:a<=s):X1 gl BF 95 Fy ⟨CT d k a ps s e,[]⟩ .next ⟨Ii d k a ps s e (a+1) 0,[]⟩:=As h<|As f<|Av (Af rfl (pR rfl rfl) (pR rfl rfl)<|CX<|decide_eq_false λq=>absurd (Bc.mp q)<|Nat.not_lt.mpr hs)<|xO<|Cr rfl rfl (BG (AK<|Ak (pR rfl rfl) AN rfl)<|BG (AK AN) Cs)<|tN rfl<|tO rfl
end
section
variable{K j a s e C c m:Nat}{k:Int}{x y n hr h:LR}{A B U S W P Q R2 G l:List LR}{z t o u:List (Int×Str)}{r:R}{b:Bool}{p:Int×Str}{E:List Cell}
def W8:((P++n::hr::Q).map AP)[P.length]?=some (AP n):=Fc
def W9:((P++n::hr::Q).map AP)[P.length+1]?=some (AP hr):=by rw[show P++n::hr::Q=(P++[n])++hr::Q from by rw[AD];rfl,CP,mid (m:=P.length+1) A9];rfl
def WA:((P++n::hr::Q).map AP).drop (P.length+2)=Q.map AP:=by have:=LH AP (P++[n]) hr Q;rw[A9,AD] at this;exact this
def WB(f:n.2.2.length+hr.2.2.length<100)(d:B3 gl BF (K+60) 7 (Dc (P++n::hr::Q) k a z s e (P.length+1) c n<|n.2.2++hr.2.2) [] r):B3 gl BF (K+61) 6 (Ii (P++n::hr::Q) k a z s e (P.length+1) c) [] r:=by refine Ag rfl (Cr rfl rfl (BG (AK<|BI rfl (pR rfl rfl) (Ij rfl rfl)<|CS W8)<|BG (BN (ds:=(n.2.2++hr.2.2).map AQ) (Ak (iX (BI rfl (pR rfl rfl) (Ij rfl rfl)<|CS W8) rfl) (iX (BI rfl (pR rfl rfl) (pR rfl rfl)<|CS W9) rfl) ?_) rfl<|BO _) Cs)<|tN rfl<|tO rfl) d;rw[AF];exact D3 (xs:=n.2.2.map AQ) (ys:=hr.2.2.map AQ) rfl rfl rfl<|by rw[A4,A4];exact AM f<|nL rfl
noncomputable def WC(P:List LR)(n:LR)(o:List<|Int×Str)(p:Int×Str)(u:List<|Int×Str)(hr:LR)(Q:List LR):List LR:=P++(n.1,n.2.1,o)::(some p.1,hr.2.1,p::u)::Q
def gg(i:n.2.2++hr.2.2=o++p::u)(g:o.length=c+1)(f:P.length+Q.length<90):B3 gl BF (K+60) 7 (Dc (P++n::hr::Q) k a z s e (P.length+1) (c+1) n<|n.2.2++hr.2.2) []<|.fresh<|((WC P n o p u hr Q).map AP).map V.d:=by rw[i,<-g];refine CR rfl (B4 (Af rfl (pR rfl rfl) AN<|CX<|Ac<|Bc.mpr<|g▸Nat.succ_pos c)<|BR (Ad (BN (ds:=[AP (n.1,n.2.1,o),AP (some p.1,hr.2.1,p::u)]) (Bt (sK (BU (v:=.d<|AP (n.1,n.2.1,o)) (sK (iX (pR rfl rfl) rfl)<|sK (iX (pR rfl rfl) rfl)<|CD (BN (ds:=o.map AQ) (Bx (pR rfl rfl) (λ_=>C0) (Bs<|pR rfl rfl)<|Ic AQ o (p::u)▸Gy o.length) rfl<|BO _) CC) rfl rfl)<|sZ<|BU (v:=.d<|AP (some p.1,hr.2.1,p::u)) (sK (iX (BI rfl (pR rfl rfl) (pR rfl rfl)<|CS (w:=AQ p)<|by rw[CP,mid rfl];rfl) rfl)<|sK (iX (BI rfl (pR rfl rfl) (pR rfl rfl)<|CS W9) rfl)<|CD (BN (ds:=(p::u).map AQ) (Bx (pR rfl rfl) (Bs<|pR rfl rfl) (λ_=>C0) ?_) rfl<|BO _) CC) rfl rfl) rfl) rfl rfl) rfl)<|Eg<|Bo<|Ak (Ak (Bx (pR rfl rfl) (λ_=>C0) (Bs<|Ij rfl rfl)<|Ic AP P (n::hr::Q)▸Gy P.length) (pR rfl rfl)<|D3 (xs:=P.map AP) (ys:=[AP (n.1,n.2.1,o),AP (some p.1,hr.2.1,p::u)]) rfl rfl rfl ?_) (Bx (pR rfl rfl) (Bs<|Ak (pR rfl rfl) AN rfl) (λ_=>C0)<|WA▸Fw (P.length+2)) ?_)<|LN _;rw[show((p::u).map AQ)=((o++p::u).map AQ).drop o.length from by rw[AF,List.drop_left'<|A4 _]];exact Fw _;rw[A4];exact AM (Nat.add_lt_add_right (AO (BA P.length Q.length) f) 2)<|nL rfl;refine(D3 (xs:=P.map AP++[AP (n.1,n.2.1,o),AP (some p.1,hr.2.1,p::u)]) (ys:=Q.map AP) rfl rfl rfl ?_).trans<|A3 (λl:List D=>some<|R.fresh<|l.map V.d) ?_;rw[A9,A4,A4,DB];exact AM (Nat.add_lt_add_right f 2)<|nL rfl;unfold WC;rw[AF,AD];rfl
def gh(f:P.length+Q.length<90)(g:B3 gl BF (K+60) 9 (Dc (P++(n.1,n.2.1,t)::Q) k a z s e (P.length+1) 0 n t) [] r):B3 gl BF (K+62) 7 (Dc (P++n::hr::Q) k a z s e (P.length+1) 0 n t) [] r:=Ag rfl (Av (Af rfl (pR rfl rfl) AN<|CX rfl) Bh)<|Ag rfl (Ad (BN (ds:=(P++(n.1,n.2.1,t)::Q).map AP) (Ak (Ak (Bx (pR rfl rfl) (λ_=>C0) (Bs<|Ij rfl rfl)<|Ic AP P (n::hr::Q)▸Gy P.length) (Bt (sZ<|BU (v:=.d<|AP (n.1,n.2.1,t)) (sK (iX (pR rfl rfl) rfl)<|sK (iX (pR rfl rfl) rfl)<|sO rfl rfl) rfl rfl) rfl)<|D3 (xs:=P.map AP) (ys:=[AP (n.1,n.2.1,t)]) rfl rfl rfl<|by rw[A4];exact AM (Cc<|AO (BA P.length Q.length) f)<|nL rfl) (Bx (pR rfl rfl) (Bs<|Ak (pR rfl rfl) AN rfl) (λ_=>C0)<|WA▸Fw (P.length+2))<|NJ (n.1,n.2.1,t)<|AM f<|nL rfl) rfl<|BO _) rfl) g
structure Mx(R:List LR)(m:Nat):Prop where
 le:∀r∈R,r.2.1.length<=m
 at_:m=0\/∃r∈R,r.2.1.length=m
noncomputable def gi(y:LR)(m:Nat):LR:=(y.1,y.2.1.take<|1+m,y.2.2)
def gj{f:List Int}(i:Nat):Eb E (.val<|.d<|eN f) .none (some (i:Int))=some (.val<|.d<|eN<|f.take i):=by refine DM rfl<|Aa (a:=(f.map D.int).map V.d) rfl ?_;rw[Jf,<-List.map_take,NM,<-List.map_take];rfl
def QE(v:Mx R2 m)(i:R2.length<90):B3 gl BF (K+40) 10 (Dc (y::R2) k a z s e C c n t) []<|.fresh<|((gi y m::R2).map AP).map V.d:=by have L:(1:Int)+(m:Int)=((1+m:Nat):Int):=rfl;refine Ag (xs':=Dc (y::R2) k a z s e C c n t++[(("top" : Str),V.d<|.int (1+m:Nat))]) (σ':=[]) rfl (Ad (AK<|Ak AN (BP (r₁:=.val<|.d<|.int m) (λ_=>rfl) (Ak (Bt (vs:=[.d<|.int 0]) (sZ AN) rfl) (DF (g:=λr=>V.d<|AP r) (h:=λr:LR=>V.d<|.int r.2.1.length) (b:=λ_=>true) (l:=R2) (lr:=((R2.map λr:LR=>(r.2.1.length:Int)).map D.int).map V.d) (ys:=[]) (By rfl (Bx (pR rfl rfl) (Bs AN) (λ_=>C0)<|Fw (l:=(y::R2).map AP) 1) LL) rfl rfl rfl .nil rfl (λr _ J H=>⟨FY,λ_=>AK<|BP (λ_=>rfl) (iX (pn H rfl rfl) rfl)<|(LJ _).trans<|by rw[A4]⟩) ?_ ?_)<|D3 (xs:=[D.int 0]) (ys:=(R2.map λr:LR=>(r.2.1.length:Int)).map D.int) rfl rfl rfl ?_) ?_) rfl) rfl) (CR rfl (Bo<|BY (f:=IR) rfl (BQ<|by decide) rfl rfl (sR rfl rfl<|sK AN<|sZ<|Bx (iX (iX (pR rfl rfl)<|CS (a:=0) (w:=AP y) rfl) rfl) (λ_=>C0) (Bs<|pR rfl rfl)<|gj<|1+m) rfl<|(LO (A:=[]) (by rw[List.length_nil,Nat.zero_add];exact AM i<|nL rfl):Id ..).up<|nA rfl)<|LN _);exact BS<|AM i<|nL rfl;rw[List.filter_eq_self.mpr λ_ _=>rfl,Am,Am];rfl;rw[A4,A4,CK,List.length_nil,Nat.zero_add,C7];exact AM (Cc i)<|nL rfl;refine Vd (l:=0::R2.map λr:LR=>(r.2.1.length:Int)) ?_ λa I=>?_;exact v.at_.elim (λq=>q▸AT) λq=>q.elim λr q=>Ah _<|B9.mpr ⟨r,q.1,A3 Int.ofNat q.2⟩;refine(An.mp I).elim (λq=>q▸Int.ofNat_le.mpr (Bm m)) λq=>?_;obtain⟨r,hr,rfl⟩:=B9.mp q;exact Int.ofNat_le.mpr<|v.le r hr
def WD(i:y.2.1.length≠3\/s+4<=e)(g:B3 gl BF (K+59) 10 (Dc (y::R2) k a z s e C c n t) [] r):B3 gl BF (K+60) 9 (Dc (y::R2) k a z s e C c n t) [] r:=by refine Ag rfl (Av (CQ ?_) Bh) g;by_cases f:y.2.1.length=3;refine Dk (Ig rfl rfl rfl<|Ac<|A3 Int.ofNat f)<|Dm<|Af rfl (Ak (pR rfl rfl) (pR rfl rfl) rfl) AN<|ES<|decide_eq_false λq=>?_;obtain⟨d,rfl⟩:=Nat.exists_eq_add_of_le<|i.resolve_left λq=>q f;rw[Bv,Js] at q;exact absurd (Bc.mp q)<|Nat.not_lt.mpr<|BA _ _;exact FR<|Ig rfl rfl rfl<|decide_eq_false λq=>f<|Int.ofNat.inj q
def gm(w:y.2.1.length=3)(q:s<=e)(v:Cl gl C9 70 [.d<|AI<|y::R2,.d<|.int s,.d<|.int e] [] (.val<|.d<|AI l) [])(i:B3 gl BF (K+90) 10 (Dc l k a z s (e+1) C c n t) [] r)(g:e+1<s+4):B3 gl BF (K+91) 9 (Dc (y::R2) k a z s (e+1) C c n t) [] r:=by refine Ag rfl (B4 (CQ<|Dk (Ig rfl rfl rfl<|Ac<|A3 Int.ofNat w)<|Dm<|Af rfl (Ak (pR rfl rfl) (pR rfl rfl) rfl) AN<|ES<|Ac ?_)<|xO<|Ad (AK<|BY (f:=C9) (us:=[.d<|AI<|y::R2,.d<|.int s,.d<|.int e]) rfl (BQ<|by decide) rfl rfl (sR rfl rfl<|sR rfl rfl<|sZ<|Ij rfl rfl) rfl<|v.up<|nA rfl) rfl) i;obtain⟨d,rfl⟩:=Nat.exists_eq_add_of_le q;rw[Bv,Js];rw[Bv] at g;exact Bc.mpr<|Nat.lt_of_add_lt_add_left g
end
noncomputable def pf(L:List<|Int×Pag):BV:=λn=>AX n L
noncomputable def Hr(q:Int×Pag):D:=.tup [.int q.1,q.2.d]
noncomputable def FB(L:List<|Int×Pag):List Cell:=[.lst<|(L.map Hr).map V.d]
noncomputable def Fd(r:LR):Int:=r.1.getD 0
noncomputable def EV(r:LR)(i:Nat):Int:=r.2.1.getD i 0
noncomputable def Ck(i:Nat)(S:List LR):List LR:=S.filter λr=>decide (r.2.1.length=i+1)
noncomputable def CO(i:Nat)(g:LR×List LR):Int×Pag:=(EV g.1<|i+1,AU ((Ck i g.2).map Fd)<|EV g.1 i::(Ck i g.2).map λr=>EV r i)
noncomputable def HA(a:List LR)(i:Nat):List<|Str×V:=[("rows",.d<|AI a),("pages",.loc 0),("level",.d<|.int (i+1:Nat))]
section
variable{K i o N:Nat}{c u t X S Y:List LR}{h x:LR}{L:List (Int×Pag)}{d:List (Str×V)}{Az p m:List (LR×List LR)}{k:List Cell}{f:List Int}{n:Int}
def gq{j:Type}(l:List j)(a b:Nat):slc l (some (a:Int)) (some (b:Int))=(l.take b).drop a:=by show(l.take<|E2 l.length b).drop (E2 l.length a)=_;unfold E2;rw[A5<|Int.natCast_nonneg b,A5<|Int.natCast_nonneg a,Int.toNat_natCast,Int.toNat_natCast];rcases Nat.le_total b l.length with g|g;rw[Nat.min_eq_left g];rcases Nat.le_total a l.length with e|e;rw[Nat.min_eq_left e];rw[Nat.min_eq_right e,List.drop_of_length_le<|AB (List.length_take_le _ _) g,List.drop_of_length_le<|AB (List.length_take_le _ _)<|AB g e];rw[Nat.min_eq_right g,List.take_length,List.take_of_length_le g];rcases Nat.le_total a l.length with e|e;rw[Nat.min_eq_left e];rw[Nat.min_eq_right e,List.drop_length,List.drop_of_length_le e]
def gt{l:List D}(a b:Nat):Eb k (.val<|.d<|.lst l) (some (a:Int)) (some (b:Int))=some (.fresh<|((l.take b).drop a).map V.d):=by rw[List.map_drop,List.map_take];exact A3 (λl=>some<|R.fresh l)<|gq _ _ _
def gu:(((X++h::(S++Y)).map AP).take<|X.length+1+S.length).drop (X.length+1)=S.map AP:=by rw[show X++h::(S++Y)=((X++[h])++S)++Y from by rw[AD,AD];rfl,AF,List.take_left'<|by rw[A4,A9,A9];rfl,AF,List.drop_left'<|by rw[A4,A9];rfl]
def NQ(h:i<f.length):Ce k (.val<|.d<|eN f) (.val<|.d<|.int i)=some (.d<|.int<|f.getD i 0):=DM rfl<|bnd (a:=(i:Int)) rfl<|bnd (a:=(f.map D.int).map V.d) rfl<|N5 _<|by rw[CP,CP,Cv h,List.getD_eq_getElem?_getD,Cv h];rfl
def gv(H:c=X++h::(S++Y))(hs:AA d<|HA c i)(Q:i+1<h.2.1.length)(hS:∀r∈S,r.1=some (Fd r))(G:c.length<90)(hL:L.length<900):∃B,Ex gl Co 40 (CA<|at' (CA<|Bd Co 1) 1) ⟨AS "e" (.d<|.int (X.length+1+S.length:Nat)) (AS "s" (.d<|.int X.length) d),FB L⟩ .next ⟨B,FB<|L++[CO i (h,S)]⟩/\AA B (HA c i):=by
 have C:AA (AS "e" (.d<|.int (X.length+1+S.length:Nat)) (AS "s" (.d<|.int X.length) d))<|("s",.d<|.int X.length)::("e",.d<|.int (X.length+1+S.length:Nat))::HA c i:=.cons ((JW<|by decide).trans CL)<|.cons CL<|(hs.other rfl).other rfl;have M:S.length<90:=AO (by rw[H,A9,CK,A9];exact AB (AB (BA _ _)<|Nat.le_succ _)<|Nat.le_add_left _ _) G;have E:(Ck i S).length<90:=AO (List.length_filter_le _ _) M;have A:=C.put (x:="inside") (v:=.d<|AI<|Ck i S) rfl;have w:=A.put (x:="kids") (v:=.d<|.lst<|(EV h i::(Ck i S).map λr=>EV r i).map .int) rfl;have O:(c.map AP)[X.length]?=some (AP h):=by rw[H];exact Fc
 have Z:Eb (FB L) (.val<|.d<|AI c) (some ((X.length+1:Nat):Int)) (some ((X.length+1+S.length:Nat):Int))=some (.fresh<|(S.map AP).map V.d):=by rw[<-gu (X:=X) (h:=h) (Y:=Y),<-H];exact gt _ _
 have J:∀{y:List (Str×V)}{K:Nat}{T:Fn}{p1 p2 p3:Pos}{j:Nat}{ys:List (Str×V)},AA y ys->AJ "level" ys=some (.d<|.int (i+1:Nat))->true=Cp (T.names.lookup ("level" : Str))->Ev gl T (K+2) (.BinOp (.Name "level" p1) .Sub (.Constant (.int 1) j p2) p3) ⟨y,FB L⟩ (.val<|.d<|.int i) ⟨y,FB L⟩:=λq G hk=>Ak (pn q hk G) AN<|A3 (λi:Int=>some<|R.val<|V.d<|.int i)<|QC i;have I:∀r∈Ck i S,r.2.1.length=i+1/\r.1=some (Fd r):=λr z=>⟨D2 (List.mem_filter.mp z).2,hS r (List.mem_filter.mp z).1⟩;refine⟨_,BR (Ad (v:=.d<|AI<|Ck i S) (BN (ds:=(Ck i S).map AP) (DF (g:=λr=>V.d<|AP r) (h:=λr=>V.d<|AP r) (b:=λr:LR=>decide (r.2.1.length=i+1)) (l:=S) (ys:=[("level",.d<|.int (i+1:Nat))]) (By rfl (Bx (pn C rfl rfl) (Bs<|Ak (pn C rfl rfl) AN rfl) (Bs<|pn C rfl rfl) Z) LL) rfl rfl rfl (.cons (C.seen rfl rfl) .nil) rfl (λr _ y a=>⟨Ei<|Af rfl (BP (λ_=>rfl) (iX (pn a rfl rfl) rfl)<|LJ _) (pn a rfl rfl)<|F9<|by rw[A4];exact decide_eq_decide.mpr ⟨λq=>Int.ofNat.inj q,A3 Int.ofNat⟩,λ_=>kN a rfl rfl⟩) (BS<|AM M<|nL rfl) Am.symm) rfl<|BO _) rfl)<|BR (Ad (v:=.d<|.lst<|(EV h i::(Ck i S).map λr=>EV r i).map .int) (BN (Ak (Bt (sZ<|BI rfl (iX (BI rfl (pn A rfl rfl) (pn A rfl rfl)<|CS O) rfl) (J A rfl rfl)<|NQ<|Nat.lt_of_succ_lt Q) rfl) (DF (g:=λr=>V.d<|AP r) (h:=λr:LR=>V.d<|.int<|EV r i) (b:=λ_=>true) (l:=Ck i S) (lr:=(((Ck i S).map λr=>EV r i).map D.int).map V.d) (ys:=[("level",.d<|.int (i+1:Nat))]) (By rfl (pn A rfl rfl) DG) rfl rfl rfl (.cons (A.seen rfl rfl) .nil) rfl (λr z y a=>⟨FY,λ_=>AK<|BI rfl (iX (pn a rfl rfl) rfl) (J a rfl rfl)<|NQ<|(I r z).1▸CY i⟩) (BS<|AM E<|nL rfl) ?_)<|D3 (xs:=[D.int<|EV h i]) (ys:=((Ck i S).map λr=>EV r i).map D.int) rfl rfl rfl ?_) rfl<|BO _) rfl)<|xO<|Hf (v:=.d<|Hr<|CO i (h,S)) rfl (pn w rfl rfl) rfl (AK<|BU (v:=.d<|Hr<|CO i (h,S)) (sK (BI rfl (iX (BI rfl (pn w rfl rfl) (pn w rfl rfl)<|CS O) rfl) (pn w rfl rfl)<|NQ Q)<|sZ<|BU (v:=.d (CO i (h,S)).2.d) (sK (CZ GK)<|CD (BN (ds:=((Ck i S).map Fd).map .key) (DF (g:=λr=>V.d<|AP r) (h:=λr:LR=>V.d<|.key<|Fd r) (b:=λ_=>true) (l:=Ck i S) (lr:=(((Ck i S).map Fd).map D.key).map V.d) (ys:=[]) (By rfl (pn w rfl rfl) DG) rfl rfl rfl .nil rfl (λr z y a=>⟨FY,λ_=>AK<|iX (pn a rfl rfl)<|by show some (V.d<|eS r.1)=_;rw[(I r z).2];rfl⟩) (BS<|AM E<|nL rfl) ?_) rfl<|BO _)<|sZ<|pn w rfl rfl) rfl rfl) rfl rfl) rfl ?_ ?_,w.trans<|.cons rfl<|.cons rfl<|.cons rfl .nil⟩;rw[List.filter_eq_self.mpr λ_ _=>rfl,Am,Am];rfl;rw[A4,A4,CK,List.length_nil,Nat.zero_add,C7];exact AM (Cc E)<|nL rfl;rw[List.filter_eq_self.mpr λ_ _=>rfl,Am,Am];rfl;rw[A4,A4];exact AM hL<|nL rfl;unfold FB;rw[AF,AF];rfl
end
noncomputable def D4(Az:List<|LR×List LR):List LR:=Az.flatMap λg=>g.1::g.2
structure Lev(i:Nat)(rs R0:List LR)(Az:List (LR×List LR)):Prop where
 eq:rs=R0++D4 Az
 low:∀r∈R0,r.2.1.length<=i+1
 hd:∀g∈Az,i+1<g.1.2.1.length
 le:∀g∈Az,∀r∈g.2,r.2.1.length<=i+1
 sep:∀g∈Az,∀r∈g.2,r.1=some (Fd r)
noncomputable def El(o:Nat):List (LR×List LR)->List (Nat×Nat)|[]=>[]|g::r=>(o,o+1+g.2.length)::El (o+1+g.2.length) r
noncomputable def dI(n:Nat):V:=.d<|.int n
section
variable{K i o N:Nat}{c d C X S Y:List LR}{h x:LR}{L:List (Int×Pag)}{k:List (Str×V)}{Az A u:List (LR×List LR)}{t:List Cell}{B:List Int}{n:Int}
def gw(g:LR×List LR)(r:List<|LR×List LR):∀o N,N=o+(D4<|g::r).length->HU (((El o<|g::r).map (·.1)).map dI) ((((El o<|g::r).map (·.1)).tail++[N]).map dI)=(El o<|g::r).map λp=>V.tup [dI p.1,dI p.2]:=by
 induction r generalizing g with
 |nil=>
  intro o N a;have e:N=o+1+g.2.length:=by rw[a,show D4 [g]=g.1::g.2 from BJ _,CK,Bv,C7 1]
  subst e;rfl
 |cons f r j=>intro o N a;exact A3 (V.tup [dI o,dI<|o+1+g.2.length]::·)<|j f (o+1+g.2.length) N<|by rw[a,show D4 (g::f::r)=(g.1::g.2)++D4 (f::r) from rfl,A9,CK,<-Bv,<-Bv,DB o]
def hM{p:Nat->Bool}:∀(c a:List LR)(q:LR->Bool),(∀X r Y,a++c=X++r::Y->p X.length=q r)->∀Az d,c=d++D4 Az->(∀r∈d,q r=false)->(∀g∈Az,q g.1=true/\∀r∈g.2,q r=false)->(List.range' a.length c.length).filter p=(El (a.length+d.length) Az).map (·.1):=by
 intro c;induction c with
 |nil=>intro a q m Az d e s j;cases Az with|nil=>rfl|cons g r=>cases d<;>cases e
 |cons x c w=>intro a q m Az d e s j;have E:=m a x c rfl;have f:∀X r Y,(a++[x])++c=X++r::Y->p X.length=q r:=λX r Y e=>m X r Y (by rw[<-e,AD];rfl);have l:(a++[x]).length=a.length+1:=A9;show(List.filter p<|a.length::List.range' (a.length+1) c.length)=_;rw[List.filter_cons,E,<-l];cases d with|cons y d=>obtain⟨rfl,rfl⟩:=List.cons.inj e;rw[s x AT,w (a++[x]) q f Az d rfl (λr G=>s r<|Ah _ G) j,l];exact A3 (λn=>(El n Az).map (·.1)) (show a.length+1+d.length=a.length+(d.length+1) from by rw[Bv,C7 1])|nil=>cases Az with|nil=>exact DW e|cons g r=>obtain⟨z,T⟩:=g;injection (e:x::c=z::(T++D4 r)) with J I;subst J;have v:=j (x,T) AT;rw[v.1,w (a++[x]) q f r T I v.2 λg H=>j g<|Ah _ H,l];rfl
def hO(z:c.length<90):∀(Az:List<|LR×List LR)(X:List LR)(L:List<|Int×Pag)(k:List<|Str×V),c=X++D4 Az->(∀g∈Az,i+1<g.1.2.1.length/\∀r∈g.2,r.1=some (Fd r))->AA k (HA c i)->L.length+Az.length<900->∃a,Lp gl Co 40 (.two "s" "e") (CA<|at' (CA<|Bd Co 1) 1) ((El X.length Az).map λp=>V.tup [dI p.1,dI p.2]) ⟨k,FB L⟩ ⟨a,FB<|L++Az.map (CO i)⟩/\AA a (HA c i):=by intro Az;induction Az with|nil=>intro X L k _ _ hs _;exact⟨k,by rw[List.map_nil,BJ];exact F0,hs⟩|cons g r y=>intro X L k E l hs m;obtain⟨h,S⟩:=g;have f:c=X++h::(S++D4 r):=E;obtain⟨w,G,A⟩:=gv (L:=L) f hs (l _ AT).1 (l _ AT).2 z<|AO (BA _ _) m;obtain⟨v,q,u⟩:=y (X++h::S) (L++[CO i (h,S)]) w (by rw[f,AD];rfl) (λg j=>l g<|Ah _ j) A (by rw[A9];exact AO (BB<|show L.length+1+r.length=L.length+(r.length+1) from by rw[Bv,C7 1]) m);rw[AD,show(X++h::S).length=X.length+1+S.length from by rw[A9,CK,Bv,C7 1]] at q;exact⟨v,ED rfl G q,u⟩
def hU{G:Gl}{f:Fn}{e g:Expr}{p q:Pos}{j:St}{r s:R}{l m:List V}(v:∀n,Fk G (AY G<|n+K) f (.Call (.Name "zip" p) [e,g] [] q) j=OD (AY G<|n+K) f [e,g] j)(h:Ev G f K e j r ⟨k,t⟩)(y:HQ t r=some (l,t))(z:Ev G f K g ⟨k,t⟩ s ⟨k,t⟩)(w:HQ t s=some (m,t)):Dj G f K (.Call (.Name "zip" p) [e,g] [] q) j ⟨HU l m,true⟩ ⟨k,t⟩:=λn=>(v n).trans<|bnd (a:=(e,g)) rfl<|bnd (h n)<|bnd (a:=(l,t)) y<|bnd (z n)<|Aa (a:=(m,t)) w rfl
def WE(v:Lev i c d Az)(q:c.length<90)(hs:AA k<|HA c i)(Z:L.length<500):∃a,Ex gl Co 50 (CA<|Bd Co 1) ⟨k,FB L⟩ .next ⟨a,FB<|L++Az.map (CO i)⟩/\AA a (HA c i):=by
 have G:Az.length<=c.length:=by
  have:∀s:List<|LR×List LR,s.length<=(D4 s).length:=λs=>by induction s with|nil=>exact Au _|cons g s T=>rw[show D4 (g::s)=g.1::(g.2++D4 s) from rfl,CK,CK,A9];exact CV<|AB T<|Nat.le_add_left _ _
  rw[v.eq,A9];exact AB (this Az)<|Nat.le_add_left _ _
 have J:((List.range c.length).filter λj=>decide (i+1<DR c j))=(El d.length Az).map (·.1):=by have:=hM (p:=λj=>decide (i+1<DR c j)) c [] (λr=>decide (i+1<r.2.1.length)) (λX r Y e=>by rw[Jr (r:=r)<|by rw[show c=_ from e];exact mid rfl]) Az d v.eq (λr H=>decide_eq_false<|Nat.not_lt.mpr<|v.low r H) λg y=>⟨Ac<|v.hd g y,λr H=>decide_eq_false<|Nat.not_lt.mpr<|v.le g y r H⟩;rw[List.length_nil,Nat.zero_add,<-List.range_eq_range'] at this;exact this
 have E:=hs.put (x:="starts") (v:=.d<|.lst<|((El d.length Az).map (·.1)).map λn:Nat=>D.int n) rfl;obtain⟨Q,O,u⟩:=hO (i:=i) q Az d L _ v.eq (λg y=>⟨v.hd g y,v.sep g y⟩) (E.trans<|.cons rfl<|.cons rfl<|.cons rfl .nil)<|Be (Nat.add_lt_add_of_lt_of_le Z G)<|AB (BW (BS q) _)<|nL rfl;have ec:((((List.range c.length).filter λj=>decide (i+1<DR c j)).map λn:Nat=>V.d<|.int n))=((((El d.length Az).map (·.1)).map λn:Nat=>D.int n).map V.d):=by rw[J,Am (f:=λn:Nat=>D.int n)];rfl
 have LS:((El d.length Az).map (·.1)).length<=c.length:=by rw[<-J];exact AB (List.length_filter_le _ _)<|BB List.length_range
 refine⟨Q,BR (Ad (BN (DF (g:=λn:Nat=>V.d<|.int n) (h:=λn:Nat=>V.d<|.int n) (b:=λj:Nat=>decide (i+1<DR c j)) (l:=List.range c.length) (ys:=[("rows",.d<|AI c),("level",.d<|.int (i+1:Nat))]) (LF (i:=(c.length:Int)) (λ_=>rfl) (BP (λ_=>rfl) (pn hs rfl rfl)<|(Do _).trans<|by rw[A4]) (LG (M:=0) (nL rfl)<|AM q<|nL rfl) ?_) rfl rfl rfl (.cons (hs.seen rfl rfl)<|.cons (hs.seen rfl rfl) .nil) rfl (λj I zs z=>⟨Ei ?_,λ_=>kN z rfl rfl⟩) ?_ ec) rfl<|BO _) rfl)<|xO<|Ez (hU (λ_=>rfl) (pn E rfl rfl) (l:=((El d.length Az).map (·.1)).map dI) (A3 (λl=>some (l,FB L)) Am) (Ak (Bx (pn E rfl rfl) (Bs AN) (λ_=>C0)<|Fw 1) (Bt (vs:=[.d<|.int c.length]) (sZ<|BP (λ_=>rfl) (pn E rfl rfl)<|(Do _).trans<|by rw[A4]) rfl)<|D3 (xs:=(((El d.length Az).map (·.1)).map λn:Nat=>D.int n).drop 1) (ys:=[D.int c.length]) rfl rfl rfl ?_) (m:=(((El d.length Az).map (·.1)).tail++[c.length]).map dI) ?_) rfl rfl ?_,u⟩;rw[NH,Am];rfl;have I:=List.mem_range.mp I;have e:c[j]?=some c[j]:=Cv I;refine Af rfl (BP (λ_=>rfl) (iX (BI rfl (pn z rfl rfl) (pn z rfl rfl)<|CS (w:=AP c[j])<|by rw[CP,e];rfl) rfl)<|LJ _) (pn z rfl rfl)<|CX ?_;rw[A4,Jr e];exact decide_eq_decide.mpr Bc;rw[List.length_range];exact BS<|AM q<|nL rfl;rw[List.length_drop,A4];exact AO (Ds (AB (Nat.sub_le _ _) LS) 1)<|AM (Cc q)<|nL rfl;refine A3 (λl=>some (l,FB L)) ?_;rw[AF,AF,List.drop_one,List.map_tail,Am,List.map_tail (f:=dI)];rfl;cases Az with|nil=>exact Mine.U.up (nL rfl) (P:=λn=>forLoop' (AY gl n) Co _ _ _ _=some _) O|cons g r=>show Lp gl Co _ _ _ (HU _ _) _ _;rw[gw g r d.length c.length<|by rw[v.eq,A9]];exact Mine.U.up (nL rfl) (P:=λn=>forLoop' (AY gl n) Co _ _ _ _=some _) O
end
noncomputable def D5(a:List LR):List<|Int×Pag:=a.map λr=>(EV r 0,Ar r.2.2)
section
variable{rs j f:List LR}{s1 c:List (LR×List LR)}{x:LR}{ns:List Int}{n:Int}{d:List Cell}
def hV:Ce d (.val<|.d<|eN<|ns++[n]) (.val<|.d<|.int<|-1)=some (.d<|.int n):=by refine DM rfl<|bnd (a:=-1) rfl<|bnd (a:=((ns++[n]).map D.int).map V.d) rfl ?_;rw[AF,AF];exact Pl _ _
def QF(m:Lev 0 (x::rs) j s1)(C:Lev 1 (x::rs) f c)(M:x.2.1=ns++[n])(T:∀r∈x::rs,r.2.1≠[])(k:(x::rs).length<90)(Q:((D5 (x::rs)++s1.map (CO 0)++c.map (CO 1)).map (·.1)).Nodup)(S:∀q∈D5 (x::rs)++s1.map (CO 0)++c.map (CO 1),q.1∈B7):Cl gl Co 80 [.d<|AI<|x::rs] [] (.val<|.d<|tD (pf<|D5 (x::rs)++s1.map (CO 0)++c.map (CO 1)) n) []:=by
 have z:(D5<|x::rs).length<90:=by unfold D5;rw[A4];exact k
 have H:AA [("rows",.d<|AI<|x::rs),("pages",.loc 0),("level",.d<|.int (0+1:Nat))]<|HA (x::rs) 0:=.refl;obtain⟨B,Z,E⟩:=WE (L:=D5<|x::rs) m k H<|AM z<|nL rfl;have G:AA (AS "level" (.d<|.int (1+1:Nat)) B)<|HA (x::rs) 1:=E.put rfl;have I:(s1.map<|CO 0).length<=(x::rs).length:=by
  have:∀s:List<|LR×List LR,s.length<=(D4 s).length:=λs=>by induction s with|nil=>exact Au _|cons g s J=>rw[show D4 (g::s)=g.1::(g.2++D4 s) from rfl,CK,CK,A9];exact CV<|AB J<|Nat.le_add_left _ _
  rw[m.eq,A9,A4];exact AB (this s1)<|Nat.le_add_left _ _
 obtain⟨A,Y,o⟩:=WE (L:=D5 (x::rs)++s1.map (CO 0)) C k G (by rw[A9];exact Be (Nat.add_lt_add z<|AO I k)<|nL rfl);generalize hL:D5 (x::rs)++s1.map (CO 0)++c.map (CO 1)=L at *;have X:L.map Hr=(L.map<|vm Pag.d).map BT:=by rw[Am];rfl
 have D1:Dic (L.map<|vm Pag.d) λn=>(pf L n).map Pag.d:=⟨by rw[Am];exact Q,λn=>L1 Pag.d n L⟩;have hs:C1 λn=>(pf L n).map Pag.d:=λn y e=>by by_cases t:n∈L.map (·.1);obtain⟨q,O,e⟩:=B9.mp t;exact e▸S q O;have e:(AX n L).map Pag.d=some y:=e;rw[DY.mpr t] at e;exact Ae e
 refine Cl.u (K:=70) (Ct rfl rfl<|Ag rfl (Ad (Cq (l:=((D5<|x::rs).map Hr).map V.d) (DF (g:=λr=>V.d<|AP r) (h:=λr:LR=>V.d<|Hr (EV r 0,Ar r.2.2)) (b:=λ_=>true) (l:=x::rs) (ys:=[]) (By rfl (pR rfl rfl) DG) rfl rfl rfl .nil rfl (λr N zs p=>⟨FY,λ_=>AK<|BU (v:=.d<|Hr (EV r 0,Ar r.2.2)) (sK (BI rfl (iX (pn p rfl rfl) rfl) AN<|NQ (i:=0)<|List.length_pos_iff.mpr<|T r N)<|sZ<|BU (v:=.d (Ar r.2.2).d) (sK (CZ F5)<|CD (BN (ds:=r.2.2.map AQ) (BP (λ_=>rfl) (iX (pn p rfl rfl) rfl) rfl) rfl<|BO _) CC) rfl rfl) rfl rfl⟩) (BS<|AM k<|nL rfl) ?_) rfl) rfl)<|Ag (xs':=A) (σ':=FB L) rfl (Ez (l:=⟨[.d<|.int (0+1:Nat),.d<|.int (1+1:Nat)],false⟩) (By rfl (BU (v:=.d<|.tup [.int 1,.int 2]) (sK AN<|sZ AN) rfl rfl) rfl) rfl rfl<|ED rfl (Ex.up Z<|nL rfl)<|ED rfl (Ex.up Y<|nL rfl) F0)<|CR rfl (Bo<|BU (v:=.d<|tD (pf L) n) (CD (BN (ds:=(AH λn=>(pf L n).map Pag.d).map BT) (BP (λ_=>rfl) (pn o rfl rfl) ?_) rfl<|BO _)<|sZ<|BI rfl (iX (iX (pn o rfl rfl)<|CS (a:=0) (w:=AP x) rfl) rfl) (λ_=>rfl)<|M▸hV) rfl rfl) rfl) rfl;unfold D5;rw[Am,Am,List.filter_eq_self.mpr λ_ _=>rfl];rfl;refine(A1<|by decide).trans ((A1<|by decide).trans<|(A1<|by decide).trans<|(A5 rfl).trans<|DM rfl<|bnd (a:=(L.map Hr).map V.d) rfl<|bnd (BO _)<|Aa (a:=(AH λn=>(pf L n).map Pag.d).map BT) ?_ rfl);rw[X];exact D1.sorted hs
end
abbrev A6:=Int×Int×List (Int×Str)
noncomputable def B6(a:List A6):List Int:=a.tail.map (·.1)
noncomputable def AG(a:List A6):List Int:=a.map (·.2.1)
noncomputable def AV(a:List A6):List<|Int×Pag:=a.map λr=>(r.2.1,Ar r.2.2)
noncomputable def BL(g:Int)(R:List A6):Int×Pag:=(g,AU (B6 R)<|AG R)
noncomputable def Ab(x:A6)(a:List<|Int×Str):A6:=(x.1,x.2.1,a)
noncomputable def Ba(S:List A6):Int:=(S.map (·.1)).headD 0
section
variable{c A B:List A6}{x:A6}{k:Int}{a b e:Int×Str}{ps:List (Int×Str)}{m:Nat}
structure Loc(c:List A6)(k:Int)(A:List A6)(x:A6)(B:List A6):Prop where
 eq:c=A++x::B
 low:∀y∈(A++[x]).tail,y.1<=k
 high:∀y∈B,k<y.1
def Hs(A:List A6)(x:A6)(B:List A6):B6 (A++x::B)=B6 (A++[x])++B.map (·.1):=by unfold B6;cases A with|nil=>rfl|cons a A=>show(A++x::B).map _=(A++[x]).map _++_;rw[AF,AF,AD];rfl
def Ht(A:List A6)(x:A6):(B6<|A++[x]).length=A.length:=by unfold B6;rw[A4,List.length_tail,A9];rfl
def LU(A:List A6)(x:A6)(ps:List<|Int×Str)(B:List A6):B6 (A++Ab x ps::B)=B6 (A++x::B):=by rw[Hs,Hs A x];refine A3 (·++_) ?_;unfold B6;cases A with|nil=>rfl|cons a A=>show(A++_).map _=(A++_).map _;rw[AF,AF];rfl
noncomputable def Bb(A:List A6)(x:A6)(a b e:Int×Str)(ps:List<|Int×Str)(m:Nat)(B:List A6):List A6:=A++Ab x [a,b]::(e.1,(m:Int),e::ps)::B
def WG:B6 (Bb A x a b e ps m B)=B6 (A++[x])++e.1::B.map (·.1):=by unfold Bb;rw[LU,Hs];rfl
def WH:(Bb A x a b e ps m B).length=A.length+B.length+2:=by unfold Bb;rw[A9];rfl
end
section
variable{P Q L:List (Int×Pag)}{n:Int}{p a:Pag}{m:Nat}
def Ik{c:Type}(m:Int)(P Q:List<|Int×c):AX m (P++Q)=BK (AX m P) some (AX m Q):=by induction P with|nil=>rfl|cons q P d=>rw[List.cons_append,Ca,Ca,d];by_cases e:m=q.1;rw[A5 e,A5 e];rfl;rw[A1 e,A1 e]
def Il(h:((P++(n,p)::Q).map (·.1)).Nodup):n∉P.map (·.1)/\n∉Q.map (·.1):=by rw[AF] at h;have h:=List.nodup_append.mp h;exact⟨λq=>h.2.2 n q n AT rfl,(Bi.mp h.2.1).1⟩
def HB(h:n∉P.map (·.1)):upd (pf<|P++Q) n (some p)=pf (P++(n,p)::Q):=funext λj=>by unfold pf;rw[Ik j P<|(n,p)::Q,Ca];by_cases e:j=n;rw[e,Aj,DY.mpr h,A5 rfl];rfl;rw[Ay e,A1 e,Ik]
def G0(h:((P++(n,p)::Q).map (·.1)).Nodup):upd (pf<|P++(n,p)::Q) n (some a)=pf (P++(n,a)::Q):=by rw[<-HB (Il h).1,<-HB (Il h).1,F8]
def NR(h:((P++(n,p)::Q).map (·.1)).Nodup):upd (pf<|P++(n,p)::Q) n .none=pf (P++Q):=funext λj=>by rw[<-HB (Il h).1,F8];by_cases e:j=n;rw[e,Aj];unfold pf;rw[Ik,DY.mpr (Il h).1,DY.mpr (Il h).2];rfl;exact Ay e
def Fe(h:((P++(n,p)::Q).map (·.1)).Nodup):pf (P++(n,p)::Q) n=some p:=by rw[<-HB (Il h).1,Aj]
def HC(h:(L.map (·.1)).Nodup)(c:(n,p)∈L):pf L n=some p:=by obtain⟨P,Q,rfl⟩:=List.append_of_mem c;exact Fe h
def Em(h:∀q∈L,q.1∈B7):C1<|pf L:=λn y e=>by by_cases c:n∈L.map (·.1);obtain⟨q,d,e⟩:=B9.mp c;exact e▸h q d;have e:AX n L=some y:=e;rw[DY.mpr c] at e;exact Ae e
def WI(h:m<=35):(m:Int)∈B7:=by
 have k:∀i:Nat,i<36->(i:Int)∈B7:=by decide
 exact k m<|D0 h
def LV(h:Free (L.map (·.1)) m)(c:L.length<=35):Least (pf L) m:=⟨λk d=>by cases e:pf L k with|none=>exact absurd (h.low k d) (DY.mp e)|some y=>rfl,DY.mpr h.no,WI<|AB h.le<|by rw[A4];exact c⟩
end
section
variable{j:List Cell}{s d:Nat}{r k:Int}{l:Int->BH}{f m:BV}{v:Str}{K o:Nat}{i:D}{n:Int}{R A B:List A6}{x:A6}
theorem PutR.u(h:PutR K j s d r l f n k v i m)(e:true=Nat.ble K o):PutR o j s d r l f n k v i m:=by obtain⟨a,b,c,H,S⟩:=h;exact⟨a,b,c.u e,H,S⟩
theorem RemR.u(h:RemR K j s d r l f n k m)(e:true=Nat.ble K o):RemR o j s d r l f n k m:=by obtain⟨a,b,c,H,S⟩:=h;exact⟨a,b,c.u e,H,S⟩
def GN(A:List A6)(x:A6)(B:List A6):AG (A++x::B)=AG A++x.2.1::AG B:=AF
def Im(A:List A6)(x:A6)(B:List A6):AV (A++x::B)=AV A++(x.2.1,Ar x.2.2)::AV B:=AF
def QG(A:List A6)(x:A6)(a:List<|Int×Str)(B:List A6):AG (A++Ab x a::B)=AG (A++x::B):=by rw[GN,GN];rfl
def NS(g:Int)(A:List A6)(x:A6)(a:List<|Int×Str)(B:List A6):BL g (A++Ab x a::B)=BL g (A++x::B):=by unfold BL;rw[LU,QG]
def LW{g:Int}(h:Loc R k A x B)(q:f g=some (AU (B6 R)<|AG R))(c:R.length<50):Inn f g k (B6<|A++[x]) (B.map (·.1)) (AG A) (AG B) x.2.1:=by
 have c:A.length+B.length<50:=by rw[h.eq,A9] at c;exact Nat.lt_of_succ_lt c
 refine⟨?_,?_,λa t=>?_,λb e=>?_,?_,?_⟩;rw[q,h.eq,Hs,GN];rw[Ht];exact A4 _;obtain⟨y,p,rfl⟩:=B9.mp t;exact h.low y p;cases B with|nil=>exact Ae e|cons y B=>obtain rfl:=Option.some.inj e;exact h.high y AT
 rw[Ht,A4];exact AM c<|nL rfl;unfold AG;rw[A4,A4];exact AM c<|nL rfl
end
section
variable{t:List Cell}{s d m o:Nat}{r k g:Int}{u:Int->BH}{v:Str}{R A B:List A6}{x:A6}{c M i:List (Int×Pag)}{a b e:Int×Str}{ps:List (Int×Str)}
noncomputable def GL(c:List<|Int×Pag)(R:List A6)(M:List<|Int×Pag)(g:Int)(i:List<|Int×Pag):List<|Int×Pag:=c++(AV R++(M++BL g R::i))
def Jv:GL c (A++x::B) M g i=(c++AV A)++(x.2.1,Ar x.2.2)::(AV B++(M++BL g (A++x::B)::i)):=by unfold GL;rw[Im,AD,AD];rfl
def NT:GL c R M g i=(c++(AV R++M))++(g,AU (B6 R)<|AG R)::i:=by unfold GL;rw[AD,AD];rfl
def WJ{l:List (Int×Str)}(f:((GL c (A++x::B) M g i).map (·.1)).Nodup):upd (pf<|GL c (A++x::B) M g i) x.2.1 (some<|Ar l)=pf (GL c (A++Ab x l::B) M g i):=by rw[Jv] at f ⊢;rw[G0 f,Jv,NS];rfl
def QH(f:((GL c (A++x::B) M g i).map (·.1)).Nodup):pf (GL c (A++x::B) M g i) x.2.1=some (Ar x.2.2):=by rw[Jv] at f ⊢;exact Fe f
def NU(f:((GL c R M g i).map (·.1)).Nodup):pf (GL c R M g i) g=some (AU (B6 R)<|AG R):=by rw[NT] at f ⊢;exact Fe f
def WK:(GL c (A++Ab x ps::B) M g i).map (·.1)=(GL c (A++x::B) M g i).map (·.1):=by rw[Jv,Jv,NS,AF,AF (l₁:=c++AV A)];rfl
def hW(H:HT t s d r u<|pf<|GL c (A++x::B) M g i)(f:((GL c (A++x::B) M g i).map (·.1)).Nodup)(h:Loc (A++x::B) k A x B)(p:(A++x::B).length<50)(n:(x.2.2.map (·.1)).Nodup)(l:x.2.2.length<60)(q:(C5 k v x.2.2).length<=4):PutR 50 t s d r u (pf<|GL c (A++x::B) M g i) g k v .none<|pf<|GL c (A++Ab x (C5 k v x.2.2)::B) M g i:=by have j:=V2 (k:=k) (v:=v) H (QH f) n l q;rw[WJ f] at j;exact V3 (K:=20) j H<|LW h (NU f) p
def WL(l:((GL c (A++x::B) M g i).map (·.1)).Nodup)(n:(m:Int)∉(GL c (A++x::B) M g i).map (·.1)):upd (upd (pf<|GL c (A++x::B) M g i) x.2.1<|some<|Ar [a,b]) m (some<|Ar<|e::ps)=pf ((c++(AV (Bb A x a b e ps m B)++M))++(g,AU (B6<|A++x::B)<|AG<|A++x::B)::i)/\(((c++(AV (Bb A x a b e ps m B)++M))++(g,AU (B6<|A++x::B)<|AG<|A++x::B)::i).map (·.1)).Nodup:=by
 have h:GL c (A++Ab x [a,b]::B) M g i=(c++(AV A++[(x.2.1,Ar [a,b])]))++(AV B++(M++BL g (A++x::B)::i)):=by rw[Jv,NS,AD,AD,AD];rfl
 have p:(c++(AV (Bb A x a b e ps m B)++M))++(g,AU (B6<|A++x::B)<|AG<|A++x::B)::i=(c++(AV A++[(x.2.1,Ar [a,b])]))++((m:Int),Ar<|e::ps)::(AV B++(M++BL g (A++x::B)::i)):=by unfold Bb;rw[Im,AD,AD,AD,AD,AD];show c++(AV A++(_::(_::(AV B)++(M++_))))=_;rw[List.cons_append];rfl
 have j:(m:Int)∉((c++(AV A++[(x.2.1,Ar [a,b])]))++(AV B++(M++BL g (A++x::B)::i))).map (·.1):=by rw[<-h,WK];exact n
 rw[WJ l,h,p];refine⟨HB λq=>j<|by rw[AF];exact BC _ q,?_⟩;rw[AF,List.map_cons];have f:(((c++(AV A++[(x.2.1,Ar [a,b])]))++(AV B++(M++BL g (A++x::B)::i))).map (·.1)).Nodup:=by rw[<-h,WK];exact l
 exact(List.perm_middle.nodup_iff).mpr<|Bi.mpr ⟨by rw[<-AF];exact j,by rw[<-AF];exact f⟩
def QI:AG (Bb A x a b e ps m B)=AG A++x.2.1::(m:Int)::AG B:=GN A (Ab x [a,b])<|(e.1,(m:Int),e::ps)::B
def hZ(H:HT t s d r u<|pf<|GL c (A++x::B) M g i)(f:((GL c (A++x::B) M g i).map (·.1)).Nodup)(h:Loc (A++x::B) k A x B)(j:(A++x::B).length<5)(z:(x.2.2.map (·.1)).Nodup)(y:x.2.2.length<60)(C:C5 k v x.2.2=a::b::e::ps)(E:1<ps.length)(p:Least (pf<|GL c (A++x::B) M g i) m):PutR 50 t s d r u (pf<|GL c (A++x::B) M g i) g k v .none<|pf<|GL c (Bb A x a b e ps m B) M g i:=by have w:=Px (k:=k) (v:=v) H (QH f) z y C E p;obtain⟨G,l⟩:=WL (a:=a) (b:=b) (e:=e) (ps:=ps) f<|DY.mp p.no;rw[G] at w;have q:=V5 (K:=20) (n:=g) (k2:=e.1) (m:=m) w H (LW h (NU f)<|AM j<|nL rfl) ?_ ?_;rw[G0 l,<-WG (a:=a) (b:=b) (ps:=ps) (m:=m),<-QI (a:=a) (b:=b) (e:=e) (ps:=ps),<-NT] at q;exact q;rw[Fe l,Hs,GN];rw[A9,Ht,CK,A4];rw[A9,CK] at j;exact CF j
def WM{l:Type}{f:Int->Option l}{n j:Int}{p:l}(h:upd f n (some p) j=.none):f j=.none:=by by_cases e:j=n;rw[e,Aj] at h;exact FO h;rwa [Ay e] at h
def QJ(X:List<|Int×Pag)(g:Int)(p q:Pag)(Q:List<|Int×Pag):(X++(g,p)::Q).map (·.1)=(X++(g,q)::Q).map (·.1):=by rw[AF,AF];rfl
def mem_any{X Q:List (Int×Pag)}{g n:Int}{p q:Pag}(h:n∈(X++[(g,p)]).map (·.1)):n∈(X++(g,q)::Q).map (·.1):=by rw[AF] at h ⊢;exact(BE.mp h).elim (BC _) λq=>Aw _<|An.mpr<|.inl<|Ao.mp q
def i0{C z y j w l:A6}(H:HT t s d r u<|pf<|GL c (A++x::B) M g i)(I:((GL c (A++x::B) M g i).map (·.1)).Nodup)(h:Loc (A++x::B) k A x B)(hl:(A++x::B).length<50)(hn:(x.2.2.map (·.1)).Nodup)(hp:x.2.2.length<60)(hL:C5 k v x.2.2=a::b::e::ps)(h4:1<ps.length)(S:Least (pf<|GL c (A++x::B) M g i) m) (T:Bb A x a b e ps m B=[C,z,y,j,w,l]) (E:Free ((GL c [C,z,y,j,w,l] M g i).map (·.1)) o) (L:(GL c [C,z,y,j,w,l] M g i).length<=35):PutR 50 t s d r u (pf<|GL c (A++x::B) M g i) g k v (.tup [.key j.1,.int o])<|pf<|c++(AV [C,z,y,j,w,l]++(M++BL g [C,z,y]::BL o [j,w,l]::i)):=by
 have N:=Px (k:=k) (v:=v) H (QH I) hn hp hL h4 S;obtain⟨Z,J⟩:=WL (a:=a) (b:=b) (e:=e) (ps:=ps) I<|DY.mp S.no;rw[Z] at N;have hs:=WG (A:=A) (x:=x) (a:=a) (b:=b) (e:=e) (ps:=ps) (m:=m) (B:=B);have X:=QI (A:=A) (x:=x) (a:=a) (b:=b) (e:=e) (ps:=ps) (m:=m) (B:=B);rw[T] at hs X N J;have O:((c++(AV [C,z,y,j,w,l]++M))++(g,AU (B6<|A++x::B)<|AG<|A++x::B)::i).map (·.1)=(GL c [C,z,y,j,w,l] M g i).map (·.1):=by rw[NT];exact QJ _ _ _ _ _
 have L2:Least (pf<|(c++(AV [C,z,y,j,w,l]++M))++(g,AU (B6<|A++x::B)<|AG<|A++x::B)::i) o:=LV (by rw[O];exact E) (by rw[<-A4 (f:=(·.1)),O,A4];exact L);have G:=fJ (K:=20) (n:=g) (k2:=e.1) (m:=m) (m2:=o) (x1:=z.1) (x2:=y.1) (x3:=j.1) (Rk:=[w.1,l.1]) (y1:=C.2.1) (y2:=z.2.1) (y3:=y.2.1) (Tc:=[j.2.1,w.2.1,l.2.1]) N H (LW h (NU I) hl) (by rw[Fe J,Hs,GN]) hs.symm X.symm (by decide:1<2) L2 ?_<|nL rfl;rw[G0 J] at G;have Y:=HB (P:=(c++(AV [C,z,y,j,w,l]++M))++[BL g [C,z,y]]) (Q:=i) (n:=(o:Int)) (p:=AU [w.1,l.1] [j.2.1,w.2.1,l.2.1]) λq=>E.no (by rw[NT];exact mem_any q);rw[AD] at Y;have G:=(A3 (PutR 50 t s d r u (pf<|GL c (A++x::B) M g i) g k v<|.tup [.key j.1,.int o]) Y).mp G;rw[AD,AD,AD] at G;exact G;have q:=L2.no;rw[<-T,<-Z] at q;exact WM<|WM q
end
section
variable{j:List Cell}{s d:Nat}{r k g:Int}{m:Int->BH}{R A B:List A6}{x y:A6}{f M c:List (Int×Pag)}{i:Int×Pag}{l:List (Int×Str)}{p n:Pag}{z w:Int×Str}
noncomputable def GX(f:List<|Int×Pag)(R:List A6)(M:List<|Int×Pag)(i:Int×Pag)(c:List<|Int×Pag):List<|Int×Pag:=f++(AV R++(M++i::c))
def Nd(L:List<|Int×Pag):Prop:=(L.map (·.1)).Nodup
def Jw:GX f (A++x::B) M i c=(f++AV A)++(x.2.1,Ar x.2.2)::(AV B++(M++i::c)):=by unfold GX;rw[Im,AD,AD];rfl
def QK:GX f R M i c=(f++(AV R++M))++i::c:=by unfold GX;rw[AD,AD]
def G3(a:Nd<|GX f (A++x::B) M i c):pf (GX f (A++x::B) M i c) x.2.1=some (Ar x.2.2):=by unfold Nd at a;rw[Jw] at a ⊢;exact Fe a
def Jx(a:Nd<|GX f (A++x::B) M i c):upd (pf<|GX f (A++x::B) M i c) x.2.1 (some<|Ar l)=pf (GX f (A++Ab x l::B) M i c)/\Nd (GX f (A++Ab x l::B) M i c):=by unfold Nd at a ⊢;rw[Jw] at a ⊢;refine⟨by rw[G0 a,Jw];rfl,?_⟩;rw[AF] at a;rw[Jw,AF];exact a
def i3(a:Nd<|GX f (A++x::B) M i c):upd (pf<|GX f (A++x::B) M i c) x.2.1 .none=pf (GX f (A++B) M i c)/\Nd (GX f (A++B) M i c):=by
 unfold Nd at a ⊢;rw[Jw] at a ⊢;have e:GX f (A++B) M i c=(f++AV A)++(AV B++(M++i::c)):=by unfold GX AV;rw[AF,AD,AD]
 rw[e];exact⟨NR a,((List.Sublist.append_left (List.sublist_cons_self _ _) _).map _).nodup a⟩
def i4(a:Nd<|GX f R M (g,p) c):upd (pf<|GX f R M (g,p) c) g (some n)=pf (GX f R M (g,n) c):=by unfold Nd at a;rw[QK] at a ⊢;rw[G0 a,QK]
def Jy(a:Nd<|GX f R M (g,p) c):pf (GX f R M (g,p) c) g=some p:=by unfold Nd at a;rw[QK] at a ⊢;exact Fe a
structure RG(j:List Cell)(s d:Nat)(r:Int)(m:Int->BH)(f:List (Int×Pag))(A:List A6)(x:A6)(B:List A6)(M:List (Int×Pag))(g:Int)(c:List (Int×Pag))(k:Int):Prop where
 H:HT j s d r m (pf (GL f (A++x::B) M g c))
 nd:Nd (GL f (A++x::B) M g c)
 loc:Loc (A++x::B) k A x B
 len:(A++x::B).length<50
 ln:∀y∈A++x::B,y.2.2.length<40
def RG.leaf(h:RG j s d r m f A x B M g c k):RemR 40 j s d r m (pf<|GL f (A++x::B) M g c) x.2.1 k (pf<|GX f (A++Ab x (outP' k x.2.2)::B) M (BL g<|A++x::B) c)/\Nd (GX f (A++Ab x (outP' k x.2.2)::B) M (BL g<|A++x::B) c):=by have a:=VA (k:=k) h.H (G3 h.nd)<|AM (h.ln x<|Aw _ AT)<|nL rfl;have e:=Jx (l:=outP' k x.2.2) h.nd;rw[show upd (pf<|GL f (A++x::B) M g c) x.2.1 (some<|Ar<|outP' k x.2.2)=_ from e.1] at a;exact⟨a,e.2⟩
def RG.inn(h:RG j s d r m f A x B M g c k):Inn (pf<|GL f (A++x::B) M g c) g k (B6<|A++[x]) (B.map (·.1)) (AG A) (AG B) x.2.1:=LW h.loc (Jy (p:=AU (B6<|A++x::B)<|AG<|A++x::B) h.nd) h.len
def i5(h:RG j s d r m f A x B M g c k)(o:2<=(outP' k x.2.2).length):RemR 50 j s d r m (pf<|GL f (A++x::B) M g c) g k<|pf<|GL f (A++Ab x (outP' k x.2.2)::B) M g c:=by
 have⟨q,a⟩:=h.leaf;have e:GL f (A++Ab x (outP' k x.2.2)::B) M g c=GX f (A++Ab x (outP' k x.2.2)::B) M (BL g<|A++x::B) c:=by unfold GL GX;rw[NS]
 rw[e];exact VC (K:=20) q h.H h.inn ((Jy a).trans (Jy (p:=AU (B6<|A++x::B)<|AG<|A++x::B) h.nd).symm) (G3 a)<|by show 2<=(List.map AQ _).length;rw[A4];exact o
def NV{C:BV}(h:RG j s d r m f A x B M g c k)(G:(outP' k x.2.2).length<2)(E:∀o e,HT o s d r e (pf<|GX f (A++Ab x (outP' k x.2.2)::B) M (BL g<|A++x::B) c)->Step8 20 s g k e A.length (.loc (e x.2.1).1) (Fa e<|AG A) (Gx e<|AG B) o d r C):RemR 50 j s d r m (pf<|GL f (A++x::B) M g c) g k C:=by
 have⟨I,t⟩:=h.leaf;have v:∀y:A6,y∈A++Ab x (outP' k x.2.2)::B->(pf (GX f (A++Ab x (outP' k x.2.2)::B) M (BL g<|A++x::B) c) y.2.1).isSome=true:=λy q=>by rw[HC (p:=Ar y.2.2) t<|Aw _<|BC _<|B9.mpr ⟨y,q,rfl⟩];rfl
 refine VF (K:=20) I h.H h.inn ((Jy t).trans (Jy (p:=AU (B6<|A++x::B)<|AG<|A++x::B) h.nd).symm) (G3 t) (by show(List.map AQ _).length<2;rw[A4];exact G) (λa u=>?_) (λa u=>?_) λo e J=>by rw[Ht];exact E o e J
 obtain⟨y,q,rfl⟩:=B9.mp<|List.mem_of_getLast? u;exact v y<|BC _ q;obtain⟨y,q,rfl⟩:=B9.mp<|List.mem_of_head? u;exact v y<|Aw _<|Ah _ q
end
section
variable{E:List Cell}{s d:Nat}{r k g:Int}{o:Int->BH}{R A t B:List A6}{x y G H:A6}{m M j:List (Int×Pag)}{C:Int×Pag}{l:List (Int×Str)}{p I:Pag}{z w:Int×Str}{f:BV}
def Cm(A:List A6)(y x:A6)(B:List A6):A++y::x::B=(A++[y])++x::B:=by rw[AD];rfl
def QL(A:List A6)(y x:A6)(B:List A6):B6 (A++y::x::B)=B6 (A++[y])++x.1::B.map (·.1):=Hs A y<|x::B
def Jz(A:List A6)(y x:A6)(B:List A6):AG (A++y::x::B)=AG A++y.2.1::x.2.1::AG B:=GN A y<|x::B
def NW(c:Nd<|GX m (A++G::H::B) M (BL g<|A++y::x::B) j)(u:G.2.1=y.2.1)(v:H.2.1=x.2.1):Adj (pf<|GX m (A++G::H::B) M (BL g<|A++y::x::B) j) g y.2.1 x.2.1 x.1 (B6<|A++[y]) (B.map (·.1)) (AG A)<|AG B:=by
 have J:=Jy (g:=g) (p:=AU (B6<|A++y::x::B)<|AG<|A++y::x::B) c;have L:=G3 c;have a:=c;rw[Cm] at a;have K:=G3 a;rw[<-Cm] at K;have i:∀{n:Int}{q:List (Int×Str)},pf (GX m (A++G::H::B) M (BL g<|A++y::x::B) j) n=some (Ar q)->g≠n:=λ{n q} h e=>by rw[<-e] at h;have h:=J.symm.trans h;exact absurd (A3 Pag.lf<|Option.some.inj h) Cb
 refine⟨by rw[<-QL,<-Jz];exact J,?_,u▸i L,v▸i K,λe=>?_⟩;rw[Ht];exact A4 _;unfold Nd at a;rw[Jw] at a;refine(Il a).1 ?_;rw[AF,v,<-e,<-u];exact Aw _<|B9.mpr ⟨(G.2.1,Ar G.2.2),B9.mpr ⟨G,Aw _<|Dq _,rfl⟩,rfl⟩
def WN(a:Nd<|GX m (A++y::x::B) M C j):upd (pf<|GX m (A++y::x::B) M C j) x.2.1 (some<|Ar l)=pf (GX m (A++y::Ab x l::B) M C j)/\Nd (GX m (A++y::Ab x l::B) M C j):=by rw[Cm] at a ⊢;rw[Cm A y<|Ab x l];exact Jx a
def WO(a:Nd<|GX m (A++y::x::B) M C j):upd (pf<|GX m (A++y::x::B) M C j) x.2.1 .none=pf (GX m (A++y::B) M C j)/\Nd (GX m (A++y::B) M C j):=by rw[Cm] at a ⊢;rw[show A++y::B=(A++[y])++B from by rw[AD];rfl];exact i3 a
def LX(a:Nd<|GX m (A++y::x::B) M C j):pf (GX m (A++y::x::B) M C j) x.2.1=some (Ar x.2.2):=by rw[Cm] at a ⊢;exact G3 a
def NX{R' a:List A6}(h:Nd<|GX m R M (BL g a) j)(q:AV R=AV R'){c e:List Int}(n:c=B6 R')(i:e=AG R'):upd (pf<|GX m R M (BL g a) j) g (some<|AU c e)=pf (GL m R' M g j):=by refine(i4 (g:=g) (p:=AU (B6 a)<|AG a) h).trans ?_;rw[n,i];unfold GX GL;rw[q];rfl
def i6(a:Nd<|GX m R M C j)(c:∀u∈A,u∈R)(h:∀u∈A.getLast?,u.2.2.length<=2):Ek (pf<|GX m R M C j) o<|Fa o<|AG A:=by rcases List.eq_nil_or_concat A with rfl|⟨e,u,rfl⟩;exact .inl rfl;rw[List.concat_eq_append] at *;refine .inr ⟨u.2.1,Ar u.2.2,?_,HC a<|Aw _<|BC _<|B9.mpr ⟨u,c u<|Aw _<|Dq u,rfl⟩,?_⟩;unfold AG;rw[AF];exact Br List.getLast?_concat rfl;show(List.map AQ _).length<=2;rw[A4];exact h u List.getLast?_concat
def i7(a:Nd<|GX m R M C j)(c:∀u∈B,u∈R)(h:∀u∈B.head?,u.2.2.length<=2):Ek (pf<|GX m R M C j) o<|Gx o<|AG B:=by cases B with|nil=>exact .inl rfl|cons u B=>refine .inr ⟨u.2.1,Ar u.2.2,rfl,HC a<|Aw _<|BC _<|B9.mpr ⟨u,c u AT,rfl⟩,?_⟩;show(List.map AQ _).length<=2;rw[A4];exact h u rfl
def WQ(o:Int->BH)(A:List A6)(y:A6):Fa o (AG<|A++[y])=.loc (o y.2.1).1:=by unfold AG;rw[AF];exact Br List.getLast?_concat rfl
def WR(k:Int)(l:List<|Int×Str):(outP' k l).length<=l.length:=List.length_filter_le _ _
def Step8.cast{K i:Nat}{c n a:V}{f q:BV}(h:Step8 K s g k o i c n a E d r f)(e:f=q):Step8 K s g k o i c n a E d r q:=e▸h
def NY{n i h e:BV}{a b c:Int}{p q u:Option Pag}(K:upd n a p=i)(J:upd i b q=h)(v:upd h c u=e):upd (upd (upd n a p) b q) c u=e:=by rw[K,J,v]
def i8(h:RG E s d r o m (t++[y]) x B M g j k)(i:(outP' k x.2.2).length<2)(e:y.2.2=l++[z])(N:2<y.2.2.length):RemR 50 E s d r o (pf<|GL m ((t++[y])++x::B) M g j) g k<|pf<|GL m (t++Ab y l::(z.1,x.2.1,z::outP' k x.2.2)::B) M g j:=by refine NV h i λJ c u=>?_;have a:=h.leaf.2;rw[<-Cm,<-Cm] at u a;have q:=Jx (l:=l) a;have n:=WN (l:=z::outP' k x.2.2) q.2;have L:=fS (K:=20) (k:=k) (v:=Gx c<|AG B) (ll:=l) (x:=z) u (NW a rfl rfl) (e▸G3 a) (LX a) (e▸N)<|AM i<|nL rfl;rw[WQ,show(t++[y]).length=(B6<|t++[y]).length+1 from by rw[Ht,A9];rfl];exact L.cast<|NY q.1 n.1<|NX (R':=t++Ab y l::(z.1,x.2.1,z::outP' k x.2.2)::B) n.2 (by rw[Im,Im];rfl) (by rw[QL t<|Ab y l,LU t y l []])<|by rw[Jz];rfl
def i9(h:RG E s d r o m A x (y::B) M g j k)(n:(outP' k x.2.2).length<2)(i:y.2.2=z::w::l)(Q:2<y.2.2.length)(O:∀u∈A.getLast?,u.2.2.length<=2):RemR 50 E s d r o (pf<|GL m (A++x::y::B) M g j) g k<|pf<|GL m (A++Ab x (outP' k x.2.2++[z])::(w.1,y.2.1,w::l)::B) M g j:=by refine NV h n λL c S=>?_;have a:=h.leaf.2;have J:=WN (l:=w::l) a;have q:=Jx (l:=outP' k x.2.2++[z]) J.2;have e:=fU (K:=20) (k:=k) (v:=Fa c<|AG A) (lm:=outP' k x.2.2) (x:=z) (y:=w) (lr:=l) S (NW a rfl rfl) (G3 a) (i▸LX a) (i▸Q) (AM n<|nL rfl)<|i6 a (λu N=>BC _ N) O;rw[Ht] at e;exact e.cast<|NY J.1 q.1<|NX (R':=A++Ab x (outP' k x.2.2++[z])::(w.1,y.2.1,w::l)::B) q.2 (by rw[Im,Im];rfl) (by rw[QL A<|Ab x _,LU A x _ []])<|by rw[Jz];rfl
def iA(h:RG E s d r o m (t++[y]) x B M g j k)(q:(outP' k x.2.2).length<2)(n:y.2.2.length<=2)(S:∀u∈B.head?,u.2.2.length<=2):RemR 50 E s d r o (pf<|GL m ((t++[y])++x::B) M g j) g k<|pf<|GL m (t++Ab y (y.2.2++outP' k x.2.2)::B) M g j:=by refine NV h q λN a i=>?_;have c:=h.leaf.2;rw[<-Cm,<-Cm] at i c;have L:=Jx (l:=y.2.2++outP' k x.2.2) c;have J:=WO L.2;have O:Ek (pf<|GX m (t++y::Ab x (outP' k x.2.2)::B) M (BL g<|t++y::x::B) j) a<|.loc (a y.2.1).1:=.inr ⟨_,_,rfl,G3 c,by show(List.map AQ _).length<=2;rw[A4];exact n⟩;have e:=VI (K:=20) (k:=k) (v:=Gx a<|AG B) i (NW c rfl rfl) (G3 c) (LX c)<|Be (Nat.add_lt_add_of_le_of_lt n q)<|nL rfl;have e:=VK i O (i7 c (λu Q=>Aw _<|Ah _<|Ah _ Q) S) e;rw[WQ,show(t++[y]).length=(B6<|t++[y]).length+1 from by rw[Ht,A9];rfl];exact e.cast<|NY L.1 J.1<|NX (R':=t++Ab y (y.2.2++outP' k x.2.2)::B) J.2 rfl (by rw[LU];exact(Hs t y B).symm)<|by rw[GN];rfl
def iB(h:RG E s d r o m [] x (y::B) M g j k)(n:(outP' k x.2.2).length<2)(i:y.2.2.length<=2):RemR 50 E s d r o (pf<|GL m (x::y::B) M g j) g k<|pf<|GL m (Ab x (outP' k x.2.2++y.2.2)::B) M g j:=by refine NV h n λL a J=>?_;have c:=h.leaf.2;have u:=Jx (A:=[]) (l:=outP' k x.2.2++y.2.2) c;have q:=WO (A:=[]) u.2;have N:Ek (pf<|GX m ([]++Ab x (outP' k x.2.2)::y::B) M (BL g<|[]++x::y::B) j) a<|.loc (a y.2.1).1:=.inr ⟨_,_,rfl,LX c,by show(List.map AQ _).length<=2;rw[A4];exact i⟩;have e:=VI (K:=20) (k:=k) (v:=.loc (a y.2.1).1) J (NW (A:=[]) c rfl rfl) (G3 (A:=[]) c) (LX c)<|Be (Nat.add_lt_add_of_lt_of_le n i)<|nL rfl;have e:=VL J N e;exact e.cast<|NY u.1 q.1<|NX (R':=Ab x (outP' k x.2.2++y.2.2)::B) q.2 rfl rfl rfl
end
abbrev Gr:=Int×List A6
noncomputable def A8(a:List Gr):List A6:=a.flatMap (·.2)
noncomputable def Cg(a:List Gr):List<|Int×Pag:=a.map λG=>BL G.1 G.2
noncomputable def hs(G:Gr):Int:=Ba G.2
noncomputable def Ai(a:List Gr):List Int:=a.map (·.1)
noncomputable def Ff(a:List Gr)(t:Int):Int×Pag:=(t,AU (a.map hs).tail<|Ai a)
inductive Tr where
 |one (x:A6)|top (t:Option Int) (Gs:List Gr)
noncomputable def Tr.rows:Tr->List A6|.one x=>[x]|.top _ a=>A8 a
noncomputable def Tr.pgs:Tr->List (Int×Pag)|.one x=>AV [x]|.top t a=>AV (A8 a)++(Cg a++t.toList.map (Ff a))
noncomputable def Tr.root:Tr->Int|.one x=>x.2.1|.top t a=>t.getD<|(Ai a).headD 0
noncomputable def Tr.pd(T:Tr):D:=tD (pf T.pgs) T.root
structure Ctx where
 t:Option Int
 P:List Gr
 g:Int
 S:List Gr
noncomputable def Ctx.tree(C:Ctx)(R:List A6):Tr:=.top C.t<|C.P++(C.g,R)::C.S
noncomputable def Ctx.M(C:Ctx):List<|Int×Pag:=AV (A8 C.S)++Cg C.P
noncomputable def Ctx.rk(C:Ctx)(a:Int):List Int:=(C.P.map hs++[a]).tail
noncomputable def Ctx.Q(C:Ctx)(a:Int):List<|Int×Pag:=Cg C.S++C.t.toList.map λt=>(t,AU (C.rk a++C.S.map hs)<|Ai C.P++C.g::Ai C.S)
def Ctx.Ok(C:Ctx):Prop:=C.t=.none->C.P=[]/\C.S=[]
structure Ctx.At(C:Ctx)(k sp:Int):Prop where
 low:∀a∈C.rk sp,a<=k
 high:∀b∈C.S.map hs,k<b
 len:C.P.length+C.S.length<40
section
variable{C:Ctx}{R n A B i c:List A6}{x:A6}{k a:Int}{v:Str}{P S:List Gr}{g:Int}{f:BV}{t:Int}{j m:Nat}
def HD(t:Option Int)(d:List Gr):(Tr.top t d).pgs=AV (A8 d)++(Cg d++t.toList.map (Ff d)):=rfl
def NZ(t:Option Int)(d:List Gr):(Tr.top t d).root=t.getD ((Ai d).headD 0):=rfl
def D8(P:List Gr)(g:Int)(R:List A6)(S:List Gr):A8 (P++(g,R)::S)=A8 P++(R++A8 S):=List.flatMap_append
def Hu(A B:List A6):AV (A++B)=AV A++AV B:=AF
def Na(P:List Gr)(g:Int)(R:List A6)(S:List Gr):Cg (P++(g,R)::S)=Cg P++BL g R::Cg S:=AF
def HF(P:List Gr)(g:Int)(R:List A6)(S:List Gr):Ai (P++(g,R)::S)=Ai P++g::Ai S:=AF
def iC(P:List Gr)(g:Int)(R:List A6)(S:List Gr):((P++(g,R)::S).map hs).tail=(P.map hs++[Ba R]).tail++S.map hs:=by rw[AF];cases P with|nil=>rfl|cons p P=>show(P.map hs)++hs (g,R)::S.map hs=(P.map hs++[Ba R])++S.map hs;rw[AD];rfl
def Nb(P:List Gr)(g:Int)(R:List A6)(S:List Gr)(t:Int):Ff (P++(g,R)::S) t=(t,AU ((P.map hs++[Ba R]).tail++S.map hs)<|Ai P++g::Ai S):=by unfold Ff;rw[iC,HF]
theorem Ctx.rows(C:Ctx)(R:List A6):(C.tree R).rows=A8 C.P++(R++A8 C.S):=D8 ..
theorem Ctx.pgs(C:Ctx)(h:Ba R=a):(C.tree R).pgs=GL (AV<|A8 C.P) R C.M C.g (C.Q a):=by subst h;unfold Ctx.tree GL Ctx.M Ctx.Q Ctx.rk;rw[HD,D8,Na,Hu,Hu,AD,AD,AD,AD,List.cons_append];exact A3 (λf=>AV (A8 C.P)++(AV R++(AV (A8 C.S)++(Cg C.P++BL C.g R::(Cg C.S++C.t.toList.map f)))))<|funext λt=>Nb ..
def K0(C:Ctx)(a:Int):(C.rk a).length=C.P.length:=by unfold Ctx.rk;rw[List.length_tail,A9,A4];rfl
def Ctx.inn(h:C.At k a)(d:f t=some (AU (C.rk a++C.S.map hs)<|Ai C.P++C.g::Ai C.S)):Inn f t k (C.rk a) (C.S.map hs) (Ai C.P) (Ai C.S) C.g:=⟨d,(A4 _).trans (K0 C a).symm,h.low,λb e=>h.high b<|List.mem_of_head? e,by rw[K0,A4];exact AM h.len<|nL rfl,by unfold Ai;rw[A4,A4];exact AM h.len<|nL rfl⟩
def Ctx.root_t(d:C.t=some t):(C.tree R).root=t:=by unfold Ctx.tree;rw[d];rfl
def Ctx.root_g(o:C.Ok)(d:C.t=.none):(C.tree R).root=C.g:=by unfold Ctx.tree;rw[d,(o d).1];rfl
def Ctx.at_t(e:C.t=some t)(d:Nd<|GL (AV<|A8 C.P) R C.M C.g<|C.Q a):pf (GL (AV<|A8 C.P) R C.M C.g<|C.Q a) t=some (AU (C.rk a++C.S.map hs)<|Ai C.P++C.g::Ai C.S):=HC d<|Aw _<|Aw _<|Aw _<|Ah _<|Aw _<|by rw[e];exact AT
def Ctx.put(o:C.Ok)(r:Nd (C.tree R).pgs)(G:∀q∈(C.tree R).pgs,q.1∈B7)(z:Ba R=a)(y:Ba n=a)(w:C.At k a)(h:∀{l s d p},HT l s d (C.tree R).root p (pf<|GL (AV<|A8 C.P) R C.M C.g<|C.Q a)->PutR 50 l s d (C.tree R).root p (pf<|GL (AV<|A8 C.P) R C.M C.g<|C.Q a) C.g k v .none (pf<|GL (AV<|A8 C.P) n C.M C.g<|C.Q a)):Gn (C.tree R).pd k v (C.tree n).pd:=by have e:=C.pgs z;have E:=C.pgs y;unfold Tr.pd;rw[show(C.tree n).root=(C.tree R).root from by unfold Ctx.tree;rw[NZ,NZ,HF,HF]];refine LC (Em G) λl s d p H=>Q7 ?_ H;rw[e] at H r;rw[e,E];have q:=h H;cases ht:C.t with|none=>rw[C.root_g o ht] at q H ⊢;exact q.u rfl|some t=>rw[C.root_t ht] at q H ⊢;exact V3 (K:=30) q H<|C.inn w<|C.at_t ht r
def Ctx.pgs2(C:Ctx)(h:Ba i=a):(Tr.top C.t<|C.P++(C.g,i)::(g,c)::C.S).pgs=(AV (A8 C.P)++(AV (i++c)++(C.M++BL C.g i::BL g c::Cg C.S)))++C.t.toList.map λt=>(t,AU (C.rk a++Ba c::C.S.map hs)<|Ai C.P++C.g::g::Ai C.S):=by subst h;unfold Ctx.M Ctx.rk;rw[HD,D8,show A8 ((g,c)::C.S)=c++A8 C.S from rfl,Na,Hu,Hu,Hu,Hu];rw[show(λt=>(t,AU ((C.P.map hs++[Ba i]).tail++Ba c::C.S.map hs)<|Ai C.P++C.g::g::Ai C.S))=Ff (C.P++(C.g,i)::(g,c)::C.S) from funext λt=>(Nb C.P C.g i ((g,c)::C.S) t).symm];simp only [AD,List.cons_append];rfl
def Ctx.split(o:C.Ok)(p:C.t=some t)(J:∀q∈(C.tree R).pgs,q.1∈B7)(I:Ba R=a)(G:Ba i=a)(z:C.At k a)(E:C.P.length+C.S.length+1<=4)(y:Nd<|GL (AV<|A8 C.P) R C.M C.g<|C.Q a)(l:Nd<|AV (A8 C.P)++(AV (i++c)++(C.M++BL C.g i::BL j c::C.Q a))) (h:∀{r s d u},HT r s d t u (pf<|GL (AV<|A8 C.P) R C.M C.g<|C.Q a)->PutR 50 r s d t u (pf<|GL (AV<|A8 C.P) R C.M C.g<|C.Q a) C.g k v (.tup [.key<|Ba c,.int j]) (pf<|AV (A8 C.P)++(AV (i++c)++(C.M++BL C.g i::BL j c::C.Q a)))):Gn (C.tree R).pd k v (Tr.top C.t<|C.P++(C.g,i)::((j:Int),c)::C.S).pd:=by
 have e:=C.pgs I;have w:AV (A8 C.P)++(AV (i++c)++(C.M++BL C.g i::BL j c::C.Q a))=(AV (A8 C.P)++(AV (i++c)++(C.M++BL C.g i::BL j c::Cg C.S)))++(t,AU (C.rk a++C.S.map hs)<|Ai C.P++C.g::Ai C.S)::[]:=by unfold Ctx.Q;rw[p];simp only [AD,List.cons_append];rfl
 unfold Nd at l;rw[w] at l;unfold Tr.pd;rw[C.root_t p,show(Tr.top C.t<|C.P++(C.g,i)::((j:Int),c)::C.S).root=t from by rw[p];rfl,C.pgs2 G,p];refine LC (Em J) λr s d u H=>Q7 ?_ H;rw[e] at H ⊢;have q:=V5 (K:=30) (h H) H (C.inn z<|C.at_t p y) (by rw[w];exact Fe l) (by rw[A9,K0,CK,A4];exact E);rw[w,G0 l] at q;exact q
def Ctx.grow(o:C.Ok)(r:C.t=.none)(y:∀q∈(C.tree R).pgs,q.1∈B7)(w:Ba R=a)(L:Least (pf<|AV (i++c)++[BL C.g i,BL j c]) m) (h:∀{l s d p},HT l s d C.g p (pf<|GL (AV<|A8 C.P) R C.M C.g<|C.Q a)->PutR 50 l s d C.g p (pf<|GL (AV<|A8 C.P) R C.M C.g<|C.Q a) C.g k v (.tup [.key<|Ba c,.int j]) (pf<|AV (A8 C.P)++(AV (i++c)++(C.M++BL C.g i::BL j c::C.Q a)))):Gn (C.tree R).pd k v (Tr.top (some (m:Int)) [(C.g,i),((j:Int),c)]).pd:=by have e:=C.pgs w;obtain⟨t,P,g,S⟩:=C;subst r;obtain⟨rfl,rfl⟩:=o rfl;unfold Tr.pd;rw[show(Tr.top (some (m:Int)) [(g,i),((j:Int),c)]).pgs=(AV (i++c)++[BL g i,BL j c])++((m:Int),AU [Ba c] [g,(j:Int)])::[] from by rw[HD,show A8 [(g,i),((j:Int),c)]=i++(c++[]) from rfl,BJ,AD];rfl];refine LC (Em y) λl s d p H=>?_;rw[<-HB<|DY.mp L.no,BJ];refine VR ?_ H L;rw[e] at H ⊢;exact(h H).u rfl
end
structure CtxOk(C:Ctx)(R:List A6)(k sp:Int):Prop where
 nd:Nd (C.tree R).pgs
 dm:∀q∈(C.tree R).pgs,q.1∈B7
 ok:C.Ok
 hsp:Ba R=sp
 at_:C.At k sp
structure CtxAt(C:Ctx)(R:List A6)(k sp:Int)(A:List A6)(x:A6)(B:List A6):Prop extends CtxOk C R k sp where
 loc:Loc R k A x B
 len:R.length<50
 nx:(x.2.2.map (·.1)).Nodup
section
variable{C:Ctx}{R c A B:List A6}{x:A6}{k a:Int}{v:Str}{t:Int}
def CtxOk.pg(h:CtxOk C R k a):pf (C.tree R).pgs C.g=some (AU (B6 R)<|AG R):=by have d:=h.nd;rw[C.pgs h.hsp] at d ⊢;exact NU d
def CtxOk.top(h:CtxOk C R k a)(e:C.t=some t):Inn (pf (C.tree R).pgs) t k (C.rk a) (C.S.map hs) (Ai C.P) (Ai C.S) C.g:=by have d:=h.nd;rw[C.pgs h.hsp] at d ⊢;exact C.inn h.at_<|C.at_t e d
def CtxAt.path(h:CtxAt C R k a A x B):∃j,j<900/\Path (pf (C.tree R).pgs) k j (C.tree R).root x.2.2:=by have e:pf (C.tree R).pgs x.2.1=some (Ar x.2.2):=HC h.nd (BC _<|B9.mpr ⟨x,by rw[D8];exact Aw _<|BC _<|h.loc.eq▸Aw _ AT,rfl⟩);have d:=Path.inner (LW h.loc h.pg h.len)<|Path.leaf e;cases ht:C.t with|none=>exact⟨1,by decide,by rw[C.root_g h.ok ht];exact d⟩|some t=>exact⟨2,by decide,by rw[C.root_t ht];exact .inner (h.top ht) d⟩
theorem CtxAt.none(h:CtxAt C R k a A x B)(d:AX k x.2.2=.none):EQ (C.tree R).pd k (C.tree R).pd:=by obtain⟨j,e,P⟩:=h.path;exact VU (Em h.dm) P e h.nx d
def WS{n:Nat}(h:R.length<=n+1):((B6 R).map D.key).length<=n:=by rw[A4];unfold B6;rw[A4,List.length_tail];exact Nat.sub_le_of_le_add h
def WT{n:Nat}(h:n+1<=R.length):n<=((B6 R).map D.key).length:=by rw[A4];unfold B6;rw[A4,List.length_tail];exact Nat.le_sub_one_of_lt h
def QM{l:List Int}{n:Nat}(h:n+1<=(l.map D.key).length):l.map D.key≠[]:=λe=>by rw[e] at h;exact absurd h<|Nat.not_succ_le_zero _
def CtxAt.rem(h:CtxAt C R k a A x B)(q:AX k x.2.2=some v)(m:CtxOk C c k a)(p:2<=c.length)(l:C.t.isSome=true->3<=c.length)(y:C.t.isSome=true->C.P++C.S≠[]) (r:∀{f s d i},HT f s d (C.tree R).root i (pf (C.tree R).pgs)->RemR 50 f s d (C.tree R).root i (pf (C.tree R).pgs) C.g k (pf (C.tree c).pgs)):EQ (C.tree R).pd k (C.tree c).pd:=by obtain⟨j,w,P⟩:=h.path;unfold Tr.pd;rw[show(C.tree c).root=(C.tree R).root from by unfold Ctx.tree;rw[NZ,NZ,HF,HF]];refine NG (Em h.dm) P w h.nx q λf s d i H=>?_;have e:=r H;cases ht:C.t with|none=>rw[C.root_g h.ok ht] at e H ⊢;exact Jp (e.u rfl) H m.pg (.inr<|QM<|WT p)|some t=>rw[C.root_t ht] at e H ⊢;have T:=h.top ht;have o:=m.top ht;refine Jp (VC (K:=30) e H T (o.pg.trans T.pg.symm) m.pg<|WT<|l<|by rw[ht];rfl) H o.pg<|.inr<|QM (n:=0) ?_;rw[A4,A9,K0,A4,<-A9];exact List.length_pos_iff.mpr<|y<|by rw[ht];rfl
theorem CtxAt.one{y:A6}{g:Int}(h:CtxAt ⟨.none,[],g,[]⟩ R k a A x B)(m:AX k x.2.2=some v)(l:CtxOk ⟨.none,[],g,[]⟩ [y] k a)(o:∀{f s d i},HT f s d g i (pf (Ctx.tree ⟨.none,[],g,[]⟩ R).pgs)->RemR 50 f s d g i (pf (Ctx.tree ⟨.none,[],g,[]⟩ R).pgs) g k (pf (Ctx.tree ⟨.none,[],g,[]⟩ [y]).pgs)):EQ (Ctx.tree ⟨.none,[],g,[]⟩ R).pd k (Tr.one y).pd:=by obtain⟨j,q,P⟩:=h.path;have e:=NR (P:=AV [y]) (Q:=[]) (n:=g) (p:=AU [] [y.2.1]) l.nd;unfold Tr.pd;rw[show(Tr.one y).pgs=AV [y]++[] from rfl,<-e];exact NG (Em h.dm) P q h.nx m λf s d i H=>VS ((o H).u rfl) H l.pg
end
section
variable{R j R1 c A B:List A6}{x i:A6}{k f t g h:Int}{v:Str}{P S:List Gr}{Z Y:List (Int×Pag)}{p q u p' q' u':Pag}{pl:Int->BH}
noncomputable def Z5(Z:List<|Int×Pag)(h:Int)(p:Pag)(g:Int)(q:Pag)(Y:List<|Int×Pag)(t:Int)(u:Pag):List<|Int×Pag:=Z++(h,p)::(g,q)::(Y++[(t,u)])
def WU(n:Nd<|Z5 Z h p g q Y t u):upd (pf<|Z5 Z h p g q Y t u) h (some p')=pf (Z5 Z h p' g q Y t u):=G0 n
def WV:(Z5 Z h p g q Y t u).map (·.1)=Z.map (·.1)++h::g::(Y.map (·.1)++[t]):=by unfold Z5;rw[AF];show _++h::g::(Y++[(t,u)]).map (·.1)=_;rw[AF];rfl
def Nc(n:Nd<|Z5 Z h p g q Y t u):Nd<|Z5 Z h p' g q' Y t u':=by unfold Nd at n ⊢;rw[WV] at n ⊢;exact n
def Nf:Z5 Z h p g q Y t u=(Z++[(h,p)])++(g,q)::(Y++[(t,u)]):=by unfold Z5;rw[AD];rfl
def QN:Z5 Z h p g q Y t u=(Z++(h,p)::(g,q)::Y)++(t,u)::[]:=by unfold Z5;rw[AD];rfl
def iD(n:Nd<|Z5 Z h p g q Y t u):upd (pf<|Z5 Z h p g q Y t u) g (some q')=pf (Z5 Z h p g q' Y t u):=by unfold Nd at n;rw[Nf] at n ⊢;rw[G0 n,Nf]
def iE(n:Nd<|Z5 Z h p g q Y t u):upd (pf<|Z5 Z h p g q Y t u) t (some u')=pf (Z5 Z h p g q Y t u'):=by unfold Nd at n;rw[QN] at n ⊢;rw[G0 n,QN]
def iF(n:Nd<|Z5 Z h p g q Y t u):upd (upd (pf<|Z5 Z h p g q Y t u) g .none) t (some u')=pf (Z++(h,p)::(Y++[(t,u')]))/\Nd (Z++(h,p)::(Y++[(t,u')])):=by
 unfold Nd at n ⊢;rw[Nf] at n ⊢;have a:(((Z++[(h,p)])++(Y++[(t,u)])).map (·.1)).Nodup:=((List.Sublist.append_left (List.sublist_cons_self _ _) _).map _).nodup n;rw[NR n];have e:∀u:Pag,(Z++[(h,p)])++(Y++[(t,u)])=(Z++(h,p)::Y)++(t,u)::[]:=λu=>by rw[AD,AD];rfl
 have d:Z++(h,p)::(Y++[(t,u')])=(Z++(h,p)::Y)++(t,u')::[]:=by rw[AD];rfl
 rw[e u] at a ⊢;rw[G0 a,d];exact⟨rfl,by rw[QJ _ t u' u []];exact a⟩
noncomputable def two(t:Int)(P:List Gr)(h:Int)(R1:List A6)(g:Int)(c:List A6)(S:List Gr):Tr:=.top (some t)<|P++(h,R1)::(g,c)::S
noncomputable def EI(P:List Gr)(R1:List A6):List Int:=(P.map hs++[Ba R1]).tail
def Io:(two t P h R1 g c S).pgs=Z5 (AV (A8 P++(R1++(c++A8 S)))++Cg P) h (AU (B6 R1)<|AG R1) g (AU (B6 c)<|AG c) (Cg S) t (AU (EI P R1++Ba c::S.map hs)<|Ai P++h::g::Ai S):=by unfold two Z5 EI;rw[HD,D8,Na,show(some t).toList.map (Ff<|P++(h,R1)::(g,c)::S)=[Ff (P++(h,R1)::(g,c)::S) t] from rfl,Nb,AD,AD];rfl
def LY(a:Nd (two t P h R1 g c S).pgs):pf (two t P h R1 g c S).pgs h=some (AU (B6 R1)<|AG R1):=by unfold Nd at a;rw[Io] at a ⊢;exact Fe a
def LZ(a:Nd (two t P h R1 g c S).pgs):pf (two t P h R1 g c S).pgs g=some (AU (B6 c)<|AG c):=by unfold Nd at a;rw[Io] at a ⊢;rw[Nf] at a ⊢;exact Fe a
def QO(a:Nd (two t P h R1 g c S).pgs):pf (two t P h R1 g c S).pgs t=some (AU (EI P R1++Ba c::S.map hs)<|Ai P++h::g::Ai S):=by unfold Nd at a;rw[Io] at a ⊢;rw[QN] at a ⊢;exact Fe a
def QP:(EI P R1).length=P.length:=by unfold EI;rw[List.length_tail,A9,A4];rfl
def La(a:Nd (two t P h R1 g c S).pgs):Adj (pf (two t P h R1 g c S).pgs) t h g (Ba c) (EI P R1) (S.map hs) (Ai P)<|Ai S:=by have n:=a;unfold Nd at n;rw[Io,WV] at n;have n:=(List.nodup_append.mp n).2.1;have d:=(Bi.mp n).1;have l:=(Bi.mp (Bi.mp n).2).1;have m:t∈(Cg S).map (·.1)++[t]:=Aw _ AT;exact⟨QO a,(A4 _).trans QP.symm,λe=>d<|Ah _<|e▸m,λe=>l<|e▸m,λe=>d<|e▸AT⟩
def WW{R3 R4:List A6}(a:Nd (two t P h R1 g c S).pgs)(e:R1++c=R3++R4)(m:Ba R1=Ba R3):upd (upd (upd (pf (two t P h R1 g c S).pgs) h<|some<|AU (B6 R3)<|AG R3) g<|some<|AU (B6 R4)<|AG R4) t (some<|AU (EI P R1++Ba R4::S.map hs)<|Ai P++h::g::Ai S)=pf (two t P h R3 g R4 S).pgs/\Nd (two t P h R3 g R4 S).pgs:=by
 unfold Nd at a ⊢;rw[Io] at a ⊢;have d:A8 P++(R1++(c++A8 S))=A8 P++(R3++(R4++A8 S)):=by rw[<-AD R1,e,AD]
 have l:EI P R1=EI P R3:=by unfold EI;rw[m]
 rw[Io,WU a,iD<|Nc a,iE<|Nc a,d,l];rw[d] at a;exact⟨rfl,Nc a⟩
def WX(d:Nd (two t P h R1 g c S).pgs)(m:R1≠[])(l:c≠[]):upd (upd (upd (pf (two t P h R1 g c S).pgs) h<|some<|AU (B6 R1++Ba c::B6 c)<|AG R1++AG c) g .none) t (some<|AU (EI P R1++S.map hs)<|Ai P++h::Ai S)=pf (Tr.top (some t)<|P++(h,R1++c)::S).pgs/\Nd (Tr.top (some t)<|P++(h,R1++c)::S).pgs:=by
 unfold Nd at d;rw[Io] at d ⊢;rw[WU d];have q:=iF (u':=AU (EI P R1++S.map hs)<|Ai P++h::Ai S)<|Nc (p':=AU (B6 R1++Ba c::B6 c)<|AG R1++AG c) (q':=AU (B6 c)<|AG c) (u':=AU (EI P R1++Ba c::S.map hs)<|Ai P++h::g::Ai S) d;have e:(Tr.top (some t)<|P++(h,R1++c)::S).pgs=(AV (A8 P++(R1++(c++A8 S)))++Cg P)++(h,AU (B6 R1++Ba c::B6 c)<|AG R1++AG c)::(Cg S++[(t,AU (EI P R1++S.map hs)<|Ai P++h::Ai S)]):=by cases R1 with|nil=>exact absurd rfl m|cons a R1=>cases c with|nil=>exact absurd rfl l|cons b c=>rw[HD,D8,Na,show(some t).toList.map (Ff<|P++(h,a::R1++b::c)::S)=[Ff (P++(h,a::R1++b::c)::S) t] from rfl,Nb,AD<|a::R1,AD,AD];unfold EI BL;rw[show B6 (a::R1++b::c)=B6 (a::R1)++Ba (b::c)::B6 (b::c) from AF,show AG (a::R1++b::c)=AG (a::R1)++AG (b::c) from AF];rfl
 rw[e];exact q
end
section
variable{R i w I L z A B:List A6}{x y l:A6}{k E t g h:Int}{v:Str}{P S:List Gr}{p:Int->BH}{f:BV}{u:List Cell}{s d:Nat}
def K1:Ctx.tree ⟨some t,P++[(h,w)],g,S⟩ R=two t P h w g R S:=by unfold Ctx.tree two;rw[AD];rfl
def WY:(Ctx.rk ⟨some t,P++[(h,w)],g,S⟩ E).length=(EI P w).length+1:=by rw[K0,QP,A9];rfl
def QQ:Fa p (Ai<|P++[(h,w)])=.loc (p h).1:=by unfold Ai;rw[AF];exact Br List.getLast?_concat rfl
def QR{r:A6}(c:L≠[]):B6 (L++[r])=B6 L++[r.1]:=by cases L with|nil=>exact absurd rfl c|cons a L=>exact AF
def iG{r:A6}(c:R≠[]):B6 (r::R)=Ba R::B6 R:=by cases R with|nil=>exact absurd rfl c|cons a R=>rfl
def WZ(c:L≠[]):Ba (L++R)=Ba L:=by cases L with|nil=>exact absurd rfl c|cons a L=>rfl
def K2(h:R.length<=5):(B6 R).length<50/\(AG R).length<50:=by unfold B6 AG;rw[A4,A4,List.length_tail];exact⟨AO (AB (Nat.sub_le _ _) h)<|nL rfl,AO h<|nL rfl⟩
def Wb{n:Nat}(h:n+1<R.length):n<(B6 R).length:=by unfold B6;rw[A4,List.length_tail];exact Nat.lt_sub_of_add_lt h
def iH{o:Type}{f:Int->o}{m n:Int}{a b:o}(h:m≠n):upd (upd f m a) n b=upd (upd f n b) m a:=funext λj=>by by_cases e:j=n;rw[e,Aj,Ay h.symm,Aj];by_cases c:j=m;rw[Ay e,c,Aj,Aj];rw[Ay e,Ay c,Ay c,Ay e]
def Ng{n:Int}(a:f n=some (AU (B6 R)<|AG R))(h:R.length<=3):Ek f p<|.loc (p n).1:=.inr ⟨n,_,rfl,a,WS h⟩
def Nh{t:Option Int}{a:List Gr}{G:Gr}(c:Nd (Tr.top t a).pgs)(h:G∈a):pf (Tr.top t a).pgs G.1=some (AU (B6 G.2)<|AG G.2):=HC c<|Aw _<|BC _<|B9.mpr ⟨G,h,rfl⟩
def iI{t:Option Int}{a:List Gr}(c:Nd (Tr.top t a).pgs)(e:∀G∈P,G∈a)(h:∀G∈P.getLast?,G.2.length<=3):Ek (pf (Tr.top t a).pgs) p<|Fa p<|Ai P:=by rcases Hm P with rfl|⟨P,G,rfl⟩;exact .inl rfl;rw[show Fa p (Ai<|P++[G])=.loc (p G.1).1 from QQ];exact Ng (Nh c<|e G<|Aw _<|Dq G)<|h G List.getLast?_concat
def iJ{t:Option Int}{a:List Gr}(c:Nd (Tr.top t a).pgs)(e:∀G∈S,G∈a)(h:∀G∈S.head?,G.2.length<=3):Ek (pf (Tr.top t a).pgs) p<|Gx p<|Ai S:=by cases S with|nil=>exact .inl rfl|cons G S=>exact Ng (Nh c<|e G AT)<|h G rfl
def iL{t:Option Int}{c:List Gr}(e:Nd (Tr.top t c).pgs)(m:∀G∈P,G∈c):∀a∈(Ai P).getLast?,(pf (Tr.top t c).pgs a).isSome=true:=λa j=>by obtain⟨G,n,rfl⟩:=B9.mp<|List.mem_of_getLast? j;rw[Nh e<|m G n];rfl
def iM{t:Option Int}{c:List Gr}(e:Nd (Tr.top t c).pgs)(m:∀G∈P,G∈c):∀a∈(Ai P).head?,(pf (Tr.top t c).pgs a).isSome=true:=λa j=>by obtain⟨G,n,rfl⟩:=B9.mp<|List.mem_of_head? j;rw[Nh e<|m G n];rfl
def CtxAt.step{C:Ctx}(o:CtxAt C R k E A x B)(m:C.t=some t)(J:AX k x.2.2=some v)(e:CtxOk C i k E)(X:i.length<=2){T:Tr}{f':BV}(M:∀{u s d p},HT u s d t p (pf (C.tree R).pgs)->RemR 50 u s d t p (pf (C.tree R).pgs) C.g k (pf (C.tree i).pgs)) (N:∀c s d a,HT c s d t a (pf (C.tree i).pgs)->Step8 30 s t k a (C.rk E).length (.loc (a C.g).1) (Fa a<|Ai C.P) (Gx a<|Ai C.S) c d t f') (Q:∀{u s d p},HT u s d t p (pf (C.tree R).pgs)->RemR 60 u s d t p (pf (C.tree R).pgs) t k f'->TQ u s d k T.root (pf T.pgs)):EQ (C.tree R).pd k T.pd:=by obtain⟨j,O,Z⟩:=o.path;have r:=o.top m;have Y:=e.top m;have q:=e.nd;unfold Tr.pd;refine NG (Em o.dm) Z O o.nx J λu s d p H=>?_;rw[C.root_t m] at H;exact Q H<|VF (K:=30) (M H) H r (Y.pg.trans r.pg.symm) e.pg (D0<|WS X) (iL q λG n=>BC _ n) (iM q λG n=>Aw _<|Ah _ n) λc a H1=>N c s d a H1
def iN(o:CtxAt ⟨some t,P++[(h,L++[l])],g,S⟩ R k E A x B)(J:AX k x.2.2=some v)(m:CtxOk ⟨some t,P++[(h,L++[l])],g,S⟩ i k E)(n:i.length<=2)(N:i≠[])(j:L≠[])(O:3<(L++[l]).length) (M:∀{u s d p},HT u s d t p (pf (Ctx.tree ⟨some t,P++[(h,L++[l])],g,S⟩ R).pgs)->RemR 50 u s d t p (pf (Ctx.tree ⟨some t,P++[(h,L++[l])],g,S⟩ R).pgs) g k (pf (Ctx.tree ⟨some t,P++[(h,L++[l])],g,S⟩ i).pgs)):EQ (Ctx.tree ⟨some t,P++[(h,L++[l])],g,S⟩ R).pd k (two t P h L g (l::i) S).pd:=by have a:Nd (two t P h (L++[l]) g i S).pgs:=K1▸m.nd;have e:=WW (R3:=L) (R4:=l::i) a (by rw[AD];rfl)<|WZ j;have lr:=K2<|AB n<|nL rfl;refine o.step rfl J m n M (f':=pf (two t P h L g (l::i) S).pgs) (λG s d c C=>?_) λH q=>Jp q H (QO e.2) (.inr λe=>by rw[AU,AF] at e;exact DW<|(List.append_eq_nil_iff.mp e).2);rw[K1] at C;rw[WY,QQ];refine(fT (K:=30) (k:=k) (v:=Gx c<|Ai S) (kl:=B6 L) (kx:=l.1) (cl:=AG L) (cx:=l.2.1) C (La a) ((LY a).trans ?_) (LZ a) ?_ (AM lr.1<|nL rfl)<|AM lr.2<|nL rfl).cast ?_;rw[QR j,show AG (L++[l])=AG L++[l.2.1] from AF];rw[<-QR j];exact Wb O;rw[iH (La a).LM.symm,<-iG (r:=l) N];exact e.1
def iO(o:CtxAt ⟨some t,P,h,(g,y::l::z)::S⟩ R k E A x B)(C:AX k x.2.2=some v)(j:CtxOk ⟨some t,P,h,(g,y::l::z)::S⟩ i k E)(n:i.length<=2)(m:i≠[])(O:3<(y::l::z).length)(M:∀G∈P.getLast?,G.2.length<=3) (J:∀{u s d p},HT u s d t p (pf (Ctx.tree ⟨some t,P,h,(g,y::l::z)::S⟩ R).pgs)->RemR 50 u s d t p (pf (Ctx.tree ⟨some t,P,h,(g,y::l::z)::S⟩ R).pgs) h k (pf (Ctx.tree ⟨some t,P,h,(g,y::l::z)::S⟩ i).pgs)):EQ (Ctx.tree ⟨some t,P,h,(g,y::l::z)::S⟩ R).pd k (two t P h (i++[y]) g (l::z) S).pd:=by have a:Nd (two t P h i g (y::l::z) S).pgs:=j.nd;have e:=WW (R3:=i++[y]) (R4:=l::z) a (by rw[AD];rfl) (WZ m).symm;have lr:=K2<|AB n<|nL rfl;refine o.step rfl C j n J (f':=pf (two t P h (i++[y]) g (l::z) S).pgs) (λr s d c Q=>?_) λH q=>Jp q H (QO e.2) (.inr λe=>by rw[AU,AF] at e;exact DW<|(List.append_eq_nil_iff.mp e).2);rw[K0,<-QP (R1:=i)];refine(fV (K:=30) (k:=k) (v:=Fa c<|Ai P) (kx:=l.1) (kr:=B6<|l::z) (cx:=y.2.1) (cr:=AG<|l::z) Q (La a) (LY a) (LZ a) (Wb O) (AM lr.1<|nL rfl) (AM lr.2<|nL rfl)<|iI a (λG N=>BC _ N) M).cast ?_;rw[show Ba (y::l::z)=y.1 from rfl,<-QR m,<-show AG (i++[y])=AG i++[y.2.1] from AF];exact e.1
noncomputable def HG(t:Int)(P:List Gr)(h:Int)(R:List A6)(S:List Gr):Tr:=.top (if P.length+S.length=0 then .none else some t)<|P++(h,R)::S
def Wc(r:Nd (Tr.top (some t)<|P++(h,R)::S).pgs)(H:HT u s d t p f)(q:RemR 60 u s d t p f t k<|pf (Tr.top (some t)<|P++(h,R)::S).pgs):TQ u s d k (HG t P h R S).root<|pf (HG t P h R S).pgs:=by
 have e:(Tr.top (some t)<|P++(h,R)::S).pgs=(AV (A8<|P++(h,R)::S)++Cg (P++(h,R)::S))++Ff (P++(h,R)::S) t::[]:=by rw[HD,AD];rfl
 have j:=r;unfold Nd at j;rw[e] at j;have a:pf (Tr.top (some t)<|P++(h,R)::S).pgs t=some (AU ((P++(h,R)::S).map hs).tail<|Ai<|P++(h,R)::S):=by rw[e];exact Fe j
 unfold HG;by_cases m:P.length+S.length=0;rw[A5 m];have G:=List.eq_nil_of_length_eq_zero<|Nat.eq_zero_of_add_eq_zero_right m;have C:=List.eq_nil_of_length_eq_zero<|Nat.eq_zero_of_add_eq_zero_left m;subst G C;have:=VS (c:=h) q H a;have o:=NR j;rw[BJ] at o;rw[e] at this;exact(A3 (TQ u s d k h) o).mp this;rw[A1 m];refine Jp q H a<|.inr<|QM (n:=0) ?_;rw[A4,List.length_tail,A4,A9,CK];exact Nat.pos_of_ne_zero m
def iP(o:CtxAt ⟨some t,P++[(h,w)],g,S⟩ R k E A x B)(O:AX k x.2.2=some v)(m:CtxOk ⟨some t,P++[(h,w)],g,S⟩ i k E)(J:i.length<=2)(X:i≠[])(c:w≠[])(C:w.length<=3)(T:∀G∈S.head?,G.2.length<=3) (Q:∀{u s d p},HT u s d t p (pf (Ctx.tree ⟨some t,P++[(h,w)],g,S⟩ R).pgs)->RemR 50 u s d t p (pf (Ctx.tree ⟨some t,P++[(h,w)],g,S⟩ R).pgs) g k (pf (Ctx.tree ⟨some t,P++[(h,w)],g,S⟩ i).pgs)):EQ (Ctx.tree ⟨some t,P++[(h,w)],g,S⟩ R).pd k (HG t P h (w++i) S).pd:=by have a:Nd (two t P h w g i S).pgs:=K1▸m.nd;have r:=K2<|AB C<|nL rfl;have n:=K2<|AB J<|nL rfl;have e:=WX a c X;refine o.step rfl O m J Q (f':=pf (Tr.top (some t)<|P++(h,w++i)::S).pgs) (λM s d N j=>?_) λH q=>Wc e.2 H q;rw[K1] at j;rw[WY,QQ,<-e.1];exact VK j (Ng (LY a) C) (iJ a (λG Y=>Aw _<|Ah _<|Ah _ Y) T)<|VJ (K:=30) (k:=k) j (La a) (LY a) (LZ a) (Nat.add_lt_add r.1 n.1)<|Nat.add_lt_add r.2 n.2
def iQ(o:CtxAt ⟨some t,[],h,(g,I)::S⟩ R k E A x B)(N:AX k x.2.2=some v)(j:CtxOk ⟨some t,[],h,(g,I)::S⟩ i k E)(C:i.length<=2)(Q:i≠[])(c:I≠[])(r:I.length<=3) (O:∀{u s d p},HT u s d t p (pf (Ctx.tree ⟨some t,[],h,(g,I)::S⟩ R).pgs)->RemR 50 u s d t p (pf (Ctx.tree ⟨some t,[],h,(g,I)::S⟩ R).pgs) h k (pf (Ctx.tree ⟨some t,[],h,(g,I)::S⟩ i).pgs)):EQ (Ctx.tree ⟨some t,[],h,(g,I)::S⟩ R).pd k (HG t [] h (i++I) S).pd:=by have a:Nd (two t [] h i g I S).pgs:=j.nd;have n:=K2<|AB r<|nL rfl;have m:=K2<|AB C<|nL rfl;have e:=WX a Q c;refine o.step rfl N j C O (f':=pf (Tr.top (some t)<|[]++(h,i++I)::S).pgs) (λJ s d M G=>?_) λH q=>Wc (P:=[]) e.2 H q;rw[<-e.1];exact VL (A:=[]) G (Ng (LZ a) r)<|VJ (K:=30) (k:=k) G (La a) (LY a) (LZ a) (Nat.add_lt_add m.1 n.1)<|Nat.add_lt_add m.2 n.2
end
noncomputable def lk(x:A6):LR:=(some x.1,[x.2.1],x.2.2)
noncomputable def lh(s:Option Int)(ex:List Int)(x:A6):LR:=(s,x.2.1::ex,x.2.2)
noncomputable def CM(b:Bool)(ex:List Int):List A6->List LR|[]=>[]|x::R=>lh (cond b .none<|some x.1) ex x::R.map lk
noncomputable def BM(a:List Gr):List LR:=a.flatMap λG=>CM false [G.1] G.2
noncomputable def Ip(t:Option Int):List Gr->List LR|[]=>[]|G::a=>CM true (G.1::t.toList) G.2++BM a
noncomputable def Tr.flat:Tr->List LR|.one x=>[lh .none [] x]|.top t a=>Ip t a
noncomputable def sg(b:Bool)(ex:List Int):List A6->List (LR×List LR)|[]=>[]|x::R=>[(lh (cond b .none<|some x.1) ex x,R.map lk)]
noncomputable def Fg(a:List Gr):List<|LR×List LR:=a.flatMap λG=>sg false [G.1] G.2
section
variable{c P S:List Gr}{R A B:List A6}{x:A6}{t:Option Int}{g d:Int}{b:Bool}{ex:List Int}
def iR(a b:List<|LR×List LR):D4 (a++b)=D4 a++D4 b:=List.flatMap_append
def iS:D4 (sg b ex R)=CM b ex R:=by cases R with|nil=>rfl|cons x R=>exact BJ _
def iT:D4 (Fg c)=BM c:=by induction c with|nil=>rfl|cons G c a=>show D4 (sg false [G.1] G.2++Fg c)=CM false [G.1] G.2++BM c;rw[iR,iS,a]
def iU(R:List A6):Ck 0 (R.map lk)=R.map lk:=List.filter_eq_self.mpr λr a=>by obtain⟨y,_,rfl⟩:=B9.mp a;rfl
def Wd:(sg b (g::ex) R).map (CO 0)=if R=[] then [] else [BL g R]:=by cases R with|nil=>rfl|cons x R=>rw[A1<|by intro h;exact DW h];show [CO 0 (lh _ (g::ex) x,R.map lk)]=_;unfold CO BL;rw[iU,Am,Am];rfl
def iV(h:∀G∈c,G.2≠[]):(Fg c).map (CO 0)=Cg c:=by induction c with|nil=>rfl|cons G c a=>show(sg false [G.1] G.2++Fg c).map _=BL G.1 G.2::Cg c;rw[AF,Wd,A1<|h G AT,a λG e=>h G<|Ah _ e];rfl
def We(R:List A6):D5 (R.map lk)=AV R:=by unfold D5 AV;rw[Am];rfl
def Wf(a b:List LR):D5 (a++b)=D5 a++D5 b:=AF
def iW:D5 (CM b ex R)=AV R:=by cases R with|nil=>rfl|cons x R=>exact A3 ((x.2.1,Ar x.2.2)::·)<|We R
def iY:D5 (BM c)=AV (A8 c):=by induction c with|nil=>rfl|cons G c a=>show D5 (CM false [G.1] G.2++BM c)=AV (G.2++A8 c);rw[Wf,iW,a,Hu]
def iZ(h:∀G∈c,G.2≠[]):(Ck 1<|BM c).map Fd=c.map hs/\((Ck 1<|BM c).map λr=>EV r 1)=Ai c:=by induction c with|nil=>exact⟨rfl,rfl⟩|cons G c a=>obtain⟨i,f⟩:=a λG k=>h G<|Ah _ k;obtain⟨g,R⟩:=G;cases R with|nil=>exact absurd rfl (h _ AT)|cons x R=>
 have e:Ck 1 (BM<|(g,x::R)::c)=lh (some x.1) [g] x::Ck 1 (BM c):=by show Ck 1 (lh (some x.1) [g] x::(R.map lk++BM c))=_;unfold Ck;rw[List.filter_cons_of_pos rfl,List.filter_append,List.filter_eq_nil_iff.mpr λr j=>by obtain⟨y,_,rfl⟩:=B9.mp j;exact λq=>by cases D2 q];rfl
 rw[e];exact⟨A3 (x.1::·) i,A3 (g::·) f⟩
def ic(R:List A6):Ck 1 (R.map lk)=[]:=List.filter_eq_nil_iff.mpr λr a=>by obtain⟨y,_,rfl⟩:=B9.mp a;exact λq=>by cases D2 q
def QS{r:LR}(h:r∈BM c):r.2.1.length<=2/\r.2.1≠[]/\r.1=some (Fd r):=by obtain⟨G,_,h⟩:=List.mem_flatMap.mp h;obtain⟨g,R⟩:=G;cases R with|nil=>exact absurd h Ax|cons x R=>refine(An.mp h).elim (λe=>e▸⟨Au 2,(λe=>by exact DW e),rfl⟩) λh=>?_;obtain⟨y,_,rfl⟩:=B9.mp h;exact⟨Nat.le_succ 1,(λe=>by exact DW e),rfl⟩
def Fh{r:LR}(h:r∈R.map lk):r.2.1.length=1/\r.1=some (Fd r):=by obtain⟨y,_,rfl⟩:=B9.mp h;exact⟨rfl,rfl⟩
def QT:∀s∈Fg c,0+1<s.1.2.1.length/\(∀r∈s.2,r.2.1.length<=0+1)/\∀r∈s.2,r.1=some (Fd r):=λs hs=>by obtain⟨G,_,h⟩:=List.mem_flatMap.mp hs;obtain⟨g,R⟩:=G;cases R with|nil=>exact absurd h Ax|cons x R=>cases Ao.mp h;exact⟨CY 1,λr a=>BB (Fh a).1,λr a=>(Fh a).2⟩
def ie(f:Nd (Tr.one x).pgs)(j:∀q∈(Tr.one x).pgs,q.1∈B7):Cl gl Co 80 [.d<|AI (Tr.one x).flat] [] (.val<|.d (Tr.one x).pd) []:=by have v:∀i,Lev i [lh .none [] x] [lh .none [] x] []:=λi=>⟨rfl,λr a=>by cases Ao.mp a;exact CV<|Bm i,λ_ h=>absurd h Ax,λ_ h=>absurd h Ax,λ_ h=>absurd h Ax⟩;exact QF (x:=lh .none [] x) (rs:=[]) (ns:=[]) (n:=x.2.1) (v 0) (v 1) rfl (λr a=>by cases Ao.mp a;exact λe=>by exact DW e) (nL rfl) f j
def ig(z:∀G∈(g,x::R)::c,G.2≠[])(o:(Ip t<|(g,x::R)::c).length<90)(w:t=.none->c=[])(m:Nd (Tr.top t<|(g,x::R)::c).pgs)(v:∀q∈(Tr.top t<|(g,x::R)::c).pgs,q.1∈B7):Cl gl Co 80 [.d<|AI (Tr.top t<|(g,x::R)::c).flat] [] (.val<|.d (Tr.top t<|(g,x::R)::c).pd) []:=by
 have f:∀G∈c,G.2≠[]:=λG h=>z G<|Ah _ h;have y:(Tr.top t<|(g,x::R)::c).flat=lh .none (g::t.toList) x::(R.map lk++BM c):=rfl;have j:Lev 0 (lh .none (g::t.toList) x::(R.map lk++BM c)) []<|(lh .none (g::t.toList) x,R.map lk)::Fg c:=⟨by show _=[]++(lh .none (g::t.toList) x::(R.map lk++D4 (Fg c)));rw[iT];rfl,λ_ h=>absurd h Ax, λs hs=>(An.mp hs).elim (λe=>e▸Cc (Nat.succ_pos _)) λh=>(QT s h).1,λs hs=>(An.mp hs).elim (λe=>e▸λr a=>BB (Fh a).1) λh=>(QT s h).2.1,λs hs=>(An.mp hs).elim (λe=>e▸λr a=>(Fh a).2) λh=>(QT s h).2.2⟩;have k:∀r∈lh .none (g::t.toList) x::(R.map lk++BM c),r.2.1≠[]:=λr a=>(An.mp a).elim (λe=>e▸λe=>by exact DW e) λa=>(BE.mp a).elim (λa e=>by have:=(Fh a).1;rw[e] at this;exact absurd this<|Nat.ne_of_beq_eq_false rfl) λa=>(QS a).2.1;have u:D5 (lh .none (g::t.toList) x::(R.map lk++BM c))=AV (A8<|(g,x::R)::c):=by show(x.2.1,Ar x.2.2)::D5 (R.map lk++BM c)=AV (x::R++A8 c);rw[Wf,We,iY,Hu];rfl
 have p:((lh .none (g::t.toList) x,R.map lk)::Fg c).map (CO 0)=Cg ((g,x::R)::c):=by have:=Wd (b:=true) (g:=g) (ex:=t.toList) (R:=x::R);rw[A1<|by intro h;exact DW h] at this;rw[List.map_cons,iV f];exact A3 (·++Cg c) this
 rw[y] at *;cases t with
 |none=>
  cases w rfl;have i:Lev 1 (lh .none [g] x::(R.map lk++BM [])) (lh .none [g] x::(R.map lk++BM [])) []:=⟨(BJ _).symm,λr a=>(An.mp a).elim (λe=>e▸Au 2) λa=>(BE.mp a).elim (λa=>by rw[(Fh a).1];exact Nat.le_succ 1) λa=>absurd a Ax,λ_ h=>absurd h Ax,λ_ h=>absurd h Ax,λ_ h=>absurd h Ax⟩;have E:D5 (lh .none [g] x::(R.map lk++BM []))++((lh .none [g] x,R.map lk)::Fg []).map (CO 0)++([]:List<|LR×List LR).map (CO 1)=(Tr.top .none [(g,x::R)]).pgs:=by rw[show([]:List<|LR×List LR).map (CO 1)=[] from rfl,BJ,HD];exact(A3 (·++_) u).trans<|A3 (AV _++·)<|p.trans (BJ _).symm
  have:=QF (x:=lh .none [g] x) (s1:=(lh .none [g] x,R.map lk)::Fg []) (ns:=[x.2.1]) (n:=g) j i rfl k o (by rw[E];exact m) (by rw[E];exact v);rw[E] at this;exact this
 |some t=>
  have i:Lev 1 (lh .none [g,t] x::(R.map lk++BM c)) [] [(lh .none [g,t] x,R.map lk++BM c)]:=⟨(BJ _).symm,λ_ h=>absurd h Ax,λs hs=>by cases Ao.mp hs;exact CY 2,λs hs=>by cases Ao.mp hs;exact λr a=>(BE.mp a).elim (λa=>by rw[(Fh a).1];exact Nat.le_succ 1) λa=>(QS a).1,λs hs=>by cases Ao.mp hs;exact λr a=>(BE.mp a).elim (λa=>(Fh a).2) λa=>(QS a).2.2⟩;have C:[(lh .none [g,t] x,R.map lk++BM c)].map (CO 1)=[Ff ((g,x::R)::c) t]:=by have q:=iZ f;show [CO 1 (lh .none [g,t] x,R.map lk++BM c)]=_;unfold CO Ff;rw[show Ck 1 (R.map lk++BM c)=Ck 1 (BM c) from by show List.filter _ _=_;rw[List.filter_append];exact A3 (·++_)<|ic R,q.1,q.2];rfl
  have E:D5 (lh .none [g,t] x::(R.map lk++BM c))++((lh .none [g,t] x,R.map lk)::Fg c).map (CO 0)++[(lh .none [g,t] x,R.map lk++BM c)].map (CO 1)=(Tr.top (some t)<|(g,x::R)::c).pgs:=by rw[HD,C,AD];exact(A3 (·++_) u).trans<|A3 (λl=>AV _++(l++_)) p
  have:=QF (x:=lh .none [g,t] x) (s1:=(lh .none [g,t] x,R.map lk)::Fg c) (ns:=[x.2.1,g]) (n:=t) j i rfl k o (by rw[E];exact m) (by rw[E];exact v);rw[E] at this;exact this
end
def Rows(R:List A6):Prop:=∀r∈R,2<=r.2.2.length/\r.2.2.length<=4
def AL(x y:A6):Prop:=(∀p∈x.2.2,p.1<y.1)/\∀q∈y.2.2,y.1<=q.1
structure Ord(R:List A6):Prop where
 asc:∀r∈R,Asc r.2.2
 bet:R.Pairwise AL
noncomputable def fl(R:List A6):List<|Int×Str:=R.flatMap (·.2.2)
section
variable{R A B:List A6}{x y z:A6}{k:Int}{v:Str}{c P Q:List (Int×Str)}{e:Int×Str}{m:Int}
def QV{d:Type}{r:d->d->Prop}{A B:List d}{x:d}:(A++x::B).Pairwise r↔(A.Pairwise r/\B.Pairwise r/\∀u∈A,∀b∈B,r u b)/\(∀u∈A,r u x)/\∀b∈B,r x b:=by rw[List.pairwise_append,DU];exact⟨λh=>⟨⟨h.1,h.2.1.2,λu a b f=>h.2.2 u a b<|Ah _ f⟩,λu a=>h.2.2 u a x AT,h.2.1.1⟩,λh=>⟨h.1.1,⟨h.2.2,h.1.2.1⟩,λu a b f=>(An.mp f).elim (λe=>e▸h.2.1 u a)<|h.1.2.2 u a b⟩⟩
def HH:Ord (A++x::B)↔((∀r∈A,Asc r.2.2)/\(∀r∈B,Asc r.2.2)/\A.Pairwise AL/\B.Pairwise AL/\∀u∈A,∀b∈B,AL u b)/\Asc x.2.2/\(∀u∈A,AL u x)/\∀b∈B,AL x b:=by constructor;intro h;have p:=QV.mp h.bet;exact⟨⟨λr a=>h.asc r<|BC _ a,λr a=>h.asc r<|Aw _<|Ah _ a,p.1⟩,h.asc x<|Aw _ AT,p.2⟩;intro h;exact⟨λr a=>(BE.mp a).elim (h.1.1 r) λa=>(An.mp a).elim (λe=>e▸h.2.1)<|h.1.2.1 r,QV.mpr ⟨h.1.2.2,h.2.2⟩⟩
def ii(h:Ord<|A++x::B)(i:Asc c)(g:∀p∈c,p.1=k\/p∈x.2.2)(l:A≠[]->x.1<=k)(j:∀b∈B,k<b.1):Ord<|A++Ab x c::B:=by have h:=HH.mp h;refine HH.mpr ⟨h.1,i,λu d=>⟨(h.2.2.1 u d).1,λq a=>?_⟩,λb f=>⟨λp a=>?_,(h.2.2.2 b f).2⟩⟩;exact(g q a).elim (λe=>e▸l λe=>by rw[e] at d;exact absurd d Ax) λa=>(h.2.2.1 u d).2 q a;exact(g p a).elim (λe=>e▸j b f) λa=>(h.2.2.2 b f).1 p a
def QW(h:Ord<|A++x::B)(i:x.2.2=P++e::Q):Ord<|A++Ab x P::(e.1,m,e::Q)::B:=by
 have h:=HH.mp h;have o:Asc<|P++e::Q:=i▸h.2.1;have j:=QV.mp o;have n:∀p∈P,p∈x.2.2:=λp d=>i▸BC _ d;have mQ:∀p∈e::Q,p∈x.2.2:=λp d=>i▸Aw _ d;have r:∀q∈e::Q,e.1<=q.1:=λq g=>(An.mp g).elim (λw=>w▸Int.le_refl _) λg=>Int.le_of_lt<|j.2.2 q g;rw[Cm];have t:∀b∈B,AL (e.1,m,e::Q) b:=λb f=>⟨λp d=>(h.2.2.2 b f).1 p<|mQ p d,(h.2.2.2 b f).2⟩;have s:∀u∈A++[Ab x P],AL u (e.1,m,e::Q):=λu a=>(BE.mp a).elim (λa=>⟨λp d=>Int.lt_of_lt_of_le ((h.2.2.1 u a).1 p d)<|(h.2.2.1 u a).2 e<|mQ e AT,r⟩) λa=>by rw[Ao.mp a];exact⟨λp d=>j.2.1 p d,r⟩
 have l:Ord<|A++[Ab x P]:=HH.mpr ⟨⟨h.1.1,λ_ h=>absurd h Ax,h.1.2.2.1,.nil,λ_ _ _ h=>absurd h Ax⟩,j.1.1,λu a=>⟨(h.2.2.1 u a).1,λq g=>(h.2.2.1 u a).2 q<|n q g⟩,λ_ h=>absurd h Ax⟩;exact HH.mpr ⟨⟨l.asc,h.1.2.1,l.bet,h.1.2.2.2.1,λu a b f=>(BE.mp a).elim (λa=>h.1.2.2.2.2 u a b f) λa=>by rw[Ao.mp a];exact⟨λp d=>(h.2.2.2 b f).1 p<|n p d,(h.2.2.2 b f).2⟩⟩,(List.pairwise_append.mp o).2.1,s,t⟩
def QX(h:Ord<|A++y::z::B)(l:y.2.2≠[]):Ord<|A++Ab y (y.2.2++z.2.2)::B:=by have a:=h;rw[Cm] at a;have h:=HH.mp h;have a:=HH.mp a;have j:AL y z:=h.2.2.2 z AT;refine HH.mpr ⟨⟨h.1.1,a.1.2.1,h.1.2.2.1,a.1.2.2.2.1,λu f b i=>h.1.2.2.2.2 u f b<|Ah _ i⟩,?_,λu f=>⟨(h.2.2.1 u f).1,λq g=>?_⟩,λb i=>⟨λp d=>?_,(a.2.2.2 b i).2⟩⟩;exact List.pairwise_append.mpr ⟨h.2.1,a.2.1,λp d q g=>Int.lt_of_lt_of_le (j.1 p d)<|j.2 q g⟩;refine(BE.mp g).elim ((h.2.2.1 u f).2 q) λg=>?_;obtain⟨p,d⟩:=List.exists_mem_of_ne_nil _ l;exact Int.le_of_lt<|Int.lt_of_le_of_lt ((h.2.2.1 u f).2 p d)<|Int.lt_of_lt_of_le (j.1 p d)<|j.2 q g;exact(BE.mp d).elim ((h.2.2.2 b<|Ah _ i).1 p)<|(a.2.2.2 b i).1 p
def Ni(A B:List A6):fl (A++B)=fl A++fl B:=List.flatMap_append
def FC(A:List A6)(x:A6)(B:List A6):fl (A++x::B)=fl A++(x.2.2++fl B):=by rw[Ni];rfl
def QY(h:Ord R):Asc<|fl R:=List.pairwise_flatMap.mpr ⟨h.asc,h.bet.imp λq p f d a=>Int.lt_of_lt_of_le (q.1 p f)<|q.2 d a⟩
def Wg{l:List (Int×Str)}:∀{lo:Int}{n:Nat},Asc l->(∀p∈l,lo<=p.1/\p.1<lo+n)->l.length<=n:=by induction l with|nil=>exact λ_ _=>Bm _|cons p l f=>intro lo n h a;have h:=DU.mp h;cases n with|zero=>have:=a p AT;exact absurd (Int.lt_of_le_of_lt this.1 this.2) (by rw[show(lo+(0:Nat))=lo from Int.add_zero lo];exact Int.lt_irrefl _)|succ n=>refine CV<|f (lo:=lo+1) h.2 λq d=>⟨Int.lt_of_le_of_lt (a p AT).1<|h.1 q d,?_⟩;have:=(a q<|Ah _ d).2;rw[Int.add_assoc,Int.add_comm 1];exact this
def ij(h:Rows R):2*R.length<=(fl R).length:=by induction R with|nil=>exact Au _|cons x R a=>show 2*(R.length+1)<=(x.2.2++fl R).length;rw[A9,Nat.mul_succ,C7];exact Nat.add_le_add (h x AT).1<|a λr d=>h r<|Ah _ d
def Nj(f:Ord R)(d:Rows R)(g:∀p∈fl R,0<=p.1/\p.1<24):R.length<=12:=by have h:=AB (ij d)<|Wg (lo:=0) (n:=24) (QY f) g;exact CF<|Nat.lt_of_mul_lt_mul_left (a:=2)<|AO h (by decide:24<2*13)
def ik(k:Int):∀(R:List A6),R≠[]->R.tail.Pairwise (λy z=>y.1<z.1)->∃A x B,Loc R k A x B:=by intro R;induction R with|nil=>exact λh=>absurd rfl h|cons r R j=>intro _ hs;cases R with|nil=>exact⟨[],r,[],rfl,λ_ h=>absurd h Ax,λ_ h=>absurd h Ax⟩|cons y R=>have d:=DU.mp hs;by_cases g:k<y.1;exact⟨[],r,y::R,rfl,λ_ h=>absurd h Ax,λb i=>(An.mp i).elim (λe=>e▸g) λi=>Int.lt_trans g<|d.1 b i⟩;obtain⟨A,x,B,e,n,l⟩:=j (by simp) d.2;refine⟨r::A,x,B,A3 (r::·) e,λu f=>?_,l⟩;have f:u∈A++[x]:=f;cases A with|nil=>obtain⟨rfl,rfl⟩:=List.cons.inj e;rw[Ao.mp f];exact Int.not_lt.mp g|cons a A=>obtain⟨rfl,rfl⟩:=List.cons.inj e;exact(An.mp f).elim (λe=>e▸Int.not_lt.mp g)<|n u
def im(h:Ord R)(g:Rows R):R.tail.Pairwise λy z=>y.1<z.1:=by cases R with|nil=>exact .nil|cons r R=>have f:=DU.mp h.bet;refine(List.Pairwise.imp_of_mem ?_ f.2);intro y z a i q;obtain⟨p,d⟩:=List.exists_mem_of_length_pos<|Be (nL rfl) (g y<|Ah _ a).1;exact Int.lt_of_le_of_lt ((f.1 y a).2 p d)<|q.1 p d
end
section
variable{k:Int}{v:Str}{l:List (Int×Str)}
def Wi(k:Int)(p:Int×Str)(l:List<|Int×Str):outP' k (p::l)=if k=p.1 then outP' k l else p::outP' k l:=by unfold outP';rw[List.filter_cons];by_cases e:k=p.1;rw[A5 e,Ac e.symm];rfl;rw[A1 e,decide_eq_false λq=>e q.symm];rfl
def io(n:Int):AX n (outP' k l)=if n=k then .none else AX n l:=by induction l with|nil=>exact(ite_self _).symm|cons p l a=>rw[Wi,Ca];by_cases e:k=p.1;rw[A5 e,a];by_cases h:n=k;rw[A5 h,A5 h];rw[A1 h,A1 h,A1 λq=>h<|q.trans e.symm];rw[A1 e,Ca,a];by_cases h:n=p.1;rw[A5 h,A5 h,A1 λq=>e<|q.symm.trans h];rw[A1 h,A1 h]
def Wj(h:Asc l):Asc<|outP' k l:=List.Pairwise.sublist List.filter_sublist h
def Nk(h:AX k l=.none):outP' k l=l:=List.filter_eq_self.mpr λp a=>by rw[decide_eq_false λe:p.1=k=>DY.mp h<|e▸B9.mpr ⟨p,a,rfl⟩];rfl
def ip(h:(l.map (·.1)).Nodup)(a:AX k l=some v):(outP' k l).length+1=l.length:=by induction l with|nil=>exact Ae a|cons p l c=>have h:=Bi.mp h;rw[Ca] at a;rw[Wi];by_cases e:k=p.1;rw[A5 e,Nk<|DY.mpr<|e▸h.1];rfl;rw[A1 e] at a ⊢;exact A3 (·+1)<|c h.2 a
def NewP.of(h:Asc l)(c:l.length<50):NewP k v l<|C5 k v l:=by have a:((outP' k l++[(k,v)]).map (·.1)).Nodup:=NewP.nd (ps:=_) ⟨rfl,Cf h,c⟩;refine⟨UF (Mn a) (Mn<|L6<|Cf h) λn=>?_,Cf h,c⟩;unfold C5;rw[PL n a,PL n<|L6<|Cf h,PJ,Ik,io];by_cases e:n=k;rw[A5 e,A5 e];exact A5 e;rw[A1 e,A1 e];cases AX n l with|none=>exact A1 e|some w=>rfl
def Nl(h:Asc l):Asc<|C5 k v l:=Mn<|L6<|Cf h
def iq{p:Int×Str}(h:p∈BX k v l):p.1=k\/p∈l:=by induction l with|nil=>rw[Ao.mp h];exact .inl rfl|cons q l a=>rw[Kz] at h;by_cases e:k=q.1;rw[A5 e] at h;exact(An.mp h).imp (λe=>A3 Prod.fst e)<|Ah _;rw[A1 e] at h;exact(An.mp h).elim (λe=>.inr<|e▸AT) λh=>(a h).imp_right<|Ah _
def QZ{p:Int×Str}(h:p∈C5 k v l):p.1=k\/p∈l:=iq<|(Ml _).mem_iff.mp h
def Wk:(C5 k v l).length<=l.length+1:=by unfold C5;rw[PO];exact Uy k v l
def ir:l.length<=(C5 k v l).length:=by unfold C5;rw[PO];have h:=A3 List.length<|L3 k v l;rw[A4] at h;rw[h];by_cases e:k∈l.map (·.1);rw[A5 e,A4];exact Au _;rw[A1 e,A9,A4];exact Nat.le_succ _
structure NK(N:Int)(l:List Int):Prop where
 nod:l.Nodup
 dm:∀n∈l,n∈B7/\n<N
def NK.sub{N:Int}{l a:List Int}(h:NK N l)(s:a.Sublist l):NK N a:=⟨s.nodup h.nod,λn c=>h.dm n<|s.mem c⟩
def NK.perm{N:Int}{l a:List Int}(h:NK N l)(p:a.Perm l):NK N a:=⟨p.nodup_iff.mpr h.nod,λn c=>h.dm n<|p.mem_iff.mp c⟩
def NK.cons{N:Int}{l:List Int}{m:Nat}(h:NK N l)(a:Free l m)(c:l.length<=17)(f:18<=N):NK N<|(m:Int)::l:=⟨Bi.mpr ⟨a.no,h.nod⟩,λn d=>(An.mp d).elim (λe=>e▸⟨WI<|AB a.le<|AB c<|nL rfl,Int.lt_of_lt_of_le (Bc.mpr<|D0<|AB a.le c) f⟩)<|h.dm n⟩
end
section
variable{R S A B:List A6}{x y:A6}{g k:Int}{v:Str}{m f i:Nat}{a b e:Int×Str}{c:List (Int×Str)}
def Iq(x:A6):pf (Tr.one x).pgs x.2.1=some (Ar x.2.2):=A5 rfl
def Qa(x:A6)(l:List<|Int×Str):upd (pf (Tr.one x).pgs) x.2.1 (some<|Ar l)=pf (Tr.one<|Ab x l).pgs:=G0 (P:=[]) (Q:=[])<|Bi.mpr ⟨Ax,List.nodup_nil⟩
def iu(n:x.2.1∈B7)(h:(x.2.2.map (·.1)).Nodup)(l:x.2.2.length<60)(o:(C5 k v x.2.2).length<=4):Gn (Tr.one x).pd k v (Tr.one<|Ab x<|C5 k v x.2.2).pd:=by unfold Tr.pd;rw[<-Qa];exact LC (Em λq j=>by rw[Ao.mp j];exact n) λp s d r H=>Q7 ((V2 H (Iq x) h l o).u rfl) H
def iv(r:x.2.1∈B7)(n:(x.2.2.map (·.1)).Nodup)(p:x.2.2.length<60)(t:C5 k v x.2.2=a::b::e::c)(w:1<c.length)(l:Free [x.2.1] m)(j:Free (AG<|Bb [] x a b e c m []) f):Gn (Tr.one x).pd k v (Tr.top .none [((f:Int),Bb [] x a b e c m [])]).pd:=by
 have L:Least (pf (Tr.one x).pgs) m:=LV l (by decide:1<=35);have C:upd (upd (pf (Tr.one x).pgs) x.2.1<|some<|Ar [a,b]) m (some<|Ar<|e::c)=pf (AV<|Bb [] x a b e c m []):=by rw[Qa];exact HB (P:=AV [Ab x [a,b]]) (Q:=[]) l.no
 have E:Least (pf<|AV<|Bb [] x a b e c m []) f:=LV j (by decide:2<=35);have z:upd (pf<|AV<|Bb [] x a b e c m []) f (some<|AU [e.1] [x.2.1,m])=pf (Tr.top .none [((f:Int),Bb [] x a b e c m [])]).pgs:=HB (P:=AV<|Bb [] x a b e c m []) (Q:=[]) j.no;unfold Tr.pd;rw[<-z];refine LC (Em λq o=>by rw[Ao.mp o];exact r) λG s d I H=>?_;have h:=Px (k:=k) (v:=v) H (Iq x) n p t w L;rw[C] at h;exact VR (h.u rfl) H E
def iw(l:x.2.1∈B7)(d:(x.2.2.map (·.1)).Nodup)(h:AX k x.2.2=.none):EQ (Tr.one x).pd k (Tr.one x).pd:=VU (Em λq j=>by rw[Ao.mp j];exact l) (.leaf<|Iq x) (nL rfl) d h
def iy(o:x.2.1∈B7)(h:(x.2.2.map (·.1)).Nodup)(n:x.2.2.length<60)(j:AX k x.2.2=some v):EQ (Tr.one x).pd k (Tr.one<|Ab x<|outP' k x.2.2).pd:=by unfold Tr.pd;rw[<-Qa];exact NG (Em λq l=>by rw[Ao.mp l];exact o) (.leaf<|Iq x) (nL rfl) h j λp s d r H=>Jp ((VA H (Iq x) n).u rfl) H Aj<|.inl rfl
end
structure GSz(t:Option Int)(R:List A6):Prop where
 lo:2<=R.length
 lo3:t.isSome=true->3<=R.length
 hi:R.length<=5
 rows:Rows R
structure TSz(t:Option Int)(Gs:List Gr):Prop where
 gr:∀G∈Gs,GSz t G.2
 n1:t=.none->Gs.length=1
 n2:t.isSome=true->2<=Gs.length
noncomputable def Tr.Sz:Tr->Prop|.one x=>x.2.2.length<=4|.top t a=>TSz t a
structure WF(N:Int)(T:Tr):Prop where
 nk:NK N (T.pgs.map (·.1))
 sz:T.Sz
 ord:Ord T.rows
 key:∀p∈fl T.rows,0<=p.1/\p.1<24
noncomputable def Hv(b:Bool)(ex:List Int):List A6->A6->LR|[],x=>lh (cond b .none<|some x.1) ex x|_::_,x=>lk x
namespace Ctx
noncomputable def b(C:Ctx):Bool:=C.P.isEmpty
noncomputable def ex(C:Ctx):List Int:=C.g::cond C.P.isEmpty C.t.toList []
noncomputable def U(C:Ctx):List LR:=Ip C.t C.P
noncomputable def W(C:Ctx):List LR:=BM C.S
noncomputable def rw(C:Ctx)(R:List A6):List LR:=CM C.b C.ex R
noncomputable def lr(C:Ctx)(A:List A6)(x:A6):LR:=Hv C.b C.ex A x
end Ctx
section
variable{N:Int}{T:Tr}{C:Ctx}{R d A B:List A6}{x y:A6}{k c:Int}{v:Str}{P S Gs:List Gr}{t:Option Int}{g:Int}{b:Bool}{ex:List Int}{l:List (Int×Str)}
theorem WF.nod(w:WF N T):Nd T.pgs:=w.nk.nod
theorem WF.dm(w:WF N T):∀q∈T.pgs,q.1∈B7:=λq a=>(w.nk.dm _<|B9.mpr ⟨q,a,rfl⟩).1
def iz(P S:List Gr):BM (P++S)=BM P++BM S:=List.flatMap_append
theorem Ctx.flat(C:Ctx)(R:List A6):(C.tree R).flat=C.U++(C.rw R++C.W):=by obtain⟨t,P,g,S⟩:=C;cases P with|nil=>rfl|cons p P=>show CM true (p.1::t.toList) p.2++BM (P++(g,R)::S)=(CM true (p.1::t.toList) p.2++BM P)++(CM false [g] R++BM S);rw[iz,AD];rfl
def Qb:CM b ex (A++x::B)=CM b ex A++Hv b ex A x::B.map lk:=by cases A with|nil=>rfl|cons a A=>show lh _ ex a::(A++x::B).map lk=lh _ ex a::(A.map lk++lk x::B.map lk);rw[AF];rfl
def Ctx.flat_mid(C:Ctx):(C.tree<|A++x::B).flat=(C.U++C.rw A)++C.lr A x::(B.map lk++C.W):=by rw[C.flat];unfold Ctx.rw Ctx.lr;rw[Qb,AD,AD];rfl
def j0:Hv b ex A (Ab x l)=((Hv b ex A x).1,(Hv b ex A x).2.1,l):=by cases A<;>rfl
def Qc:(Hv b ex A x).2.2=x.2.2:=by cases A<;>rfl
def j1:CM b ex (A++Ab x l::B)=CM b ex A++((Hv b ex A x).1,(Hv b ex A x).2.1,l)::B.map lk:=by rw[Qb,j0]
def Ctx.flat_set(C:Ctx):(C.tree<|A++Ab x l::B).flat=(C.U++C.rw A)++((C.lr A x).1,(C.lr A x).2.1,l)::(B.map lk++C.W):=by rw[C.flat];unfold Ctx.rw Ctx.lr;rw[j1,AD,AD];rfl
def Ctx.seg(C:Ctx)(y:A6)(R:List A6)(h:∀G∈C.S,G.2≠[]):Seg C.U (C.lr [] y) (R.map lk) C.W:=⟨Cc<|Nat.succ_pos _,λr a=>(Fh a).1,λr a=>by obtain⟨t,P,g,S⟩:=C;cases S with|nil=>exact Ae a|cons G S=>obtain⟨e,d⟩:=G;cases d with|nil=>exact absurd rfl (h _ AT)|cons z d=>obtain rfl:=Option.some.inj a;exact CY 1⟩
def j2:(CM false ex R).map (·.1)=R.map λr=>some r.1:=by cases R with|nil=>rfl|cons x R=>show some x.1::(R.map lk).map (·.1)=_;rw[Am];rfl
def Qd:(BM Gs).map (·.1)=(A8 Gs).map λr=>some r.1:=by induction Gs with|nil=>rfl|cons G Gs a=>show(CM false [G.1] G.2++BM Gs).map _=(G.2++A8 Gs).map _;rw[AF,AF,j2,a]
def j3(h:∀G∈Gs,G.2≠[]):(Ip t Gs).tail.map (·.1)=(A8 Gs).tail.map λr=>some r.1:=by cases Gs with|nil=>rfl|cons G Gs=>obtain⟨g,R⟩:=G;cases R with|nil=>exact absurd rfl (h _ AT)|cons x R=>show(R.map lk++BM Gs).map _=(R++A8 Gs).map _;rw[AF,AF,Qd,Am];rfl
def j4(C:Ctx):(C.U++C.rw A)++[C.lr A x]=Ip C.t (C.P++[(C.g,A++[x])]):=by have:=Ctx.flat ⟨C.t,C.P,C.g,[]⟩<|A++[x];refine Eq.trans ?_ this.symm;show _=C.U++(CM C.b C.ex (A++[x])++[]);rw[Qb,BJ,AD];rfl
structure Here(N:Int)(C:Ctx)(k c:Int)(A:List A6)(x:A6)(B:List A6):Prop where
 wf:WF N (C.tree (A++x::B))
 lof:Loc ((A8 C.P++A)++x::(B++A8 C.S)) k (A8 C.P++A) x (B++A8 C.S)
 hsp:Ba (A++x::B)=c
theorem Here.sz(h:Here N C k c A x B):TSz C.t<|C.P++(C.g,A++x::B)::C.S:=h.wf.sz
def Here.gsz(h:Here N C k c A x B):GSz C.t<|A++x::B:=h.sz.gr (C.g,A++x::B)<|Aw _ AT
def GSz.ne(h:GSz t R):R≠[]:=λe=>by rw[e] at h;exact absurd h.lo<|by decide
def Here.pne(h:Here N C k c A x B):∀G∈C.P,G.2≠[]:=λG a=>(h.sz.gr G<|BC _ a).ne
def Here.sne(h:Here N C k c A x B):∀G∈C.S,G.2≠[]:=λG a=>(h.sz.gr G<|Aw _<|Ah _ a).ne
theorem Here.ord(h:Here N C k c A x B):Ord<|(A8 C.P++A)++x::(B++A8 C.S):=by have:=h.wf.ord;rw[C.rows,AD,<-AD<|A8 C.P] at this;exact this
def Here.row(h:Here N C k c A x B):2<=x.2.2.length/\x.2.2.length<=4:=h.gsz.rows x<|Aw _ AT
theorem Here.asc(h:Here N C k c A x B):Asc x.2.2:=h.ord.asc x<|Aw _ AT
def K3(h:TSz t Gs):Rows<|A8 Gs:=λr a=>by obtain⟨G,e,a⟩:=List.mem_flatMap.mp a;exact(h.gr G e).rows r a
def Here.n12(h:Here N C k c A x B):(A8 C.P++A).length+(B++A8 C.S).length+1<=12:=by
 have r:Rows<|(A8 C.P++A)++x::(B++A8 C.S):=by have:=K3 h.sz;rw[D8,AD,<-AD<|A8 C.P] at this;exact this
 have q:=Nj h.ord r (by have:=h.wf.key;rw[C.rows,AD,<-AD<|A8 C.P] at this;exact this);rw[A9,CK] at q;exact q
def Qe{a:Type}(P A:List a)(x:a)(B S:List a):(P++((A++x::B)++S)).length=(P++A).length+(B++S).length+1:=by rw[AD,List.cons_append,<-AD,A9];rfl
def Here.m12(h:Here N C k c A x B):(A8 C.P++((A++x::B)++A8 C.S)).length<=12:=by rw[Qe];exact h.n12
def Qf:(BM Gs).length=(A8 Gs).length:=by have:=A3 List.length<|Qd (Gs:=Gs);rw[A4,A4] at this;exact this
def Ir:(CM b ex R).length=R.length:=by cases R with|nil=>rfl|cons x R=>exact A3 (·+1)<|A4 _
def Iu:(Ip t Gs).length=(A8 Gs).length:=by cases Gs with|nil=>rfl|cons G Gs=>show(CM _ _ G.2++BM Gs).length=(G.2++A8 Gs).length;rw[A9,A9,Ir,Qf]
def Here.locL(h:Here N C k c A x B):LocL k (C.U++C.rw A) (C.lr A x)<|B.map lk++C.W:=by
 refine⟨λy a=>?_,λy a=>?_,?_⟩;rw[j4] at a;have e:=j3 (t:=C.t) (Gs:=C.P++[(C.g,A++[x])]) λG i=>(BE.mp i).elim (h.pne G) λi=>by rw[Ao.mp i];exact λe=>by exact DW<|(List.append_eq_nil_iff.mp e).2
 obtain⟨r,f,e⟩:=B9.mp<|e▸B9.mpr ⟨y,a,rfl⟩;rw[<-e];rw[D8,show A8 []=[] from rfl,BJ,<-AD] at f;exact Ac<|h.lof.low r f;have e:(B.map lk++C.W).map (·.1)=(B++A8 C.S).map λr=>some r.1:=by rw[AF,AF,Am];exact A3 (_++·) Qd
 obtain⟨r,f,e⟩:=B9.mp<|e▸B9.mpr ⟨y,a,rfl⟩;rw[<-e];exact Ac<|h.lof.high r f;have:=h.n12;rw[A9,A9] at this ⊢;rw[A4];unfold Ctx.U Ctx.rw Ctx.W;rw[Iu,Ir,Qf];exact Be (Nat.lt_of_succ_le this)<|nL rfl
end
section
variable{N:Int}{T:Tr}{C:Ctx}{R j A B:List A6}{x y:A6}{k i:Int}{v:Str}{P S Gs:List Gr}{t:Option Int}{g:Int}{b:Bool}{ex:List Int}{l:List (Int×Str)}{m:Nat}
def Wl{G:Gr}(a:G∈Gs)(h:G.2≠[]):∃r∈A8 Gs,r.1=hs G:=by obtain⟨g,R⟩:=G;cases R with|nil=>exact absurd rfl h|cons x R=>exact⟨x,List.mem_flatMap.mpr ⟨_,a,AT⟩,rfl⟩
def Wm(h:∀G∈Gs,1<=G.2.length):Gs.length<=(A8 Gs).length:=by induction Gs with|nil=>exact Au _|cons G Gs a=>show Gs.length+1<=(G.2++A8 Gs).length;rw[A9,C7];exact Nat.add_le_add (h G AT)<|a λG c=>h G<|Ah _ c
def Here.ctx(h:Here N C k i A x B):CtxAt C (A++x::B) k i A x B:=by
 have n:=h.n12;refine {nd:=h.wf.nod,dm:=h.wf.dm,ok:=λs=>?_,hsp:=h.hsp,at_:=⟨λa d=>?_,λb u=>?_,?_⟩,loc:=⟨rfl,λy o=>?_,λy o=>h.lof.high y<|BC _ o⟩,len:=AO h.gsz.hi<|nL rfl,nx:=Cf h.asc};have:=h.sz.n1 s;rw[A9,CK] at this;have:=Nat.succ.inj this;exact⟨List.eq_nil_of_length_eq_zero<|Nat.eq_zero_of_add_eq_zero_right this,List.eq_nil_of_length_eq_zero<|Nat.eq_zero_of_add_eq_zero_left this⟩;have pn:=h.pne;have c:=h.lof.low;unfold Ctx.rk at d;cases hP:C.P with|nil=>rw[hP] at d;exact absurd d Ax|cons p P=>rw[hP] at d pn c;obtain⟨H,j⟩:=p;cases j with|nil=>exact absurd rfl (pn _ AT)|cons z j=>have c:∀y∈((j++A8 P)++A)++[x],y.1<=k:=c;refine(BE.mp<|show a∈P.map hs++[i] from d).elim (λd=>?_) λd=>?_;obtain⟨G,f,rfl⟩:=B9.mp d;obtain⟨r,q,e⟩:=Wl f<|pn G<|Ah _ f;exact e▸c r (BC _<|BC _<|Aw _ q);rw[Ao.mp d,<-h.hsp];cases A with|nil=>exact c x (Aw _ AT)|cons a A=>exact c a<|BC _<|Aw _ AT
 obtain⟨G,f,rfl⟩:=B9.mp u;obtain⟨r,q,e⟩:=Wl f<|h.sne G f;exact e▸h.lof.high r (Aw _ q);have E:=Wm (Gs:=C.P) λG f=>List.length_pos_iff.mpr<|h.pne G f;have w:=Wm (Gs:=C.S) λG f=>List.length_pos_iff.mpr<|h.sne G f;rw[A9,A9] at n;exact AO (Nat.add_le_add (AB E<|BA _ A.length)<|AB w<|Nat.le_add_left _ B.length)<|Be n<|nL rfl;refine h.lof.low y ?_;cases hP:A8 C.P with|nil=>exact o|cons p P=>show y∈(P++A)++[x];rw[AD];exact Aw _<|List.mem_of_mem_tail o
def j6:∀(Gs:List Gr)(X:List A6)(x:A6)(Y:List A6),A8 Gs=X++x::Y->∃P g A B S,Gs=P++(g,A++x::B)::S/\X=A8 P++A/\Y=B++A8 S:=by intro Gs;induction Gs with|nil=>intro X x Y e;cases X<;>cases e|cons G Gs q=>
 intro X x Y e;obtain⟨g,R⟩:=G;have h:∀c,X=R++c->A8 Gs=c++x::Y->∃P f A B S,(g,R)::Gs=P++(f,A++x::B)::S/\X=A8 P++A/\Y=B++A8 S:=λc d a=>by obtain⟨P,f,A,B,S,p,o,n⟩:=q c x Y a;exact⟨(g,R)::P,f,A,B,S,by rw[p];rfl,by rw[d,o];exact(AD ..).symm,n⟩
 rcases List.append_eq_append_iff.mp (show R++A8 Gs=X++x::Y from e) with⟨c,d,a⟩|⟨c,d,a⟩;exact h c d a;cases c with|nil=>exact h [] (by rw[d,BJ,BJ]) a.symm|cons r c=>obtain⟨rfl,rfl⟩:=List.cons.inj a;exact⟨[],g,X,c,Gs,by rw[d];rfl,rfl,rfl⟩
def Qg(w:WF N<|.top t Gs)(k:Int):∃C i A x B,Tr.top t Gs=C.tree (A++x::B)/\Here N C k i A x B:=by
 have d:=K3 w.sz;have a:A8 Gs≠[]:=λe=>by
  cases Gs with
  |nil=>cases t with|none=>cases w.sz.n1 rfl|some t=>exact absurd (w.sz.n2 rfl)<|by decide
  |cons G Gs=>exact(w.sz.gr G AT).ne (List.append_eq_nil_iff.mp<|show G.2++A8 Gs=[] from e).1
 obtain⟨X,x,Y,L⟩:=ik k (A8 Gs) a<|im w.ord d;obtain⟨P,g,A,B,S,c,h,f⟩:=j6 Gs X x Y L.eq;refine⟨⟨t,P,g,S⟩,Ba<|A++x::B,A,x,B,by rw[c];rfl,by rw[c] at w;exact w,?_,rfl⟩;show Loc ((A8 P++A)++x::(B++A8 S)) k (A8 P++A) x (B++A8 S);rw[<-h,<-f];exact⟨rfl,L.low,L.high⟩
def Qh(a b:List LR):nmz (a++b)=nmz a++nmz b:=List.flatMap_append
def j7(R:List A6):nmz (R.map lk)=AG R:=by induction R with|nil=>rfl|cons x R a=>exact A3 (x.2.1::·) a
def Hw(R S:List A6):AG (R++S)=AG R++AG S:=AF
def Wn{e:Type}(a b c d:List e):((a++b)++(c++d)).Perm<|(a++c)++(b++d):=by rw[AD,AD,<-AD b,<-AD c];exact List.Perm.append_left _<|List.Perm.append_right _ List.perm_append_comm
def Wo(h:R≠[]):(nmz<|CM b ex R).Perm<|AG R++ex:=by cases R with|nil=>exact absurd rfl h|cons x R=>show(x.2.1::(ex++nmz (R.map lk))).Perm (x.2.1::(AG R++ex));rw[j7];exact List.Perm.cons _ List.perm_append_comm
def j8(h:∀G∈Gs,G.2≠[]):(nmz<|BM Gs).Perm<|AG (A8 Gs)++Ai Gs:=by induction Gs with|nil=>exact .nil|cons G Gs a=>show(nmz<|CM false [G.1] G.2++BM Gs).Perm (AG (G.2++A8 Gs)++([G.1]++Ai Gs));rw[Qh,Hw];exact((Wo<|h G AT).append<|a λG c=>h G<|Ah _ c).trans<|Wn _ _ _ _
def Tr.keys(t:Option Int)(Gs:List Gr):(Tr.top t Gs).pgs.map (·.1)=AG (A8 Gs)++(Ai Gs++t.toList):=by rw[HD,AF,AF];unfold AV Cg AG Ai;rw[Am,Am,Am];exact A3 (λl=>_++(_++l))<|List.map_id' _
def Nm(a:Gs≠[])(h:∀G∈Gs,G.2≠[]):(nmz (Tr.top t Gs).flat).Perm<|(Tr.top t Gs).pgs.map (·.1):=by rw[Tr.keys];cases Gs with|nil=>exact absurd rfl a|cons G Gs=>show(nmz<|CM true (G.1::t.toList) G.2++BM Gs).Perm (AG (G.2++A8 Gs)++(G.1::(Ai Gs++t.toList)));rw[Qh,Hw];refine((Wo<|h G AT).append<|j8 λG c=>h G<|Ah _ c).trans<|(Wn _ _ _ _).trans<|List.Perm.append_left _ ?_;exact List.Perm.cons _ List.perm_append_comm
theorem Here.nmz(h:Here N C k i A x B):(Mine.U.nmz (C.tree<|A++x::B).flat).Perm<|(C.tree<|A++x::B).pgs.map (·.1):=Nm (λe=>by exact DW<|(List.append_eq_nil_iff.mp e).2) λG a=>(h.sz.gr G a).ne
def Qi{Gs:List Gr}:(∀G∈Gs,3<=G.2.length)->3*Gs.length<=(A8 Gs).length:=by induction Gs with|nil=>exact λ_=>Au _|cons G Gs a=>intro h;show 3*(Gs.length+1)<=(G.2++A8 Gs).length;rw[A9,Nat.mul_succ,C7];exact Nat.add_le_add (h G AT)<|a λG c=>h G<|Ah _ c
def Here.n4(h:Here N C k i A x B):C.P.length+C.S.length+1<=4:=by cases ht:C.t with|none=>have:=(h.ctx).ok ht;rw[this.1,this.2];exact nL rfl|some t=>have:=Qi λG a=>(h.sz.gr G a).lo3 (by rw[ht];rfl);rw[D8,A9 (as:=C.P)] at this;exact Nat.le_of_mul_le_mul_left (c:=3) (b:=4) (AB this h.m12)<|nL rfl
def Here.n17(h:Here N C k i A x B):(C.tree<|A++x::B).pgs.length<=17:=by
 have a:=h.n4;rw[<-A4 (f:=(·.1)),show((C.tree<|A++x::B).pgs.map (·.1))=_ from Tr.keys ..,D8,A9,A9];unfold AG Ai;rw[A4,A4,A9 (as:=C.P)];have:C.t.toList.length<=1:=by cases C.t<;>exact nL rfl
 exact Nat.add_le_add h.m12<|Nat.add_le_add a this
end
inductive PutOk(N:Int)(T:Tr)(k:Int)(v:Str):Prop where
 |mk (T':Tr):WF N T'->To3 DX 150 [.d (AI T.flat),.d (.key k),.d (.str v)] T'.flat->Gn T.pd k v T'.pd->PutOk N T k v
section
variable{N:Int}{T:Tr}{C:Ctx}{R f A B:List A6}{x y:A6}{k d:Int}{v:Str}{P S E:List Gr}{t:Option Int}{g:Int}{b:Bool}{ex:List Int}{l:List (Int×Str)}{m u j:Nat}{a c e:Int×Str}{ps:List (Int×Str)}
def Here.wf'(h:Here N C k d A x B)(n:NK N<|(C.tree f).pgs.map (·.1))(r:GSz C.t f)(i:Ord<|A8 C.P++(f++A8 C.S))(o:∀p∈fl (A8 C.P++(f++A8 C.S)),0<=p.1/\p.1<24):WF N<|C.tree f:=by have s:=h.sz;refine⟨n,⟨λG w=>(BE.mp w).elim (λq=>s.gr G<|BC _ q) λq=>(An.mp q).elim (λe=>e▸r) λq=>s.gr G<|Aw _<|Ah _ q,λe=>?_,λe=>?_⟩,C.rows f▸i,C.rows f▸o⟩;have:=s.n1 e;rw[A9] at this ⊢;exact this;have:=s.n2 e;rw[A9] at this ⊢;exact this
def Hx(A:List A6)(x:A6)(l:List<|Int×Str)(B h:List A6):Ba (A++Ab x l::B)=Ba (A++x::h):=by cases A<;>rfl
def HI(C:Ctx)(R:List A6):(C.tree R).pgs.map (·.1)=(AG (A8 C.P)++(AG R++AG (A8 C.S)))++(Ai C.P++C.g::Ai C.S++C.t.toList):=by rw[show(C.tree R).pgs.map (·.1)=_ from Tr.keys ..,D8,Hw,Hw,HF]
def j9(C:Ctx)(A:List A6)(x:A6)(l:List<|Int×Str)(B:List A6):(C.tree<|A++Ab x l::B).pgs.map (·.1)=(C.tree<|A++x::B).pgs.map (·.1):=by rw[HI,HI,QG]
def E0(A:List A6)(x:A6)(B:List A6):A8 P++((A++x::B)++A8 S)=(A8 P++A)++x::(B++A8 S):=by rw[AD,AD];rfl
def Here.set(h:Here N C k d A x B)(r:∀p∈l,p.1=k->0<=p.1/\p.1<24)(s:Asc l)(q:∀p∈l,p.1=k\/p∈x.2.2):Ord ((A8 C.P++A)++Ab x l::(B++A8 C.S))/\∀p∈fl ((A8 C.P++A)++Ab x l::(B++A8 C.S)),0<=p.1/\p.1<24:=by
 refine⟨ii h.ord s q (λo=>?_) h.lof.high,λp i=>?_⟩;refine h.lof.low x ?_;cases hA:A8 C.P++A with|nil=>exact absurd hA o|cons z Z=>exact Aw _ AT
 have n:=h.wf.key;rw[C.rows,E0,FC] at n;rw[FC] at i;refine(BE.mp i).elim (λi=>n p<|BC _ i) λi=>(BE.mp i).elim (λi=>(q p i).elim (r p i) λi=>n p<|Aw _<|BC _ i) λi=>n p<|Aw _<|Aw _ i
def Wp(h:Rows<|A++x::B)(o:2<=l.length)(n:l.length<=4):Rows<|A++Ab x l::B:=λr i=>(BE.mp i).elim (λi=>h r<|BC _ i) λi=>(An.mp i).elim (λe=>e▸⟨o,n⟩) λi=>h r<|Aw _<|Ah _ i
def Here.fit(h:Here N C k d A x B)(n:0<=k/\k<24)(o:Asc l)(i:∀p∈l,p.1=k\/p∈x.2.2)(w:2<=l.length)(r:l.length<=4):WF N<|C.tree<|A++Ab x l::B:=by
 have s:=h.set (λp _ e=>e▸n) o i;have g:=h.gsz;have L:(A++Ab x l::B).length=(A++x::B).length:=by rw[A9,A9];rfl
 exact h.wf' (j9 C A x l B▸h.wf.nk) ⟨L▸g.lo,λq=>L▸g.lo3 q,L▸g.hi,Wp g.rows w r⟩ (E0 ..▸s.1)<|E0 ..▸s.2
def Lb(o:C.Ok)(h:∀G∈C.P,G.2≠[])(i:R≠[]):∃y n,(C.tree R).flat=y::n/\y.2.1.length=2+C.t.toList.length:=by
 obtain⟨t,P,g,S⟩:=C;cases P with
 |nil=>cases R with|nil=>exact absurd rfl i|cons x R=>exact⟨_,_,rfl,by show(t.toList.length+1+1)=_;rw[C7 2]⟩
 |cons p P=>obtain⟨q,f⟩:=p;cases f with|nil=>exact absurd rfl (h _ AT)|cons x f=>exact⟨_,_,rfl,by show(t.toList.length+1+1)=_;rw[C7 2]⟩
def Here.pre_len(h:Here N C k d A x B):(C.U++C.rw A).length=C.U.length+A.length:=by unfold Ctx.rw;rw[A9,Ir]
def Nn(C:Ctx)(R:List A6):(C.tree R).flat.length=(A8 C.P++(R++A8 C.S)).length:=by rw[C.flat,A9,A9,A9,A9];unfold Ctx.U Ctx.rw Ctx.W;rw[Iu,Ir,Qf]
def Here.np(h:Here N C k d A x B):NewP k v (C.lr A x).2.2<|C5 k v x.2.2:=by unfold Ctx.lr;rw[Qc];exact .of h.asc<|AO h.row.2<|nL rfl
def jA(h:Here N C k d A x B)(q:0<=k/\k<24)(i:(C5 k v x.2.2).length<=4):PutOk N (C.tree<|A++x::B) k v:=by have o:=h.ctx;have r:2<=(C5 k v x.2.2).length:=AB h.row.1 ir;have w:=h.fit q (Nl h.asc) (λp n=>QZ (v:=v) n) r i;refine⟨_,w,.fr<|Cl.u (K:=100) ?_ rfl,Ctx.put o.ok h.wf.nod h.wf.dm h.hsp ((Hx ..).trans h.hsp) o.at_ λH=>hW H (C.pgs h.hsp▸h.wf.nod) o.loc o.len o.nx (AO h.row.2<|nL rfl) i⟩;rw[C.flat_mid,C.flat_set];exact Vp h.locL h.np<|D0 i
def Wq{l:List (Int×Str)}(h:4<l.length)(n:l.length<=5):∃a b e ps,l=a::b::e::ps/\1<ps.length/\ps.length<=3/\(e::ps).length<=4:=by cases l with|nil=>exact absurd h (by decide)|cons a l=>cases l with|nil=>exact absurd h (by decide:¬4<1)|cons b l=>cases l with|nil=>exact absurd h (by decide:¬4<2)|cons e ps=>have o:1<ps.length:=Nat.lt_of_succ_lt_succ<|Nat.lt_of_succ_lt_succ<|Nat.lt_of_succ_lt_succ h;have i:ps.length<=2:=Nat.le_of_succ_le_succ<|Nat.le_of_succ_le_succ<|Nat.le_of_succ_le_succ n;exact⟨a,b,e,ps,rfl,o,Nat.le_succ_of_le i,CV<|Nat.le_succ_of_le i⟩
def Wt(C:Ctx):((C.tree<|Bb A x a c e ps m B).pgs.map (·.1)).Perm<|(m:Int)::(C.tree<|A++x::B).pgs.map (·.1):=by rw[HI,HI,QI,GN];generalize Ai C.P++C.g::Ai C.S++C.t.toList=K;rw[show(AG (A8 C.P)++(AG A++x.2.1::(m:Int)::AG B++AG (A8 C.S)))++K=(AG (A8 C.P)++(AG A++[x.2.1]))++(m:Int)::(AG B++(AG (A8 C.S)++K)) from by simp only [AD,List.cons_append,List.nil_append],show(AG (A8 C.P)++(AG A++x.2.1::AG B++AG (A8 C.S)))++K=(AG (A8 C.P)++(AG A++[x.2.1]))++(AG B++(AG (A8 C.S)++K)) from by simp only [AD,List.cons_append,List.nil_append]];exact List.perm_middle
structure Spl(N:Int)(C:Ctx)(k d:Int)(v:Str)(A:List A6)(x:A6)(B:List A6)(a c e:Int×Str)(ps:List (Int×Str))(m:Nat):Prop extends Here N C k d A x B where
 hk:0<=k/\k<24
 eq:C5 k v x.2.2=a::c::e::ps
 lo:1<ps.length
 hi:(e::ps).length<=4
 fr:Free ((C.tree (A++x::B)).pgs.map (·.1)) m
 big:18<=N
theorem Spl.nk(h:Spl N C k d v A x B a c e ps m):NK N<|(C.tree<|Bb A x a c e ps m B).pgs.map (·.1):=(h.wf.nk.cons h.fr (by rw[A4];exact h.toHere.n17) h.big).perm<|Wt C
def Spl.ord(h:Spl N C k d v A x B a c e ps m):Ord (A8 C.P++(Bb A x a c e ps m B++A8 C.S))/\(∀p∈fl (A8 C.P++(Bb A x a c e ps m B++A8 C.S)),0<=p.1/\p.1<24)/\Rows (Bb A x a c e ps m B):=by
 have s:=h.toHere.set (l:=C5 k v x.2.2) (λp _ e=>e▸h.hk) (Nl h.toHere.asc) λp o=>QZ o;have w:fl (A8 C.P++(Bb A x a c e ps m B++A8 C.S))=fl ((A8 C.P++A)++Ab x (C5 k v x.2.2)::(B++A8 C.S)):=by unfold Bb;rw[E0,FC,FC,h.eq];rfl
 refine⟨?_,w▸s.2,λr i=>?_⟩;have:=QW (P:=[a,c]) (e:=e) (Q:=ps) (m:=m) s.1 h.eq;unfold Bb;rw[E0];exact this;have n:=h.toHere.gsz.rows;exact(BE.mp i).elim (λi=>n r<|BC _ i) λi=>(An.mp i).elim (λe=>e▸⟨(by decide:2<=2),(by decide:2<=4)⟩) λi=>(An.mp i).elim (λq=>q▸⟨CV<|BS h.lo,h.hi⟩) λi=>n r<|Aw _<|Ah _ i
theorem Spl.flat(h:Spl N C k d v A x B a c e ps m):LP (C.U++C.rw A) (C.lr A x) a c e ps m (B.map lk++C.W)=(C.tree<|Bb A x a c e ps m B).flat:=by unfold LP Bb;rw[C.flat_set];rfl
theorem Spl.nmz(h:Spl N C k d v A x B a c e ps m):(Mine.U.nmz (C.tree<|Bb A x a c e ps m B).flat).Perm<|(C.tree<|Bb A x a c e ps m B).pgs.map (·.1):=Nm (λe=>by exact DW<|(List.append_eq_nil_iff.mp e).2) λG i=>(BE.mp i).elim (h.toHere.pne G) λi=>(An.mp i).elim (λe=>e▸λe=>by exact DW<|(List.append_eq_nil_iff.mp e).2)<|h.toHere.sne G
def Spl.law(h:Spl N C k d v A x B a c e ps m){r:Mine.R}(o:B3 gl DX 70 6 (Hq (C.tree<|Bb A x a c e ps m B).flat k v (C.U.length+A.length) (C.lr A x).1 (C.lr A x).2.1 (a::c::e::ps)<|.lst [AP ((C.lr A x).1,(C.lr A x).2.1,[a,c]),AP (some e.1,[(m:Int)],e::ps)]) [] r):Cl gl DX 150 [.d<|AI (C.tree<|A++x::B).flat,.d<|.key k,.d<|.str v] [] r []:=by have n:=h.toHere.nmz;have i:=n.length_eq;rw[A4] at i;rw[<-h.flat,<-h.toHere.pre_len] at o;rw[C.flat_mid] at n i ⊢;exact Cl.u (Vq (K:=10) h.toHere.locL (h.eq▸h.toHere.np) h.lo (h.fr.perm λq=>n.mem_iff.symm) (by rw[i];exact AO h.toHere.n17<|nL rfl) o) rfl
end
section
variable{N:Int}{T:Tr}{C:Ctx}{R Q A B:List A6}{x y:A6}{k M:Int}{v:Str}{P S Z:List Gr}{t:Option Int}{g O:Int}{l:List (Int×Str)}{m K Y:Nat}{a c e:Int×Str}{ps:List (Int×Str)}{E J I w p j:A6}
def Hy{d:Type}{l:List d}{n:Nat}(h:l.length=n+1):∃a m,l=a::m/\m.length=n:=by cases l with|nil=>exact absurd h (Nat.ne_of_beq_eq_false rfl)|cons a m=>exact⟨a,m,rfl,Nat.succ.inj h⟩
def six{i:Type}{l:List i}(h:l.length=6):∃a b c d e f,l=[a,b,c,d,e,f]:=by obtain⟨a,l1,rfl,z⟩:=Hy h;obtain⟨b,X,rfl,u⟩:=Hy z;obtain⟨c,L,rfl,s⟩:=Hy u;obtain⟨d,H,rfl,r⟩:=Hy s;obtain⟨e,G,rfl,q⟩:=Hy r;obtain⟨f,n,rfl,o⟩:=Hy q;cases n with|nil=>exact⟨a,b,c,d,e,f,rfl⟩|cons=>exact absurd o<|Nat.ne_of_beq_eq_false rfl
def Ctx.flat_cons(C:Ctx)(y:A6)(R:List A6):(C.tree<|y::R).flat=C.U++C.lr [] y::(R.map lk++C.W):=C.flat<|y::R
def Spl.least(h:Spl N C k M v A x B a c e ps m):Least (pf<|GL (AV<|A8 C.P) (A++x::B) C.M C.g<|C.Q M) m:=by have q:=LV h.fr<|AB h.toHere.n17<|nL rfl;rw[C.pgs h.hsp] at q;exact q
def Spl.flen(h:Spl N C k M v A x B a c e ps m):(C.tree<|Bb A x a c e ps m B).flat.length<80:=by rw[Nn];unfold Bb;rw[Qe];exact AO (CV h.toHere.n12)<|nL rfl
def No:(Bb A x a c e ps m B).length=(A++x::B).length+1:=by rw[WH,A9];rfl
def jB(h:Spl N C k M v A x B a c e ps m)(d:(A++x::B).length<5):PutOk N (C.tree<|A++x::B) k v:=by have o:=h.toHere.ctx;have q:=h.ord;have g:=h.toHere.gsz;have L:=No (A:=A) (x:=x) (a:=a) (c:=c) (e:=e) (ps:=ps) (m:=m) (B:=B);refine⟨C.tree<|Bb A x a c e ps m B,h.toHere.wf' h.nk ⟨L▸Nat.le_succ_of_le g.lo,λz=>L▸Nat.le_succ_of_le (g.lo3 z),L▸d,q.2.2⟩ q.1 q.2.1,.vl<|h.law ?_,Ctx.put o.ok h.wf.nod h.wf.dm h.hsp ((Hx ..).trans h.hsp) o.at_ λH=>hZ H (C.pgs h.hsp▸h.wf.nod) o.loc d o.nx (AO h.toHere.row.2<|nL rfl) h.eq h.lo h.least⟩;have fl:=h.flen;obtain⟨s,u,i,n⟩:=Lb (R:=Bb A x a c e ps m B) o.ok h.toHere.pne (λe=>by exact DW<|(List.append_eq_nil_iff.mp e).2);obtain⟨y,Q,r,f⟩:=Hy L;rw[r,C.flat_cons] at fl i ⊢;refine gH (C.seg y Q h.toHere.sne) ?_ (AM fl<|nL rfl) i (by rw[n];exact λq=>by rw[C7] at q;exact absurd q<|Nat.ne_of_beq_eq_false rfl) (by rw[A4,f];exact Nat.ne_of_lt d);rw[A4,f,A9];exact BA _ _
structure Spl6(N:Int)(C:Ctx)(k M:Int)(v:Str)(A:List A6)(x:A6)(B:List A6)(a c e:Int×Str)(ps:List (Int×Str))(m:Nat)(E J I w p j:A6)(K:Nat):Prop extends Spl N C k M v A x B a c e ps m where
 six:Bb A x a c e ps m B=[E,J,I,w,p,j]
 fr2:Free ((C.tree [E,J,I,w,p,j]).pgs.map (·.1)) K
def Spl6.j5(h:Spl6 N C k M v A x B a c e ps m E J I w p j K):A.length<=5:=by have:=A3 List.length h.six;rw[WH] at this;exact AB (BA _ B.length)<|AB (BB<|Nat.succ.inj<|Nat.succ.inj this)<|nL rfl
def Spl6.n16(h:Spl6 N C k M v A x B a c e ps m E J I w p j K):(C.tree<|A++x::B).pgs.length<=16:=by have q:=h.ord;have g:=h.toHere.gsz;have n:=A3 List.length h.six;rw[No] at n;have n:(A++x::B).length+1=6:=n;have s:=h.toHere.sz;have z:Rows<|A8 C.P++(Bb A x a c e ps m B++A8 C.S):=λr i=>(BE.mp i).elim (λi=>K3 s r<|by rw[D8];exact BC _ i) λi=>(BE.mp i).elim (q.2.2 r) λi=>K3 s r (by rw[D8];exact Aw _<|Aw _ i);have d:=Nj q.1 z q.2.1;rw[A9,A9,No] at d;rw[<-A4 (f:=(·.1)),HI];unfold AG Ai;rw[A9,A9,A9,A9,A9,CK,A4,A4,A4,A4,A4];cases ht:C.t with|none=>have:=(h.toHere.ctx).ok ht;rw[this.1,this.2] at d ⊢;show 0+((A++x::B).length+0)+(0+(0+1)+0)<=16;rw[Nat.succ.inj n];exact nL rfl|some t=>have X:=Qi λG o=>(s.gr G<|BC _ o).lo3 (by rw[ht];rfl);have L:=Qi λG o=>(s.gr G<|Aw _<|Ah _ o).lo3 (by rw[ht];rfl);rw[Nat.succ.inj n] at d;have u:(A8 C.P).length+(A8 C.S).length<=6:=Nat.le_of_add_le_add_left (a:=6) (by rw[Nat.add_left_comm];exact d);have H:C.P.length+C.S.length<=2:=Nat.le_of_mul_le_mul_left (c:=3) (b:=2) (AB (by rw[Nat.mul_add];exact Nat.add_le_add X L) u)<|nL rfl;show(A8 C.P).length+((A++x::B).length+(A8 C.S).length)+(C.P.length+(C.S.length+1)+1)<=16;rw[Nat.succ.inj n,Nat.add_left_comm (A8 C.P).length 5];exact AB (Nat.add_le_add (BW u 5)<|Ds H 2) (nL rfl:5+6+(2+2)<=16)
def Spl6.len18(h:Spl6 N C k M v A x B a c e ps m E J I w p j K):(C.tree [E,J,I,w,p,j]).pgs.length<=17:=by have:=(Wt (A:=A) (x:=x) (a:=a) (c:=c) (e:=e) (ps:=ps) (m:=m) (B:=B) C).length_eq;rw[h.six,A4,CK,A4] at this;rw[this];exact CV h.n16
def Spl6.two(h:Spl6 N C k M v A x B a c e ps m E J I w p j K){σ:List Cell}{s d:Nat}{r:Int}{pl:Int->BH}(H:HT σ s d r pl<|pf<|GL (AV<|A8 C.P) (A++x::B) C.M C.g<|C.Q M):PutR 50 σ s d r pl (pf<|GL (AV<|A8 C.P) (A++x::B) C.M C.g<|C.Q M) C.g k v (.tup [.key<|Ba [w,p,j],.int K])<|pf<|AV (A8 C.P)++(AV ([E,J,I]++[w,p,j])++(C.M++BL C.g [E,J,I]::BL K [w,p,j]::C.Q M)):=by have o:=h.toHere.ctx;have hs:Ba [E,J,I,w,p,j]=M:=h.six▸(Hx ..).trans h.hsp;have i:=h.fr2;have f:=h.len18;rw[C.pgs hs] at i f;exact i0 H (C.pgs h.hsp▸h.wf.nod) o.loc o.len o.nx (AO h.toHere.row.2<|nL rfl) h.eq h.lo h.least h.six i<|AB f<|nL rfl
def Spl6.hs1(h:Spl6 N C k M v A x B a c e ps m E J I w p j K):Ba [E,J,I]=M:=(h.six▸(Hx ..).trans h.hsp:Ba [E,J,I,w,p,j]=M)
def jC(t:Option Int)(P:List Gr)(g:Int)(f d:List A6)(S:List Gr):((Tr.top t<|P++(g,f)::((K:Int),d)::S).pgs.map (·.1)).Perm<|(K:Int)::(Ctx.tree ⟨t,P,g,S⟩<|f++d).pgs.map (·.1):=by rw[Tr.keys,HI,D8,show A8 (((K:Int),d)::S)=d++A8 S from rfl,HF,show Ai (((K:Int),d)::S)=(K:Int)::Ai S from rfl,Hw,Hw,Hw,Hw];show((AG (A8 P)++(AG f++(AG d++AG (A8 S))))++((Ai P++g::(K:Int)::Ai S)++t.toList)).Perm ((K:Int)::((AG (A8 P)++((AG f++AG d)++AG (A8 S)))++((Ai P++g::Ai S)++t.toList)));generalize h:AG (A8 P)++(AG f++(AG d++AG (A8 S)))=X;rw[show AG (A8 P)++((AG f++AG d)++AG (A8 S))=X from by rw[<-h,AD<|AG f],show X++((Ai P++g::(K:Int)::Ai S)++t.toList)=(X++(Ai P++[g]))++(K:Int)::(Ai S++t.toList) from by simp only [AD,List.cons_append,List.nil_append],show X++((Ai P++g::Ai S)++t.toList)=(X++(Ai P++[g]))++(Ai S++t.toList) from by simp only [AD,List.cons_append,List.nil_append]];exact List.perm_middle
def Spl6.nk2(h:Spl6 N C k M v A x B a c e ps m E J I w p j K):NK N<|(Tr.top C.t<|C.P++(C.g,[E,J,I])::((K:Int),[w,p,j])::C.S).pgs.map (·.1):=by have n:=h.nk;rw[h.six] at n;exact(n.cons h.fr2 (by rw[A4];exact h.len18) h.big).perm<|jC ..
def Np{R1 R2:List A6}(h:Rows<|R1++R2):Rows R1/\Rows R2:=⟨λr d=>h r<|BC _ d,λr d=>h r<|Aw _ d⟩
theorem Spl6.seg(h:Spl6 N C k M v A x B a c e ps m E J I w p j K):Seg C.U (C.lr [] E) [lk J,lk I,lk w,lk p,lk j] C.W:=C.seg E [J,I,w,p,j] h.toHere.sne
theorem Spl6.flat(h:Spl6 N C k M v A x B a c e ps m E J I w p j K):(C.tree<|Bb A x a c e ps m B).flat=C.U++C.lr [] E::([lk J,lk I,lk w,lk p,lk j]++C.W):=by rw[h.six];exact C.flat_cons E _
def jD(h:Spl6 N C k M v A x B a c e ps m E J I w p j K)(d:C.t=some O):PutOk N (C.tree<|A++x::B) k v:=by
 have o:=h.toHere.ctx;have q:=h.ord;have L:=q.2.2;rw[h.six] at q L;have X:=Np (R1:=[E,J,I]) (R2:=[w,p,j]) L;have s:=h.toHere.sz;have nk:=h.nk2;have er:(Tr.top C.t<|C.P++(C.g,[E,J,I])::((K:Int),[w,p,j])::C.S).rows=A8 C.P++([E,J,I,w,p,j]++A8 C.S):=D8 ..;have gz:∀{R:List A6},Rows R->R.length=3->GSz C.t R:=λhr r=>⟨by rw[r];exact nL rfl,λ_=>BB r.symm,by rw[r];exact nL rfl,hr⟩;refine⟨_,⟨nk,⟨λG hG=>(BE.mp hG).elim (λz=>s.gr G<|BC _ z) λz=>(An.mp z).elim (λe=>e▸gz X.1 rfl) λz=>(An.mp z).elim (λe=>e▸gz X.2 rfl) λz=>s.gr G<|Aw _<|Ah _ z,λz=>(by rw[d] at z;exact FO z),λ_=>by rw[A9];exact AB (Nat.le_add_left 2 C.S.length)<|Nat.le_add_left _ _⟩,er▸q.1,er▸q.2.1⟩,.vl<|h.law ?_,Ctx.split o.ok d h.wf.dm h.hsp h.hs1 o.at_ h.toHere.n4 (C.pgs h.hsp▸h.wf.nod) ?_ λH=>h.two H⟩;have fl:=h.flen;obtain⟨y0,R2,e0,l0⟩:=Lb (R:=Bb A x a c e ps m B) o.ok h.toHere.pne (λe=>by exact DW<|(List.append_eq_nil_iff.mp e).2);obtain⟨y1,R3,e1,l1⟩:=Lb (C:=⟨C.t,C.P,C.g,((K:Int),[w,p,j])::C.S⟩) (R:=[E,J,I]) (λz=>by rw[show C.t=.none from z] at d;exact Ae d) h.toHere.pne (λe=>by exact DW e);have n:=h.nmz;have nl:=n.length_eq;rw[A4] at nl;have f:=h.len18;rw[<-h.six,<-nl] at f;have f2:=h.fr2;rw[<-h.six] at f2;rw[h.flat] at fl e0 n f ⊢;have i:=e1;rw[Ctx.flat] at i;rw[show(Tr.top C.t<|C.P++(C.g,[E,J,I])::((K:Int),[w,p,j])::C.S).flat=y1::R3 from e1];exact gI h.seg h.j5 fl e0 (by rw[l0,d];exact λq=>by exact absurd q<|Nat.ne_of_beq_eq_false rfl) (f2.perm λq=>n.mem_iff.symm) (AO f<|nL rfl) i (by rw[l1];show 2+C.t.toList.length≠2;rw[d];exact λq=>by exact absurd q<|Nat.ne_of_beq_eq_false rfl);have:=nk.nod;have e:Nd (Tr.top C.t<|C.P++(C.g,[E,J,I])::((K:Int),[w,p,j])::C.S).pgs:=this;unfold Nd at e ⊢;rw[C.pgs2 h.hs1,d] at e;unfold Ctx.Q;rw[d];have e':∀u:Pag,AV (A8 C.P)++(AV ([E,J,I]++[w,p,j])++(C.M++BL C.g [E,J,I]::BL K [w,p,j]::(Cg C.S++[(O,u)])))=(AV (A8 C.P)++(AV ([E,J,I]++[w,p,j])++(C.M++BL C.g [E,J,I]::BL K [w,p,j]::Cg C.S)))++(O,u)::[]:=λu=>by simp only [AD,List.cons_append]
 exact(A3 (λl=>(List.map (·.1) l).Nodup)<|e' _).mpr<|(A3 List.Nodup<|QJ _ O _ (AU (C.rk M++Ba [w,p,j]::C.S.map hs)<|Ai C.P++C.g::K::Ai C.S) []).mpr e
end
section
variable{N:Int}{T:Tr}{C:Ctx}{R O A B:List A6}{x y:A6}{k J:Int}{v:Str}{P S Gs:List Gr}{t:Option Int}{g M:Int}{l:List (Int×Str)}{m i L:Nat}{a c e:Int×Str}{f:List (Int×Str)}{I E z u n j:A6}
def jE(h:Spl6 N C k J v A x B a c e f m I E z u n j i)(ht:C.t=.none):PutOk N (C.tree<|A++x::B) k v:=by
 have o:=h.toHere.ctx;have q:=h.ord;have X:=q.2.2;rw[h.six] at q X;have Y:=Np (R1:=[I,E,z]) (R2:=[u,n,j]) X;have nk:=h.nk2;have j5:=h.j5;have fl:=h.flen;have Z:=h.nmz;have f2:=h.fr2;have sg:=h.seg;have fe:=h.flat;have w:=λr=>h.law (r:=r);have two:=λ{σ s d r pl} H=>h.two (σ:=σ) (s:=s) (d:=d) (r:=r) (pl:=pl) H;obtain⟨t,P,g,S⟩:=C;subst ht;obtain⟨rfl,rfl⟩:=o.ok rfl;obtain⟨L,Q⟩:=free_ex<|(Tr.top .none [(g,[I,E,z]),((i:Int),[u,n,j])]).pgs.map (·.1);have gz:∀{R:List A6},Rows R->R.length=3->GSz (some (L:Int)) R:=λhr K=>⟨by rw[K];exact nL rfl,λ_=>BB K.symm,by rw[K];exact nL rfl,hr⟩;rw[<-h.six] at f2;rw[fe] at fl Z w;refine⟨.top (some (L:Int)) [(g,[I,E,z]),((i:Int),[u,n,j])],⟨(nk.cons Q (by exact nL rfl) h.big).perm<|List.perm_append_singleton (L:Int) [I.2.1,E.2.1,z.2.1,u.2.1,n.2.1,j.2.1,g,(i:Int)],⟨λG p=>(An.mp p).elim (λe=>e▸gz Y.1 rfl) λp=>(Ao.mp p)▸gz Y.2 rfl,(nomatch ·),λ_=>Au 2⟩,q.1,q.2.1⟩,.vl<|w _ ?_,Ctx.grow o.ok rfl h.wf.dm h.hsp (LV Q<|by exact nL rfl) λH=>two H⟩;have n3:=Nm (t:=.none) (Gs:=[(g,[I,E,z]),((i:Int),[u,n,j])]) (by intro e;exact DW e) λG p=>(An.mp p).elim (λe=>e▸λe=>by exact DW e) λp=>(Ao.mp p)▸λe=>by exact DW e
 exact gJ sg j5 fl rfl (by intro e;exact absurd e<|Nat.ne_of_beq_eq_false rfl) (f2.perm λq=>Z.mem_iff.symm) (by exact nL rfl) (x:=lh .none [g] I) (S:=[lk E,lk z,Ie (lk u) i,lk n,lk j]) rfl rfl (Q.perm λq=>n3.mem_iff.symm) (by exact nL rfl)<|by exact nL rfl
def jF(h:Here N C k J A x B)(p:0<=k/\k<24)(G:18<=N):PutOk N (C.tree<|A++x::B) k v:=by by_cases q:(C5 k v x.2.2).length<=4;exact jA h p q;obtain⟨a,b,e,f,H,w,Y,r⟩:=Wq (Nat.not_le.mp q)<|AB Wk<|CV h.row.2;obtain⟨m,Q⟩:=free_ex<|(C.tree<|A++x::B).pgs.map (·.1);have s:Spl N C k J v A x B a b e f m:=⟨h,p,H,w,r,Q,G⟩;by_cases d:(A++x::B).length<5;exact jB s d;have d:(A++x::B).length=5:=Nat.le_antisymm h.gsz.hi<|Nat.not_lt.mp d;obtain⟨I,E,z,u,n,j,X⟩:=six<|No.trans<|A3 (·+1) d;obtain⟨i,K⟩:=free_ex<|(C.tree [I,E,z,u,n,j]).pgs.map (·.1);have o:Spl6 N C k J v A x B a b e f m I E z u n j i:=⟨s,X,K⟩;cases ht:C.t with|none=>exact jE o ht|some t=>exact jD o ht
def Ord.one(h:Asc x.2.2):Ord [x]:=⟨λr d=>Ao.mp d▸h,List.pairwise_singleton _ _⟩
def Qj(x:LR):LocL k [] x []:=⟨λ_ h=>absurd h Ax,λ_ h=>absurd h Ax,nL rfl⟩
def jG(q:0<=k/\k<24)(h:∀p∈fl (A++x::B),0<=p.1/\p.1<24)(o:∀p∈l,p.1=k\/p∈x.2.2):∀p∈fl (A++Ab x l::B),0<=p.1/\p.1<24:=by rw[FC] at h ⊢;intro p d;rcases BE.mp d with d|d;exact h p<|BC _ d;rcases BE.mp d with d|d;exact(o p d).elim (λe=>e▸q) λd=>h p<|Aw _<|BC _ d;exact h p<|Aw _<|Aw _ d
def Wu(w:WF N<|.one x)(h:Asc l)(o:l.length<=4)(d:∀p∈fl [Ab x l],0<=p.1/\p.1<24):WF N<|.one<|Ab x l:=⟨w.nk,o,.one h,d⟩
def jH(w:WF N<|.one x)(hk:0<=k/\k<24)(hN:18<=N):PutOk N (Tr.one x) k v:=by
 have d:Asc x.2.2:=w.ord.asc x AT;have Z:x.2.1∈B7:=w.dm _ AT;have Y:x.2.2.length<60:=AO w.sz<|nL rfl;have np:NewP k v (lh .none [] x).2.2<|C5 k v x.2.2:=.of d<|AO w.sz<|nL rfl;have k1:∀p∈fl ([]++Ab x (C5 k v x.2.2)::[]),0<=p.1/\p.1<24:=jG (A:=[]) (B:=[]) hk w.key λp hp=>QZ hp;by_cases o:(C5 k v x.2.2).length<=4;exact⟨.one<|Ab x<|C5 k v x.2.2,Wu w (Nl d) o k1,.fr<|Cl.u (K:=100) (Vp (A:=[]) (B:=[]) (x:=lh .none [] x) (Qj _) np<|D0 o) rfl,iu Z (Cf d) Y o⟩;obtain⟨a,b,e,f,h,q,q2,q3⟩:=Wq (Nat.not_le.mp o)<|AB Wk<|CV w.sz;obtain⟨m,X⟩:=free_ex [x.2.1];obtain⟨i,H⟩:=free_ex<|AG<|Bb [] x a b e f m [];have n1:NK N [(m:Int),x.2.1]:=w.nk.cons X (by exact nL rfl) hN;have n2:NK N [x.2.1,(m:Int),(i:Int)]:=NK.perm ((n1.perm<|.swap _ _ _).cons (l:=AG<|Bb [] x a b e f m []) H (by exact nL rfl) hN)<|List.perm_append_singleton _ [x.2.1,(m:Int)];have o1:Ord<|[]++Ab x (C5 k v x.2.2)::[]:=.one<|Nl d;have o2:=QW (P:=[a,b]) (e:=e) (Q:=f) (m:=m) o1 h;have ef:fl (Bb [] x a b e f m [])=fl ([]++Ab x (C5 k v x.2.2)::[]):=by show fl ([]++Ab x [a,b]::(e.1,(m:Int),e::f)::[])=_;rw[FC,FC,show(Ab x<|C5 k v x.2.2).2.2=a::b::e::f from h];rfl
 refine⟨.top .none [((i:Int),Bb [] x a b e f m [])],⟨n2,⟨λG hG=>Ao.mp hG▸⟨(by decide:2<=2),(nomatch ·),(by decide:2<=5),λr s=>(An.mp s).elim (λe=>e▸⟨(by decide:2<=2),(by decide:2<=4)⟩) λs=>(Ao.mp s)▸⟨CV<|BS q,q3⟩⟩,λ_=>rfl,(nomatch ·)⟩,o2,ef▸k1⟩,.fr ?_,iv Z (Cf d) Y h q X H⟩;exact Cl.u (Vq (K:=10) (A:=[]) (B:=[]) (x:=lh .none [] x) (Qj _) (h▸np) q X (nL rfl)<|gG rfl H (by exact nL rfl)<|by exact nL rfl) rfl
def Wv(w:WF N T)(d:0<=k/\k<24)(o:18<=N):PutOk N T k v:=by cases T with|one x=>exact jH w d o|top t Gs=>obtain⟨C,J,A,x,B,e,h⟩:=Qg w k;exact e▸jF h d o
end
inductive RemOk(N:Int)(T:Tr)(k:Int):Prop where
 |mk (T':Tr):WF N T'->To3 BF 200 [.d (AI T.flat),.d (.key k)] T'.flat->EQ T.pd k T'.pd->RemOk N T k
section
variable{N:Int}{T:Tr}{C:Ctx}{R H A B F G:List A6}{x y a b:A6}{k E g t:Int}{P S d:List Gr}{l b1 b2 f v:List (Int×Str)}{p:Int×Str}{c i s e o:Nat}{j:LR}{r:Mine.R}
def Ww(u a b:Nat):u+a+1<u+1+(a+(b+1)):=D0<|AB (BB<|DB u a 1)<|BW (BA a b) _
def Ctx.pre_len(C:Ctx)(A:List A6):(C.U++C.rw A).length=C.U.length+A.length:=by unfold Ctx.rw;rw[A9,Ir]
def Here.post(h:Here N C k E A x B)(l:List<|Int×Str):(C.tree<|A++Ab x l::B).flat.length<=12:=by rw[Nn,Qe];exact h.n12
def Here.lw(h:Here N C k E A x B)(z:(outP' k x.2.2).length<=1)(w:B3 gl BF 98 5 (CT (C.tree<|A++Ab x (outP' k x.2.2)::B).flat k (C.U.length+A.length) (outP' k x.2.2) C.U.length<|C.U.length+1+(A.length+B.length)) [] r):Cl gl BF 200 [.d<|AI (C.tree<|A++x::B).flat,.d<|.key k] [] r []:=by have e:(C.lr A x).2.2=x.2.2:=Qc;have fl:=h.post<|outP' k x.2.2;have q:=h.gsz.lo;rw[C.flat_mid];refine Cl.u (W4 (K:=0) h.locL (e▸AO h.row.2 (nL rfl)) ?_) rfl;rw[e,<-C.flat_set,C.pre_len];obtain⟨y,H,I,m⟩:=Hy (l:=A++Ab x (outP' k x.2.2)::B) (n:=A.length+B.length) (by rw[A9];rfl);rw[I,C.flat_cons] at w fl ⊢;refine gV (K:=0) (C.seg y H h.sne) ?_ (AO fl<|nL rfl) z ?_ (by rw[A4,m];exact w);rw[A4,m];exact BA _ _;rw[Vi,A4,m];rw[A9,CK] at q;exact Nat.ne_of_gt<|Be q<|AB (BB<|C7 (A.length+B.length) 1)<|AB (Ds (Nat.le_add_left 1 _) _)<|BA _ _
def Ctx.flat2(C:Ctx)(F:List A6)(a b:A6)(G:List A6):(C.tree<|F++a::b::G).flat=(C.U++C.rw F)++C.lr F a::lk b::(G.map lk++C.W):=C.flat_mid
def Ctx.lrs(C:Ctx)(F:List A6)(a:A6):(C.lr F a).2.2=a.2.2:=Qc
def Ctx.len2(C:Ctx)(h:(C.tree<|F++a::b::G).flat.length<=12):(C.U++C.rw F).length+(G.map lk++C.W).length<90:=by rw[C.flat2,A9] at h;exact AO (AB (BW (Nat.le_succ_of_le<|Nat.le_succ _) _) h)<|nL rfl
def Wx(C:Ctx)(n:a.2.2++b.2.2=b1++p::b2)(u:b1.length=c+1)(m:(C.tree<|F++a::b::G).flat.length<=12)(h:a.2.2.length+b.2.2.length<100):B3 gl BF 94 6 (Ii (C.tree<|F++a::b::G).flat k i f s e (C.U.length+F.length+1)<|c+1) []<|.fresh<|((C.tree<|F++Ab a b1::(p.1,b.2.1,p::b2)::G).flat.map AP).map V.d:=by have q:=C.len2 m;rw[C.flat2,C.flat_set,<-C.pre_len];refine WB (K:=33) (by rw[C.lrs];exact h)<|gg (K:=33) ?_ u q;rw[C.lrs];exact n
def Wy(C:Ctx)(n:(C.tree<|F++a::b::G).flat.length<=12)(m:a.2.2.length+b.2.2.length<100)(h:∀{i o j v},B3 gl BF 91 9 (Dc (C.tree<|F++Ab a (a.2.2++b.2.2)::G).flat k i f s e o 0 j v) [] r):B3 gl BF 94 6 (Ii (C.tree<|F++a::b::G).flat k i f s e (C.U.length+F.length+1) 0) [] r:=by have q:=C.len2 n;have h:=@h i ((C.U++C.rw F).length+1) (C.lr F a)<|a.2.2++b.2.2;rw[C.flat_set] at h;rw[C.flat2,<-C.pre_len];refine WB (K:=33) (by rw[C.lrs];exact m) ?_;rw[C.lrs];exact gh (K:=31) (hr:=lk b) q h
def jI(h:∀G∈d,G.2≠[])(n:d≠[]):Mx (R.map lk++BM d) 2:=by
 refine⟨λr m=>(BE.mp m).elim (λm=>AB (BB (Fh m).1)<|nL rfl) λm=>?_,.inr ?_⟩;obtain⟨G,q,m⟩:=List.mem_flatMap.mp m;obtain⟨g,Z⟩:=G;cases Z with|nil=>exact absurd m Ax|cons z Z=>exact(An.mp m).elim (λe=>e▸Au 2) λm=>AB (BB (Fh m).1)<|nL rfl
 cases d with|nil=>exact absurd rfl n|cons G d=>obtain⟨g,Z⟩:=G;cases Z with|nil=>exact absurd rfl (h _ AT)|cons z Z=>exact⟨_,Aw _ AT,rfl⟩
def jJ(R:List A6)(m:R≠[]):Mx (R.map lk) 1:=⟨λr h=>BB (Fh h).1,.inr<|by cases R with|nil=>exact absurd rfl m|cons z Z=>exact⟨_,AT,rfl⟩⟩
variable{w:Option Int}
def Nq(m:2<=d.length)(h:∀G∈d,G.2≠[])(n:(Tr.top (some t) d).flat.length<=12):B3 gl BF 90 10 (Dc (Tr.top (some t) d).flat k i f s e o c j v) []<|.fresh<|((Tr.top (some t) d).flat.map AP).map V.d:=by cases d with|nil=>exact absurd m (by decide)|cons G d=>obtain⟨g,Z⟩:=G;cases Z with|nil=>exact absurd rfl (h _ AT)|cons z Z=>exact QE (K:=50) (jI (λG q=>h G<|Ah _ q) λe=>by rw[e] at m;exact absurd m (by decide:¬2<=1))<|Be (CY _)<|AB n<|nL rfl
def Wz(h:2<=R.length)(n:(Tr.top w [(g,R)]).flat.length<=12):B3 gl BF 90 10 (Dc (Tr.top w [(g,R)]).flat k i f s e o c j v) []<|.fresh<|((Tr.top .none [(g,R)]).flat.map AP).map V.d:=by cases R with|nil=>exact absurd h (by decide)|cons z Z=>
 have m:Mx (Z.map lk++BM []) 1:=by show Mx (Z.map lk++[]) 1;rw[BJ];exact jJ Z λe=>by rw[e] at h;exact absurd h (by decide:¬2<=1)
 exact QE (K:=50) (y:=lh .none (g::w.toList) z) m<|Be (CY _)<|AB n<|nL rfl
def jK:B3 gl BF 90 10 (Dc (Tr.top .none [(g,[y])]).flat k i f s e o c j v) []<|.fresh<|((Tr.one y).flat.map AP).map V.d:=QE (K:=50) (y:=lh .none [g] y) (R2:=[]) (m:=0) ⟨λ_ h=>absurd h Ax,.inl rfl⟩<|nL rfl
end
section
variable{K a c:Nat}{j i z w:LR}{A B U d f k l:List LR}{n:Int}{ns:List Int}
def jL(m:Seg d j (f++[w])<|z::B)(h:z.2.1=n::ns)(hs:w.2.1.length+ns.length<90)(i:2<(f++[w]).length)(g:(d++j::((f++[w])++z::B)).length<=12):Cl gl C9 70 [.d<|AI<|d++j::((f++[w])++z::B),.d<|.int (d.length+1+(f++[w]).length:Nat),.d<|.int c] [] (.val<|.d<|AI<|d++j::(f++(w.1,w.2.1++ns,w.2.2)::Gz z n::B)) []:=by
 have L:=gO (c:=c) (rs:=d++j::((f++[w])++z::B)) (a:=d.length+1+f.length) (by have:=Vy (K:=5) (c:=c) m<|AO g<|nL rfl;rw[Ac i,A9] at this;exact this);have e:d++j::((f++[w])++z::B)=(d++j::(f++[w]))++z::B:=by simp only [AD,List.cons_append]
 have r:d++j::(f++(w.1,w.2.1++ns,w.2.2)::Gz z n::B)=(d++j::f)++(w.1,w.2.1++ns,w.2.2)::Gz z n::B:=by simp only [AD,List.cons_append]
 have o:(d++j::(f++[w])).length=d.length+1+f.length+1:=by rw[A9,CK,A9,Bv d.length,C7 1,Bv d.length];rfl
 have q:(d++j::f).length=d.length+f.length+1:=A9;have p:d.length+1+f.length=d.length+f.length+1:=DB ..;rw[e] at g L ⊢;rw[r,A9 (as:=f)];refine W3 h (AO (AB ?_ g)<|nL rfl) (A2:=d++j::f) (w:=w) (t:=d.length+f.length) q (by simp only [AD,List.cons_append,List.nil_append]) hs ?_;rw[A9 (bs:=z::B)];exact BW (Nat.le_succ _) _;rw[o,<-p];exact L
def jM(g:Seg U i (w::k) l)(o:Tt gl C9 60 (CB EU) ⟨Bu (U++i::((w::k)++l)) a U.length,[]⟩ false ⟨Bu (U++i::((w::k)++l)) a U.length,[]⟩)(m:i.2.1=n::ns)(hs:w.2.1.length+ns.length<90)(h:2<(w::k).length)(e:(U++i::((w::k)++l)).length<=12):Cl gl C9 70 [.d<|AI<|U++i::((w::k)++l),.d<|.int a,.d<|.int U.length] [] (.val<|.d<|AI<|U++Gz i n::(w.1,w.2.1++ns,w.2.2)::(k++l)) []:=by
 have p:U++Gz i n::(w.1,w.2.1++ns,w.2.2)::(k++l)=(U++[Gz i n])++(w.1,w.2.1++ns,w.2.2)::(k++l):=by rw[AD];rfl
 rw[p];refine W3 m (AO (AB ?_ e)<|nL rfl) (A2:=U++[Gz i n]) (w:=w) (t:=U.length) A9 (by rw[AD];rfl) hs<|gP o ?_;rw[A9 (bs:=i::_)];exact BW (Nat.le_succ _) _;have:=Vz (K:=4) (a:=a) g<|AO e<|nL rfl;rw[Ac h] at this;exact this
def X0(e:(A++z::B).length<=12):A.length+B.length<90:=by rw[A9] at e;exact AO (AB (BW (Nat.le_succ _) _) e)<|nL rfl
end
section
variable{N:Int}{T:Tr}{C:Ctx}{R d R1 p L A B F G Z q:List A6}{x y a b z u j:A6}{k J g h f:Int}{P S S' M:List Gr}{t:Option Int}{K c i s e H:Nat}{l w I:List (Int×Str)}{E:LR}{r:Mine.R}{v:List LR}
def K4:Ctx.tree ⟨t,P++[(h,R1)],g,S⟩ R=Ctx.tree ⟨t,P,h,(g,R)::S⟩ R1:=by unfold Ctx.tree;rw[AD];rfl
def Lc:(Ctx.U ⟨t,P++[(h,R1)],g,S⟩).length=(Ctx.U ⟨t,P,h,S'⟩).length+R1.length:=by unfold Ctx.U;rw[Iu,Iu,D8,show A8 []=[] from rfl,BJ,A9]
def Qk(C:Ctx)(m:R≠[])(d:List A6):C.rw (R++d)=C.rw R++d.map lk:=by cases R with|nil=>exact absurd rfl m|cons z Z=>show _::(Z++d).map lk=_::(Z.map lk++d.map lk);rw[AF]
structure Mnd(C:Ctx)(d:List A6):Prop where
 pne:∀G∈C.P,G.2≠[]
 sne:∀G∈C.S,G.2≠[]
 ne:d≠[]
 len:(C.tree d).flat.length<=12
def Mnd.left(m:Mnd ⟨t,P++[(h,R1)],g,S⟩ d):Mnd ⟨t,P,h,(g,d)::S⟩ R1:=⟨λG n=>m.pne G<|BC _ n,λG n=>(An.mp n).elim (λe=>e▸m.ne)<|m.sne G,m.pne (h,R1)<|Aw _ AT,K4▸m.len⟩
def Mnd.right(m:Mnd ⟨t,P,g,(h,p)::S⟩ d):Mnd ⟨t,P++[(g,d)],h,S⟩ p:=⟨λG n=>(BE.mp n).elim (m.pne G) λn=>Ao.mp n▸m.ne,λG n=>m.sne G<|Ah _ n,m.sne (h,p) AT,K4▸m.len⟩
def mL(m:Mnd C d)(o:∀G∈C.P.getLast?,G.2.length<=3):Tt gl C9 60 (CB EU) ⟨Bu (C.tree d).flat C.U.length c,[]⟩ false ⟨Bu (C.tree d).flat C.U.length c,[]⟩:=by obtain⟨t,P,g,S⟩:=C;rcases Hm P with rfl|⟨P,⟨h,R1⟩,rfl⟩;exact gK (K:=5);have n:=m.left;have O:R1.length<=3:=o (h,R1) List.getLast?_concat;cases R1 with|nil=>exact absurd rfl n.ne|cons y Y=>have l:=n.len;rw[K4,Ctx.flat_cons,Lc (S':=(g,d)::S)];rw[Ctx.flat_cons] at l;have:=Vy (K:=5) (c:=c) (Ctx.seg ⟨t,P,h,(g,d)::S⟩ y Y n.sne)<|AO l<|nL rfl;rw[decide_eq_false<|Nat.not_lt.mpr<|by rw[A4];exact Nat.le_of_succ_le_succ O,A4,Bv,C7 1] at this;exact this
def mR(m:Mnd C d)(o:∀G∈C.S.head?,G.2.length<=3):Tt gl C9 59 (CB Ih) ⟨Bu (C.tree d).flat c<|C.U.length+d.length,[]⟩ false ⟨Bu (C.tree d).flat c<|C.U.length+d.length,[]⟩:=by obtain⟨t,P,g,S⟩:=C;cases S with|nil=>exact gL (K:=4) (by rw[Ctx.flat,A9,A9];unfold Ctx.rw Ctx.W;rw[Ir];rfl)|cons G S=>obtain⟨h,p⟩:=G;have n:=m.right;have O:p.length<=3:=o (h,p) rfl;cases p with|nil=>exact absurd rfl n.ne|cons y Y=>have l:=n.len;rw[<-Lc (g:=h) (S:=S),<-K4,Ctx.flat_cons];rw[Ctx.flat_cons] at l;have:=Vz (K:=4) (a:=c) (Ctx.seg ⟨t,P++[(g,d)],h,S⟩ y Y n.sne)<|AO l<|nL rfl;rw[decide_eq_false<|Nat.not_lt.mpr<|by rw[A4];exact Nat.le_of_succ_le_succ O] at this;exact this
def GO(C:Ctx)(d:List A6)(v:List LR):Prop:=Cl gl C9 70 [.d<|AI (C.tree d).flat,.d<|.int C.U.length,.d<|.int (C.U.length+d.length:Nat)] [] (.val<|.d<|AI v) []
def jN(m:Mnd ⟨some f,P++[(h,L++[j])],g,S⟩ d)(Q:L≠[])(X:3<(L++[j]).length):GO ⟨some f,P++[(h,L++[j])],g,S⟩ d (two f P h L g (j::d) S).flat:=by unfold GO;have o:=m.left;have l:=o.len;rw[K4,Lc (S':=(g,d)::S)];cases d with|nil=>exact absurd rfl m.ne|cons z Z=>cases L with|nil=>exact absurd rfl Q|cons y Y=>
 have sg:=Ctx.seg ⟨some f,P,h,(g,z::Z)::S⟩ y (Y++[j]) o.sne;have O:(y::Y++[j]).length=(Y.map lk++[lk j]).length+1:=by rw[A9,A9,A4];rfl
 rw[show(Ctx.tree ⟨some f,P,h,(g,z::Z)::S⟩<|y::Y++[j]).flat=_ from Ctx.flat_cons _ y<|Y++[j]] at l ⊢;rw[show two f P h (y::Y) g (j::z::Z) S=Ctx.tree ⟨some f,P,h,(g,j::z::Z)::S⟩ (y::Y) from rfl,Ctx.flat_cons];rw[AF] at sg l ⊢;have:=jL (c:=(Ctx.U ⟨some f,P,h,(g,z::Z)::S⟩).length+(y::Y++[j]).length+(z::Z).length) sg (n:=z.2.1) (ns:=[g]) rfl (nL rfl) (Nat.lt_of_succ_lt_succ<|Nat.lt_of_lt_of_eq X O) l;rw[Bv _ 1,C7 1,<-O] at this;exact this
def X2{G:Gr}:Ctx.lr ⟨t,P++[G],g,S⟩ [] z=lh (some z.1) [g] z:=by cases P<;>rfl
def X3:Ip t (P++[(h,R1)])=Ctx.U ⟨t,P,h,S'⟩++Ctx.rw ⟨t,P,h,S'⟩ R1:=by have:=Ctx.flat ⟨t,P,h,[]⟩ R1;refine Eq.trans this ?_;show _++(_++[])=_;rw[BJ];rfl
def jO(m:Mnd ⟨some f,P,h,(g,u::j::q)::S⟩ d)(X:3<(u::j::q).length)(Q:∀G∈P.getLast?,G.2.length<=3):GO ⟨some f,P,h,(g,u::j::q)::S⟩ d (two f P h (d++[u]) g (j::q) S).flat:=by unfold GO;have O:=m.right;have o:=mL (c:=(Ctx.U ⟨some f,P,h,(g,u::j::q)::S⟩).length+d.length) m Q;have l:=O.len;have sg:=Ctx.seg ⟨some f,P++[(h,d)],g,S⟩ u (j::q) O.sne;have Y:=Lc (t:=some f) (P:=P) (h:=h) (R1:=d) (g:=g) (S:=S) (S':=(g,u::j::q)::S);rw[<-K4,Ctx.flat_cons,<-Y] at o ⊢;rw[Ctx.flat_cons] at l;rw[X2] at o l sg ⊢;have:=jM sg o (n:=u.2.1) (ns:=[g]) rfl (nL rfl) (by show 2<(q.map lk).length+1;rw[A4];exact Nat.lt_of_succ_lt_succ X) l;rw[show two f P h (d++[u]) g (j::q) S=Ctx.tree ⟨some f,P,h,(g,j::q)::S⟩ (d++[u]) from rfl,Ctx.flat,Qk _ m.ne];refine(A3 (λl=>Cl gl C9 70 [_,_,_] [] (.val<|.d<|AI l) []) ?_).mp this;rw[show Ctx.U ⟨some f,P++[(h,d)],g,S⟩=_ from X3 (S':=(g,j::q)::S),AD,AD];rfl
def jP(m:Mnd ⟨some f,P++[(h,R1)],g,S⟩ d)(h3:R1.length<=3)(Y:∀G∈S.head?,G.2.length<=3):GO ⟨some f,P++[(h,R1)],g,S⟩ d (Tr.top (some f)<|P++(h,R1++d)::S).flat:=by
 unfold GO;have O:=mL (c:=(Ctx.U ⟨some f,P++[(h,R1)],g,S⟩).length+d.length) m (λG Q=>by rw[show(P++[(h,R1)]).getLast?=_ from List.getLast?_concat] at Q;obtain rfl:=Option.some.inj Q;exact h3);have o:=mR (c:=(Ctx.U ⟨some f,P++[(h,R1)],g,S⟩).length) m Y;have l:=m.len;have X:0<(Ctx.U ⟨some f,P++[(h,R1)],g,S⟩).length:=by rw[Lc (S':=S)];exact Be (List.length_pos_iff.mpr m.left.ne)<|Nat.le_add_left _ _
 cases d with|nil=>exact absurd rfl m.ne|cons z Z=>rw[Ctx.flat_cons,X2] at O o l ⊢;have:=W1 (n:=z.2.1) (ns:=[g]) rfl (X0 l)<|gQ O o X;refine(A3 (λl=>Cl gl C9 70 [_,_,_] [] (.val<|.d<|AI l) []) ?_).mp this;rw[show Tr.top (some f) (P++(h,R1++z::Z)::S)=Ctx.tree ⟨some f,P,h,S⟩ (R1++z::Z) from rfl,Ctx.flat,Qk _ m.left.ne,show Ctx.U ⟨some f,P++[(h,R1)],g,S⟩=_ from X3 (S':=S),AD,AD];rfl
def jQ(m:Mnd ⟨some f,[],h,(g,p)::S⟩ d)(Y:p.length<=3):GO ⟨some f,[],h,(g,p)::S⟩ d (Tr.top (some f)<|[]++(h,d++p)::S).flat:=by unfold GO;have O:=mL (c:=(Ctx.U ⟨some f,[],h,(g,p)::S⟩).length+d.length) m (λG Q=>by exact Ae Q);have o:=mR (c:=0) m (λG Q=>by obtain rfl:=Option.some.inj Q;exact Y);have l:=m.len;have X:=m.right.ne;cases p with|nil=>exact absurd rfl X|cons z Z=>rw[Ctx.flat] at O o l ⊢;have eA:(Ctx.rw ⟨some f,[],h,(g,z::Z)::S⟩ d).length=(Ctx.U ⟨some f,[],h,(g,z::Z)::S⟩).length+d.length:=Ir.trans (Nat.zero_add _).symm;rw[<-eA] at O o ⊢;have:=W1 (A:=Ctx.rw ⟨some f,[],h,(g,z::Z)::S⟩ d) (z:=lh (some z.1) [g] z) (B:=Z.map lk++BM S) (n:=z.2.1) (ns:=[g]) rfl (X0 l)<|gR O o;refine(A3 (λl=>Cl gl C9 70 [_,_,_] [] (.val<|.d<|AI l) []) ?_).mp this;rw[show Tr.top (some f) ([]++(h,d++z::Z)::S)=Ctx.tree ⟨some f,[],h,S⟩ (d++z::Z) from rfl,Ctx.flat,Qk _ m.ne,AD];rfl
def Nr(o:C.Ok)(Q:C.t=some f)(m:Mnd C d)(X:d.length=2)(n:GO C d v)(O:B3 gl BF 90 10 (Dc v k i w C.U.length (C.U.length+d.length+1) H 0 E I) [] r):B3 gl BF 91 9 (Dc (C.tree d).flat k i w C.U.length (C.U.length+d.length+1) H 0 E I) [] r:=by obtain⟨y,Y,e,l⟩:=Lb (R:=d) o m.pne m.ne;unfold GO at n;rw[e] at n ⊢;exact gm (K:=0) (by rw[l,Q];rfl) (BA _ _) n O<|by rw[X,Bv];exact CY _
end
section
variable{N:Int}{T:Tr}{C:Ctx}{R R' u w L A f B Z:List A6}{x y z X Q:A6}{k a g h j:Int}{v:Str}{P S Y:List Gr}{t:Option Int}{i s e J:Nat}{l E M:List (Int×Str)}{I:LR}{r:Mine.R}{O:List LR}
structure Chg(N:Int)(C:Ctx)(k a:Int)(A:List A6)(x:A6)(B:List A6)(v:Str)(R':List A6):Prop where
 h:Here N C k a A x B
 v:AX k x.2.2=some v
 nk:NK N ((C.tree R').pgs.map (·.1))
 rows:Rows R'
 ord:Ord (A8 C.P++(R'++A8 C.S))
 key:∀p∈fl (A8 C.P++(R'++A8 C.S)),0<=p.1/\p.1<24
 hs:Ba R'=Ba (A++x::B)
 hr:∀{σ s d r pl},HT σ s d r pl (pf (GL (AV (A8 C.P)) (A++x::B) C.M C.g (C.Q a)))->RemR 50 σ s d r pl (pf (GL (AV (A8 C.P)) (A++x::B) C.M C.g (C.Q a))) C.g k (pf (GL (AV (A8 C.P)) R' C.M C.g (C.Q a)))
theorem Chg.ok(c:Chg N C k a A x B v R'):CtxOk C R' k a:=⟨c.nk.nod,λq d=>(c.nk.dm _<|B9.mpr ⟨q,d,rfl⟩).1,c.h.ctx.ok,c.hs.trans c.h.hsp,c.h.ctx.at_⟩
def Chg.hr'(c:Chg N C k a A x B v R'){m:List Cell}{s d:Nat}{r:Int}{n:Int->BH}(H:HT m s d r n<|pf (C.tree<|A++x::B).pgs):RemR 50 m s d r n (pf (C.tree<|A++x::B).pgs) C.g k<|pf (C.tree R').pgs:=by rw[C.pgs c.h.hsp,C.pgs c.ok.hsp];rw[C.pgs c.h.hsp] at H;exact c.hr H
theorem Here.n2(h:Here N C k a A x B)(c:C.t.isSome=true):C.P++C.S≠[]:=λe=>by have:=h.sz.n2 c;rw[(List.append_eq_nil_iff.mp e).1,(List.append_eq_nil_iff.mp e).2] at this;exact absurd this (by decide:¬2<=1)
def Chg.keep(c:Chg N C k a A x B v R')(g:GSz C.t R')(m:To3 BF 200 [.d<|AI (C.tree<|A++x::B).flat,.d<|.key k] (C.tree R').flat):RemOk N (C.tree<|A++x::B) k:=⟨C.tree R',c.h.wf' c.nk g c.ord c.key,m,c.h.ctx.rem c.v c.ok g.lo g.lo3 c.h.n2 λH=>c.hr' H⟩
def Chg.same(c:Chg N C k a A x B v R')(m:R'.length=(A++x::B).length)(n:To3 BF 200 [.d<|AI (C.tree<|A++x::B).flat,.d<|.key k] (C.tree R').flat):RemOk N (C.tree<|A++x::B) k:=c.keep ⟨m▸c.h.gsz.lo,λq=>m▸c.h.gsz.lo3 q,m▸c.h.gsz.hi,c.rows⟩ n
def Iv(C:Ctx)(k:Int)(A:List A6)(x:A6)(B R':List A6):Prop:=∀{r:Mine.R},(∀{i E J I M},B3 gl BF 91 9 (Dc (C.tree R').flat k i E C.U.length (C.U.length+R'.length+1) J 0 I M) [] r)->Cl gl BF 200 [.d<|AI (C.tree<|A++x::B).flat,.d<|.key k] [] r []
def Chg.mnd(c:Chg N C k a A x B v R')(m:R'.length+1=(A++x::B).length)(d:R'≠[]):Mnd C R':=⟨c.h.pne,c.h.sne,d,by have q:=c.h.m12;rw[A9,A9,<-m] at q;rw[Nn,A9,A9];exact AB (BW (Ds (Nat.le_succ _) _) _) q⟩
def X4(c:Chg N C k a A x B v R')(hl:R'.length+1=(A++x::B).length)(hw:Iv C k A x B R')(g:GSz C.t R'):RemOk N (C.tree<|A++x::B) k:=by
 refine c.keep g<|.fr<|hw λ{i E J I M}=>?_;have m:=c.mnd hl g.ne;have o:=c.h.ctx.ok;obtain⟨y,Gs,e,l⟩:=Lb (R:=R') o m.pne m.ne;have H:B3 gl BF 90 10 (Dc (C.tree R').flat k i E C.U.length (C.U.length+R'.length+1) J 0 I M) []<|.fresh<|((C.tree R').flat.map AP).map V.d:=by have n2:=c.h.sz.n2;have p:=m.len;have pn:=m.pne;have sn:=m.sne;obtain⟨t,P,g',S⟩:=C;cases t with|none=>obtain⟨rfl,rfl⟩:=o rfl;exact Wz g.lo p|some t=>exact Nq (by have:=n2 rfl;rw[A9] at this ⊢;exact this) (λG n=>(BE.mp n).elim (pn G) λn=>(An.mp n).elim (λe=>e▸g.ne)<|sn G) p
 rw[e] at H ⊢;refine WD (K:=31) ?_ H;cases ht:C.t with|none=>exact .inl (by rw[l,ht];exact λq=>by exact absurd q<|Nat.ne_of_beq_eq_false rfl)|some t=>exact .inr<|CV<|BW (g.lo3<|by rw[ht];rfl) _
def jR(c:Chg N ⟨.none,[],g,[]⟩ k a A x B v [y])(m:Iv ⟨.none,[],g,[]⟩ k A x B [y]):RemOk N (Ctx.tree ⟨.none,[],g,[]⟩<|A++x::B) k:=by have d:NK N [y.2.1]:=NK.sub (l:=[y.2.1,g]) c.nk<|.cons_cons _<|.cons _ .slnil;exact⟨.one y,⟨d,(c.rows y AT).2,c.ord,c.key⟩,.fr<|m<|WD (K:=31) (.inl λe=>by exact absurd e<|Nat.ne_of_beq_eq_false rfl) jK,c.h.ctx.one c.v c.ok λH=>c.hr' H⟩
def Iw(d:Rows R)(c:3<=R.length)(m:R.length<=5):GSz t R:=⟨AB (nL rfl) c,λ_=>c,m,d⟩
def X5{d c:Gr}(s:∀G∈P++S,GSz (some j) G.2)(o:GSz (some j) d.2)(n:GSz (some j) c.2):TSz (some j)<|P++d::c::S:=⟨λG m=>(BE.mp m).elim (λq=>s G<|BC _ q) λq=>(An.mp q).elim (λe=>e▸o) λq=>(An.mp q).elim (λe=>e▸n) λq=>s G<|Aw _ q,(nomatch ·),λ_=>by rw[A9];exact AB (Nat.le_add_left 2 S.length)<|Nat.le_add_left _ _⟩
def X6{n:Gr}(s:∀G∈P++S,GSz (some j) G.2)(m:∀{t},GSz t n.2):TSz (if P.length+S.length=0 then .none else some j)<|P++n::S:=by by_cases c:P.length+S.length=0;rw[A5 c];have p:=List.eq_nil_of_length_eq_zero<|Nat.eq_zero_of_add_eq_zero_right c;have o:=List.eq_nil_of_length_eq_zero<|Nat.eq_zero_of_add_eq_zero_left c;subst p o;exact⟨λG d=>Ao.mp d▸m,λ_=>rfl,(nomatch ·)⟩;rw[A1 c];exact⟨λG d=>(BE.mp d).elim (λq=>s G<|BC _ q) λq=>(An.mp q).elim (λe=>e▸m) λq=>s G<|Aw _ q,(nomatch ·),λ_=>by rw[A9];exact CV<|Nat.pos_of_ne_zero c⟩
def Ql(t:Option Int):(Tr.top t<|P++(h,u)::(g,w)::S).pgs.map (·.1)=AG (A8 P++((u++w)++A8 S))++(Ai P++h::g::Ai S++t.toList):=by rw[Tr.keys,D8,HF,AD u];rfl
def X7{d c:List A6}(n:NK N<|(Tr.top t<|P++(h,u)::(g,w)::S).pgs.map (·.1))(e:u++w=d++c):NK N<|(Tr.top t<|P++(h,d)::(g,c)::S).pgs.map (·.1):=by rw[Ql,<-e,<-Ql];exact n
def X8(n:NK N<|(Tr.top (some j)<|P++(h,u)::(g,w)::S).pgs.map (·.1))(t:Option Int)(c:t.toList.Sublist [j]):NK N<|(Tr.top t<|P++(h,u++w)::S).pgs.map (·.1):=by rw[Ql] at n;rw[Tr.keys,D8,HF];exact n.sub<|List.Sublist.append_left (List.Sublist.append (List.Sublist.append_left (.cons_cons _<|.cons _<|List.Sublist.refl _) _) c) _
def X9:A8 (P++(h,u)::(g,w)::S)=A8 P++((u++w)++A8 S):=by rw[D8,AD];rfl
def XA(m:2<=R.length)(h:∀G∈P++S,G.2≠[])(n:(Tr.top (some j)<|P++(g,R)::S).flat.length<=12):B3 gl BF 90 10 (Dc (Tr.top (some j)<|P++(g,R)::S).flat k i E s e J 0 I M) []<|.fresh<|((HG j P g R S).flat.map AP).map V.d:=by unfold HG;by_cases c:P.length+S.length=0;rw[A5 c];have p:=List.eq_nil_of_length_eq_zero<|Nat.eq_zero_of_add_eq_zero_right c;have o:=List.eq_nil_of_length_eq_zero<|Nat.eq_zero_of_add_eq_zero_left c;subst p o;exact Wz m n;rw[A1 c];exact Nq (by rw[A9];exact CV<|Nat.pos_of_ne_zero c) (λG H=>(BE.mp H).elim (λq=>h G<|BC _ q) λq=>(An.mp q).elim (λe=>e▸λe=>by rw[show R=[] from e] at m;exact absurd m<|by decide) λq=>h G<|Aw _ q) n
end
section
variable{N:Int}{T:Tr}{C:Ctx}{R R' f j L A Q B u:List A6}{x y z o d:A6}{k E g h a:Int}{v:Str}{P S w:List Gr}{t:Option Int}{i s e M:Nat}{l J O:List (Int×Str)}{K:LR}{r:Mine.R}{I:List LR}
def Chg.out(c:Chg N C k E A x B v R')(e:A8 w=A8 C.P++(R'++A8 C.S))(n:NK N<|(Tr.top t w).pgs.map (·.1))(z:TSz t w):WF N<|.top t w:=⟨n,z,show Ord (A8 w) from e▸c.ord,show ∀p∈fl (A8 w),_ from e▸c.key⟩
def Mnd.out(m:Mnd C R')(e:A8 w=A8 C.P++(R'++A8 C.S)):(Tr.top t w).flat.length<=12:=by have:=m.len;rw[Nn,<-e] at this;exact AB (BB Iu) this
def XB:A8 (P++[(h,f)])++(R'++A8 S)=A8 P++((f++R')++A8 S):=by rw[D8,show A8 []=[] from rfl,BJ,AD,AD f]
def Chg.szo(c:Chg N C k E A x B v R'):∀G∈C.P++C.S,GSz C.t G.2:=λG m=>(BE.mp m).elim (λq=>c.h.sz.gr G<|BC _ q) λq=>c.h.sz.gr G<|Aw _<|Ah _ q
def Nt(h:Rows R)(m:Rows R'):Rows<|R++R':=λr c=>(BE.mp c).elim (h r)<|m r
def Nu(h:R.length=2):R≠[]:=λe=>by rw[e] at h;exact absurd h<|Nat.ne_of_beq_eq_false rfl
def jS(c:Chg N ⟨some a,P++[(h,L++[d])],g,S⟩ k E A x B v R')(hl:R'.length+1=(A++x::B).length)(hw:Iv ⟨some a,P++[(h,L++[d])],g,S⟩ k A x B R')(n:R'.length=2)(Z:3<(L++[d]).length):RemOk N (Ctx.tree ⟨some a,P++[(h,L++[d])],g,S⟩<|A++x::B) k:=by
 have m:=c.mnd hl<|Nu n;have z:=c.szo;have gl:=z (h,L++[d])<|BC _<|Aw _ AT;have le:(L++[d]).length=L.length+1:=A9;have eg:A8 (P++(h,L)::(g,d::R')::S)=A8 (P++[(h,L++[d])])++(R'++A8 S):=by rw[X9,XB,AD L [d]];rfl
 have X:3<=L.length:=CF<|Nat.lt_of_lt_of_eq Z le;have rr:=Np gl.rows;have z':∀G∈P++S,GSz (some a) G.2:=λG Y=>z G<|(BE.mp Y).elim (λq=>BC _<|BC _ q)<|Aw _;have p:TSz (some a)<|P++(h,L)::(g,d::R')::S:=X5 z' (Iw rr.1 X<|Nat.le_of_succ_le<|AB (BB le.symm) gl.hi) (Iw (Nt rr.2 c.rows) (by show 3<=R'.length+1;rw[n];exact nL rfl)<|by show R'.length+1<=5;rw[n];exact nL rfl);have hL:L≠[]:=λe=>by rw[e] at X;exact absurd X<|by decide
 have nk:=c.nk;rw[K1] at nk;exact⟨two a P h L g (d::R') S,c.out eg (X7 nk<|by rw[AD];rfl) p,.fr<|hw<|Nr c.h.ctx.ok rfl m n (jN m hL Z)<|Nq (p.n2 rfl) (λG Y=>(p.gr G Y).ne)<|m.out eg,iN c.h.ctx c.v c.ok (BB n) m.ne hL Z λH=>c.hr' H⟩
def jT(c:Chg N ⟨some a,P,h,(g,o::d::u)::S⟩ k E A x B v R')(hl:R'.length+1=(A++x::B).length)(hw:Iv ⟨some a,P,h,(g,o::d::u)::S⟩ k A x B R')(n:R'.length=2)(Y:3<(o::d::u).length)(hP:∀G∈P.getLast?,G.2.length<=3):RemOk N (Ctx.tree ⟨some a,P,h,(g,o::d::u)::S⟩<|A++x::B) k:=by
 have m:=c.mnd hl<|Nu n;have z:=c.szo;have gl:=z (g,o::d::u)<|Aw _ AT;have eg:A8 (P++(h,R'++[o])::(g,d::u)::S)=A8 P++(R'++A8 ((g,o::d::u)::S)):=by rw[X9,AD,AD];rfl
 have Z:=Np (R1:=[o]) gl.rows;have le:(R'++[o]).length=3:=by rw[A9,n];rfl
 have z':∀G∈P++S,GSz (some a) G.2:=λG X=>z G<|(BE.mp X).elim (BC _) λq=>Aw _<|Ah _ q;have p:TSz (some a)<|P++(h,R'++[o])::(g,d::u)::S:=X5 z' (Iw (Nt c.rows Z.1) (BB le.symm)<|AB (BB le)<|nL rfl)<|Iw Z.2 (CF Y)<|Nat.le_of_succ_le gl.hi;exact⟨two a P h (R'++[o]) g (d::u) S,c.out eg (X7 c.nk<|by rw[AD];rfl) p,.fr<|hw<|Nr c.h.ctx.ok rfl m n (jO m Y hP)<|Nq (p.n2 rfl) (λG X=>(p.gr G X).ne)<|m.out eg,iO c.h.ctx c.v c.ok (BB n) m.ne Y hP λH=>c.hr' H⟩
def XC(n:Nat):(if n=0 then .none else some a:Option Int).toList.Sublist [a]:=by by_cases e:n=0;rw[A5 e];exact List.nil_sublist _;rw[A1 e];exact List.Sublist.refl _
def jU(c:Chg N ⟨some a,P++[(h,f)],g,S⟩ k E A x B v R')(hl:R'.length+1=(A++x::B).length)(hw:Iv ⟨some a,P++[(h,f)],g,S⟩ k A x B R')(n:R'.length=2)(Y:f.length<=3)(hS:∀G∈S.head?,G.2.length<=3):RemOk N (Ctx.tree ⟨some a,P++[(h,f)],g,S⟩<|A++x::B) k:=by
 have m:=c.mnd hl<|Nu n;have z:=c.szo;have gl:=z (h,f)<|BC _<|Aw _ AT;have eg:A8 (P++(h,f++R')::S)=A8 (P++[(h,f)])++(R'++A8 S):=(D8 ..).trans XB.symm;have Z:∀G∈P++S,GSz (some a) G.2:=λG X=>z G<|(BE.mp X).elim (λq=>BC _<|BC _ q)<|Aw _;have p:(f++R').length=5:=by rw[A9,n,Nat.le_antisymm Y<|gl.lo3 rfl]
 have nk:=c.nk;rw[K1] at nk;exact⟨HG a P h (f++R') S,c.out eg (X8 nk _<|XC _)<|X6 Z<|Iw (Nt gl.rows c.rows) (AB (nL rfl)<|BB p.symm)<|BB p,.fr<|hw<|Nr c.h.ctx.ok rfl m n (jP m Y hS)<|XA (AB (nL rfl)<|BB p.symm) (λG X=>(Z G X).ne)<|m.out eg,iP c.h.ctx c.v c.ok (BB n) m.ne gl.ne Y hS λH=>c.hr' H⟩
def jV(c:Chg N ⟨some a,[],h,(g,j)::S⟩ k E A x B v R')(hl:R'.length+1=(A++x::B).length)(hw:Iv ⟨some a,[],h,(g,j)::S⟩ k A x B R')(n:R'.length=2)(X:j.length<=3):RemOk N (Ctx.tree ⟨some a,[],h,(g,j)::S⟩<|A++x::B) k:=by
 have m:=c.mnd hl<|Nu n;have z:=c.szo;have gl:=z (g,j) AT;have Z:A8 ([]++(h,R'++j)::S)=A8 []++(R'++A8 ((g,j)::S)):=(D8 ..).trans<|AD R' j<|A8 S;have Y:∀G∈[]++S,GSz (some a) G.2:=λG q=>z G<|Ah _ q;have p:(R'++j).length=5:=by rw[A9,n,Nat.le_antisymm X<|gl.lo3 rfl]
 exact⟨HG a [] h (R'++j) S,c.out Z (X8 c.nk _<|XC _)<|X6 Y<|Iw (Nt c.rows gl.rows) (AB (nL rfl)<|BB p.symm)<|BB p,.fr<|hw<|Nr c.h.ctx.ok rfl m n (jQ m X)<|XA (P:=[]) (AB (nL rfl)<|BB p.symm) (λG q=>(Y G q).ne)<|m.out Z,iQ c.h.ctx c.v c.ok (BB n) m.ne gl.ne X λH=>c.hr' H⟩
def Chg.less(c:Chg N C k E A x B v R')(n:R'.length+1=(A++x::B).length)(H:Iv C k A x B R'):RemOk N (C.tree<|A++x::B) k:=by
 have g:=c.h.gsz;have Z:R'.length<=5:=Nat.le_of_succ_le<|AB (BB n) g.hi;obtain⟨t,P,g',S⟩:=C;cases t with
 |none=>obtain⟨rfl,rfl⟩:=c.h.ctx.ok rfl;rcases Nat.lt_or_ge R'.length 2 with q|q;obtain⟨y,rfl⟩:∃y,R'=[y]:=List.length_eq_one_iff.mp<|Nat.le_antisymm (CF q)<|Nat.le_of_succ_le_succ<|AB g.lo<|BB n.symm;exact jR c H;exact X4 c n H ⟨q,(nomatch ·),Z,c.rows⟩
 |some t=>
  rcases Nat.lt_or_ge R'.length 3 with q|q;have X:R'.length=2:=Nat.le_antisymm (CF q)<|Nat.le_of_succ_le_succ<|AB (g.lo3 rfl)<|BB n.symm;have n2:=c.h.n2 rfl;have z:=c.szo;clear q Z;have right:(∀G∈P.getLast?,G.2.length<=3)->(∀G∈S.head?,G.2.length<=3)\/RemOk N (Ctx.tree ⟨some t,P,g',S⟩<|A++x::B) k:=λhP=>by cases S with|nil=>exact .inl λG p=>by exact Ae p|cons G S=>
   obtain⟨g2,j⟩:=G;rcases Nat.lt_or_ge 3 j.length with m|m;cases j with|nil=>exact absurd m (by decide)|cons o j=>cases j with|nil=>exact absurd m (by decide:¬3<1)|cons d u=>exact .inr<|jT c n H X m hP
   exact .inl λG p=>by obtain rfl:=Option.some.inj p;exact m
  rcases Hm P with rfl|⟨P,⟨h,f⟩,rfl⟩;refine(right λG p=>by exact Ae p).elim (λY=>?_) id;cases S with|nil=>exact absurd rfl n2|cons G S=>exact jV c n H X<|Y G rfl
  rcases Nat.lt_or_ge 3 f.length with m|m;rcases Hm f with rfl|⟨L,d,rfl⟩;exact absurd m (by decide);exact jS c n H X m;exact(right λG p=>by rw[List.getLast?_concat] at p;obtain rfl:=Option.some.inj p;exact m).elim (λY=>jU c n H X m Y) id;exact X4 c n H<|Iw c.rows q Z
end
section
variable{N:Int}{T:Tr}{C:Ctx}{c A g B F G:List A6}{x y a b:A6}{k f:Int}{v:Str}{l o:List (Int×Str)}{q z w:Int×Str}
def Qm{p:Int×Str}(h:p∈outP' k l):p∈l:=(List.mem_filter.mp h).1
def jW{l:List (Int×Str)}(h:2<l.length):∃d z,l=d++[z]/\2<=d.length/\d.length+1=l.length:=by rcases Hm l with rfl|⟨d,z,rfl⟩;exact absurd h (by decide);have e:(d++[z]).length=d.length+1:=A9;exact⟨d,z,rfl,CF<|Nat.lt_of_lt_of_eq h e,e.symm⟩
def jX{l:List (Int×Str)}(h:2<l.length):∃z w d,l=z::w::d/\2<=(w::d).length/\(w::d).length+1=l.length:=by cases l with|nil=>exact absurd h (by decide)|cons z l=>cases l with|nil=>exact absurd h (by decide:¬2<1)|cons w l=>exact⟨z,w,l,rfl,CF h,rfl⟩
def Here.rg(h:Here N C k f A x B){e:List Cell}{s d:Nat}{r:Int}{i:Int->BH}(H:HT e s d r i<|pf<|GL (AV<|A8 C.P) (A++x::B) C.M C.g<|C.Q f):RG e s d r i (AV<|A8 C.P) A x B C.M C.g (C.Q f) k:=⟨H,C.pgs h.hsp▸h.wf.nod,h.ctx.loc,h.ctx.len,λy j=>AO (h.gsz.rows y j).2<|nL rfl⟩
def XD(A:List A6)(y x:A6)(l m:List<|Int×Str)(s:Int)(B:List A6):AG (A++Ab y l::(s,x.2.1,m)::B)=AG (A++y::x::B):=by rw[Jz,Jz];rfl
def XE(h:Rows<|A++y::x::B){a b:A6}(j:2<=a.2.2.length/\a.2.2.length<=4)(i:2<=b.2.2.length/\b.2.2.length<=4):Rows<|A++a::b::B:=λr d=>(BE.mp d).elim (λd=>h r<|BC _ d) λd=>(An.mp d).elim (λe=>e▸j) λd=>(An.mp d).elim (λe=>e▸i) λd=>h r<|Aw _<|Ah _<|Ah _ d
def XF(h:Rows<|A++y::x::B){a:A6}(i:2<=a.2.2.length/\a.2.2.length<=4):Rows<|A++a::B:=λr d=>(BE.mp d).elim (λd=>h r<|BC _ d) λd=>(An.mp d).elim (λe=>e▸i) λd=>h r<|Aw _<|Ah _<|Ah _ d
def jc{F G:List A6}{a b:A6}{P Q:List (Int×Str)}{e:Int×Str}(h:Ord<|F++a::b::G)(i:a.2.2≠[])(d:a.2.2++b.2.2=P++e::Q):Ord (F++Ab a P::(e.1,b.2.1,e::Q)::G)/\fl (F++Ab a P::(e.1,b.2.1,e::Q)::G)=fl (F++a::b::G):=by refine⟨QW (x:=Ab a<|a.2.2++b.2.2) (P:=P) (e:=e) (Q:=Q) (m:=b.2.1) (QX h i) d,?_⟩;rw[FC,FC];refine A3 (fl F++·) ?_;show P++(e::Q++fl G)=a.2.2++(b.2.2++fl G);rw[<-AD,<-AD,d]
def XG(F G:List A6)(a b:A6):fl (F++Ab a (a.2.2++b.2.2)::G)=fl (F++a::b::G):=by rw[FC,FC];exact A3 (fl F++·)<|AD ..
def XH(A:List A6)(y x:A6)(l:List<|Int×Str)(B:List A6):(AG<|A++Ab y l::B).Sublist<|AG<|A++y::x::B:=by rw[GN,Jz];exact List.Sublist.append_left (.cons_cons _<|.cons _<|List.Sublist.refl _) _
def Qn{R c:List A6}(h:NK N<|(C.tree R).pgs.map (·.1))(q:AG c=AG R):NK N<|(C.tree c).pgs.map (·.1):=by rw[HI,q,<-HI];exact h
def XI{R c:List A6}(h:NK N<|(C.tree R).pgs.map (·.1))(q:(AG c).Sublist<|AG R):NK N<|(C.tree c).pgs.map (·.1):=by rw[HI] at h ⊢;exact h.sub<|List.Sublist.append_right (List.Sublist.append_left (List.Sublist.append_right q _) _) _
def sw{l:List A6}{y x:A6}{m:List A6}(P:List A6):(P++(l++[y]))++x::m=(P++l)++y::x::m:=by rw[<-AD,<-Cm]
def Ctx.at_a(C:Ctx):(C.tree<|F++a::G).flat[C.U.length+F.length]?=some (C.lr F a):=by rw[C.flat_mid];exact mid<|C.pre_len F
def Ctx.at_b(C:Ctx):(C.tree<|F++a::b::G).flat[C.U.length+F.length+1]?=some (lk b):=by have:=C.at_a (F:=F++[a]) (a:=b) (G:=G);rw[<-Cm,A9] at this;exact this.trans<|A3 some<|by cases F<;>rfl
end
section
variable{N:Int}{T:Tr}{C:Ctx}{g A d B F G:List A6}{x y a b:A6}{k f:Int}{v:Str}{l o:List (Int×Str)}{q z w:Int×Str}
def Here.outs(h:Here N C k f A x B):Ord ((A8 C.P++A)++Ab x (outP' k x.2.2)::(B++A8 C.S))/\∀p∈fl ((A8 C.P++A)++Ab x (outP' k x.2.2)::(B++A8 C.S)),0<=p.1/\p.1<24:=h.set (l:=outP' k x.2.2) (λp c _=>h.wf.key p<|by rw[C.rows,E0,FC];exact Aw _<|BC _<|Qm c) (Wj h.asc) λp c=>.inr<|Qm c
structure Rm1(N:Int)(C:Ctx)(k f:Int)(A:List A6)(x:A6)(B:List A6)(v:Str)(q:Int×Str):Prop extends Here N C k f A x B where
 hv:AX k x.2.2=some v
 hq:outP' k x.2.2=[q]
def Rm1.lt(h:Rm1 N C k f A x B v q):(outP' k x.2.2).length<2:=by rw[h.hq];exact nL rfl
theorem Rm1.lw(h:Rm1 N C k f A x B v q){r:Mine.R}(c:B3 gl BF 98 5 (CT (C.tree<|A++Ab x [q]::B).flat k (C.U.length+A.length) [q] C.U.length<|C.U.length+1+(A.length+B.length)) [] r):Cl gl BF 200 [.d<|AI (C.tree<|A++x::B).flat,.d<|.key k] [] r []:=h.toHere.lw (CF h.lt)<|by rw[h.hq];exact c
def jY(h:Rm1 N C k f (d++[y]) x B v q)(j:2<y.2.2.length):RemOk N (C.tree<|(d++[y])++x::B) k:=by
 have n:=h.toHere.gsz.rows;have m:=n y<|BC _<|Aw _<|Dq y;have s:=h.toHere.outs;rw[h.hq,sw] at s;obtain⟨l,z,i,E,t⟩:=jW j;have K:y.2.2≠[]:=by rw[i];exact List.append_ne_nil_of_right_ne_nil _<|List.cons_ne_nil _ _
 have J:=jc (P:=l) (e:=z) (Q:=[q]) s.1 K (by rw[i,AD];rfl);refine Chg.same (R':=d++Ab y l::(z.1,x.2.1,[z,q])::B) ⟨h.toHere,h.hv,Qn h.wf.nk<|by rw[XD,Cm],XE (Cm d y x B▸n) ⟨E,AB (Nat.le_succ _)<|AB (BB t) m.2⟩ ⟨(by decide:2<=2),(by decide:2<=4)⟩,E0 d _ _▸J.1,E0 d _ _▸J.2▸s.2,by rw[<-Cm];exact Hx ..,λH=>?_⟩ ?_<|.fr<|h.lw ?_;have:=i8 (h.toHere.rg H) h.lt i j;rw[h.hq] at this;exact this;rw[<-Cm,A9,A9];rfl;have r:=h.toHere.post [q];obtain⟨c,I⟩:=Nat.exists_eq_succ_of_ne_zero<|Nat.ne_of_gt<|Be (nL rfl) E;rw[<-Cm] at r ⊢;rw[A9 (as:=d)];refine B3.u (Ag rfl (gX (a:=C.U.length+d.length) (c:=c+1) (lo:=C.lr d y) (D0<|BA _ _) C.at_a (by rw[C.lrs,<-t,I])<|by rw[C.lrs];exact j)<|B3.u (Wx C (b1:=l) (p:=z) (b2:=[q]) (by rw[i,AD];rfl) I r<|AO (Ds m.2 1)<|nL rfl) rfl) rfl
def XJ(h:Rm1 N C k f A x (y::B) v q)(i:2<y.2.2.length)(r:∀u∈A.getLast?,u.2.2.length<=2):RemOk N (C.tree<|A++x::y::B) k:=by have n:=h.toHere.gsz.rows;have m:=n y<|Aw _<|Ah _ AT;have s:=h.toHere.outs;rw[h.hq] at s;obtain⟨z,w,l,j,E,c⟩:=jX i;have J:=jc (F:=A8 C.P++A) (a:=Ab x [q]) (b:=y) (G:=B++A8 C.S) (P:=[q,z]) (e:=w) (Q:=l) s.1 (List.cons_ne_nil _ _) (by rw[j];rfl);refine Chg.same (R':=A++Ab x [q,z]::(w.1,y.2.1,w::l)::B) ⟨h.toHere,h.hv,Qn h.wf.nk<|XD ..,XE n ⟨(by decide:2<=2),(by decide:2<=4)⟩ ⟨E,AB (Nat.le_succ _)<|AB (BB c) m.2⟩,E0 A _ _▸J.1,?_,Hx ..,λH=>?_⟩ ?_<|.fr<|h.lw ?_;have:=J.2;rw[E0];exact λp I=>s.2 p<|this▸I;have:=i9 (h.toHere.rg H) h.lt j i r;rw[h.hq] at this;exact this;rw[A9,A9];rfl;have t:=h.toHere.post [q];refine B3.u (Ag rfl (gY ?_ ?_ C.at_b i)<|B3.u (Wx C (a:=Ab x [q]) (b1:=[q,z]) (p:=w) (b2:=l) (by rw[j];rfl) rfl t<|AO (BW m.2 1)<|nL rfl) rfl) rfl;rcases Hm A with rfl|⟨d,u,rfl⟩;exact W6 (K:=45)<|Au _;have c:u.2.2.length<=2:=r u List.getLast?_concat;rw[<-Cm,A9 (as:=d)];have:=QD (K:=45) (a:=C.U.length+d.length) (lo:=C.lr d u) (k:=k) (ps:=[q]) (e:=C.U.length+1+(d.length+1+(y::B).length)) (D0<|BA C.U.length d.length)<|C.at_a (F:=d) (a:=u) (G:=Ab x [q]::y::B);rw[C.lrs,decide_eq_false<|Nat.not_lt.mpr c] at this;exact this;exact Ww ..
def jZ(h:Rm1 N C k f (d++[y]) x B v q)(c:y.2.2.length<=2):Tt gl BF 95 (CB Fy) ⟨CT (C.tree<|d++y::Ab x [q]::B).flat k (C.U.length+d.length+1) [q] C.U.length<|C.U.length+1+(d.length+1+B.length),[]⟩ false ⟨CT (C.tree<|d++y::Ab x [q]::B).flat k (C.U.length+d.length+1) [q] C.U.length<|C.U.length+1+(d.length+1+B.length),[]⟩:=by have:=QD (K:=45) (a:=C.U.length+d.length) (lo:=C.lr d y) (k:=k) (ps:=[q]) (e:=C.U.length+1+(d.length+1+B.length)) (D0<|BA C.U.length d.length)<|C.at_a (F:=d) (a:=y) (G:=Ab x [q]::B);rw[C.lrs,decide_eq_false<|Nat.not_lt.mpr c] at this;exact this
def XK{s e i:Nat}(c:C.U.length+A.length=i)(h:C.U.length+1+(A.length+B.length)=e)(j:∀u∈B.head?,u.2.2.length<=2):Tt gl BF 94 (CB LQ) ⟨CT (C.tree<|A++x::B).flat k i [q] s e,[]⟩ false ⟨CT (C.tree<|A++x::B).flat k i [q] s e,[]⟩:=by subst c h;cases B with|nil=>exact gW (K:=44) (by rw[List.length_nil,Nat.add_zero,DB];exact Au _)|cons u B=>have:=W7 (K:=44) (hr:=lk u) (k:=k) (ps:=[q]) (s:=s) (a:=C.U.length+A.length) (e:=C.U.length+1+(A.length+(u::B).length)) (Ww ..)<|C.at_b (F:=A) (a:=x) (b:=u) (G:=B);rw[decide_eq_false (Nat.not_lt.mpr (j u rfl):¬2<(lk u).2.2.length)] at this;exact this
end
section
variable{N:Int}{T:Tr}{C:Ctx}{j A c B F G:List A6}{x y a b:A6}{k d:Int}{v:Str}{l o:List (Int×Str)}{q z w:Int×Str}
def XL(h:Rm1 N C k d (c++[y]) x B v q)(m:y.2.2.length<=2)(J:∀u∈B.head?,u.2.2.length<=2):RemOk N (C.tree<|(c++[y])++x::B) k:=by
 have n:=h.toHere.gsz.rows;have g:=n y<|BC _<|Aw _<|Dq y;have s:=h.toHere.outs;rw[h.hq,sw] at s;have o:=QX s.1 (λe=>by rw[e] at g;exact absurd g.1<|by decide);have f:=XG (A8 C.P++c) (B++A8 C.S) y<|Ab x [q];have E:(y.2.2++[q]).length=y.2.2.length+1:=A9;have M:(c++Ab y (y.2.2++[q])::B).length+1=((c++[y])++x::B).length:=by rw[<-Cm,A9,A9];rfl
 refine Chg.less (R':=c++Ab y (y.2.2++[q])::B) ⟨h.toHere,h.hv,XI h.wf.nk<|Cm c y x B▸XH ..,XF (Cm c y x B▸n) ⟨E▸Nat.le_succ_of_le g.1,AB (BB E)<|CV<|Nat.le_succ_of_le m⟩,E0 c _ _▸o,?_,by rw[<-Cm];exact Hx ..,λH=>?_⟩ M λ{r} I=>h.lw ?_;rw[E0];exact λp K=>s.2 p<|f▸K;have:=iA (h.toHere.rg H) h.lt m J;rw[h.hq] at this;exact this;have t:=h.toHere.post [q];have L:=jZ h m;have R:=XK (C:=C) (A:=c++[y]) (x:=Ab x [q]) (B:=B) (k:=k) (q:=q) (s:=C.U.length) (i:=C.U.length+c.length+1) (e:=C.U.length+1+(c.length+1+B.length)) (by rw[A9];rfl) (by rw[A9];rfl) J;have e:C.U.length+(c++Ab y (y.2.2++[q])::B).length+1=C.U.length+1+(c.length+1+B.length):=by rw[A9,CK];exact(DB _ _ 1).trans<|A3 (C.U.length+1+·)<|DB _ _ 1
 rw[e] at I;rw[<-Cm] at t R ⊢;rw[A9 (as:=c)];exact B3.u (Ag rfl (gZ (a:=C.U.length+c.length+1) L R<|D0<|BA _ _)<|B3.u (Wy C t (AO (Ds g.2 1)<|nL rfl) I) rfl) rfl
def ja(h:Rm1 N C k d [] x (y::B) v q)(g:y.2.2.length<=2):RemOk N (C.tree<|[]++x::y::B) k:=by have m:=h.toHere.gsz.rows;have i:=m y<|Ah _ AT;have s:=h.toHere.outs;rw[h.hq] at s;have o:=QX (A:=A8 C.P++[]) (y:=Ab x [q]) (z:=y) (B:=B++A8 C.S) s.1<|List.cons_ne_nil _ _;have f:=XG (A8 C.P++[]) (B++A8 C.S) (Ab x [q]) y;refine Chg.less (A:=[]) (R':=[]++Ab x ([q]++y.2.2)::B) ⟨h.toHere,h.hv,XI h.wf.nk<|XH [] x y _ B,XF (A:=[]) m ⟨Nat.le_succ_of_le i.1,CV<|Nat.le_succ_of_le g⟩,E0 [] _ _▸o,?_,rfl,λH=>?_⟩ rfl λ{r} n=>h.lw ?_;rw[E0];exact λp I=>s.2 p<|f▸I;have:=iB (h.toHere.rg H) h.lt g;rw[h.hq] at this;exact this;have t:=h.toHere.post [q];have R:=XK (C:=C) (A:=[]) (x:=Ab x [q]) (B:=y::B) (k:=k) (q:=q) (s:=C.U.length) rfl rfl (λu E=>by obtain rfl:=Option.some.inj E;exact g);have e:C.U.length+([]++Ab x ([q]++y.2.2)::B).length+1=C.U.length+1+(0+(y::B).length):=(DB _ _ 1).trans<|A3 (C.U.length+1+·) (Nat.zero_add _).symm;rw[e] at n;exact B3.u (Ag rfl (gf (a:=C.U.length) (W6 (K:=45)<|Au _) R<|Au _)<|B3.u (Wy C (F:=[]) (a:=Ab x [q]) (b:=y) t (AO (BW i.2 1)<|nL rfl) n) rfl) rfl
def Here.lfit(h:Here N C k d A x B)(e:1<(outP' k x.2.2).length):To3 BF 200 [.d<|AI (C.tree<|A++x::B).flat,.d<|.key k] (C.tree<|A++Ab x (outP' k x.2.2)::B).flat:=by have:=W5 h.locL (by rw[C.lrs];exact AO h.row.2<|nL rfl) (.inl<|by rw[C.lrs];exact e);rw[C.lrs] at this;rw[C.flat_mid,C.flat_set];exact this
def jb(h:Here N C k d A x B):RemOk N (C.tree<|A++x::B) k:=by have n:=Cf h.asc;cases hv:AX k x.2.2 with|none=>have:=h.lfit (by rw[Nk hv];exact h.row.1);rw[Nk hv] at this;exact⟨_,h.wf,this,h.ctx.none hv⟩|some v=>
 have p:=ip n hv;by_cases i:2<=(outP' k x.2.2).length;have s:=h.outs;exact Chg.same (R':=A++Ab x (outP' k x.2.2)::B) ⟨h,hv,Qn h.wf.nk<|QG ..,Wp h.gsz.rows i<|AB (WR k _) h.row.2,E0 A _ B▸s.1,E0 A _ B▸s.2,Hx ..,λH=>i5 (h.rg H) i⟩ (by rw[A9,A9];rfl)<|h.lfit i;obtain⟨q,r⟩:=List.length_eq_one_iff.mp<|Nat.le_antisymm (CF<|Nat.not_le.mp i)<|Nat.le_of_succ_le_succ<|AB h.row.1<|BB p.symm;have m:Rm1 N C k d A x B v q:=⟨h,hv,r⟩;rcases Hm A with rfl|⟨c,y,rfl⟩;cases B with|nil=>exact absurd h.gsz.lo (by decide:¬2<=1)|cons u B=>exact(Nat.lt_or_ge 2 u.2.2.length).elim (λg=>XJ m g λ_ h=>absurd h<|Option.not_mem_none _) λg=>ja m g
 rcases Nat.lt_or_ge 2 y.2.2.length with e|e;exact jY m e;cases B with|nil=>exact XL m e λ_ h=>absurd h (Option.not_mem_none _)|cons u B=>exact(Nat.lt_or_ge 2 u.2.2.length).elim (λg=>XJ m g λu f=>by rw[List.getLast?_concat] at f;obtain rfl:=Option.some.inj f;exact e) λg=>XL m e λu f=>by obtain rfl:=Option.some.inj f;exact g
def jd(w:WF N<|.one x):RemOk N (.one x) k:=by have g:Asc x.2.2:=w.ord.asc x AT;have h:x.2.1∈B7:=w.dm _ AT;have i:(outP' k x.2.2).length<=4:=AB (WR k _) w.sz;have f:To3 BF 200 [.d<|AI (Tr.one x).flat,.d<|.key k] (Tr.one<|Ab x<|outP' k x.2.2).flat:=W5 (A:=[]) (x:=lh .none [] x) (B:=[]) (Qj _) (AO w.sz<|nL rfl)<|.inr rfl;cases hv:AX k x.2.2 with|none=>rw[Nk hv] at f;exact⟨.one x,w,f,iw h (Cf g) hv⟩|some v=>exact⟨.one<|Ab x<|outP' k x.2.2,Wu w (Wj g) i λp e=>w.key p (by have e:p∈outP' k x.2.2++[]:=e;rw[BJ] at e;exact BC _<|Qm e),f,iy h (Cf g) (AO w.sz<|nL rfl) hv⟩
def XM(w:WF N T)(k:Int):RemOk N T k:=by cases T with|one x=>exact jd w|top t f=>obtain⟨C,d,A,x,B,e,h⟩:=Qg w k;exact e▸jb h
end
def K5(l:List Rec):Prop:=∀x∈l,Fs x=false
def je:∀(Y X:List Rec),K5 Y->Cy (X++Y)=Cy X:=by intro Y;induction Y with|nil=>intro X _;rw[BJ]|cons y Y a=>intro X h;rw[show X++y::Y=(X++[y])++Y from by rw[AD];rfl,a (X++[y]) λx c=>h x<|Ah _ c,Uk _ _<|h y AT]
open Classical in
def XN{f g:DO}{n:Int}{x:Rec}(h:x∈d1 f g n):Fs x=false/\∀m,EE m x=decide (n=m):=by
 unfold d1 at h;cases hf:f n with
 |none=>cases hg:g n with|none=>rw[hf,hg] at h;exact absurd h Ax|some y=>rw[hf,hg] at h;rw[Ao.mp h];exact⟨rfl,λ_=>rfl⟩
 |some z=>cases hg:g n with|none=>rw[hf,hg] at h;rw[Ao.mp h];exact⟨rfl,λ_=>rfl⟩|some y=>rw[hf,hg] at h;by_cases e:z=y;have h:x∈if z=y then [] else [Rec.wr n y]:=h;rw[A5 e] at h;exact absurd h Ax;have h:x∈if z=y then [] else [Rec.wr n y]:=h;rw[A1 e] at h;rw[Ao.mp h];exact⟨rfl,λ_=>rfl⟩
def Qo(f g:DO):K5<|Cw f g:=λx a=>by obtain⟨n,_,h⟩:=List.mem_flatMap.mp a;exact(XN h).1
def jf{l:List Rec}(h:K5 l)(n:Nat):K5<|l.take n:=λx a=>h x<|List.mem_of_mem_take a
noncomputable def seg(a b:PF):List Rec:=Cw a.f b.f++[.cm b.r]
noncomputable def Az:PF->List PF->List Rec|_,[]=>[]|a,t::c=>seg a t++Az t c
noncomputable def DS:PF->List PF->PF|a,[]=>a|_,t::c=>DS t c
def Qp(a:PF)(c d:List PF):Az a (c++d)=Az a c++Az (DS a c) d:=by induction c generalizing a with|nil=>rfl|cons t c e=>exact(A3 (seg a t++·)<|e t).trans (AD ..).symm
def jg(a:PF)(c d:List PF):DS a (c++d)=DS (DS a c) d:=by induction c generalizing a with|nil=>rfl|cons t c e=>exact e t
noncomputable def Tr.pF(T:Tr):PF:=⟨λn=>(pf T.pgs n).map Pag.d,T.root⟩
noncomputable def CU:Tr->List Tr->Nat->List Tr|_,[],_=>[]|a,t::c,m=>if (seg a.pF t.pF).length<=m then t::CU t c (m-(seg a.pF t.pF).length) else []
def XO(a t:Tr)(c:List Tr)(m:Nat):CU a (t::c) m=if (seg a.pF t.pF).length<=m then t::CU t c (m-(seg a.pF t.pF).length) else []:=rfl
def jh(c:List Tr):∀(a:Tr)(X:List Rec)(m:Nat),Cy X=X->(∃g,c=CU a c m++g)/\Cy (X++(Az a.pF<|c.map Tr.pF).take m)=X++Az a.pF ((CU a c m).map Tr.pF):=by induction c with|nil=>intro a X m h;refine⟨⟨[],rfl⟩,?_⟩;rw[show Az a.pF ([].map Tr.pF)=[] from rfl,List.take_nil,BJ];exact h.trans (BJ X).symm|cons t c i=>intro a X m h;rw[XO,show Az a.pF ((t::c).map Tr.pF)=seg a.pF t.pF++Az t.pF (c.map Tr.pF) from rfl];by_cases d:(seg a.pF t.pF).length<=m;rw[A5 d,List.take_append,List.take_of_length_le d,<-AD];obtain⟨⟨g,e⟩,q⟩:=i t (X++seg a.pF t.pF) (m-(seg a.pF t.pF).length) (by rw[seg,<-AD];exact Pk _ _ rfl);exact⟨⟨g,A3 (t::·) e⟩,q.trans<|AD ..⟩;rw[A1 d];have j:m<=(Cw a.pF.f t.pF.f).length:=CF<|Nat.lt_of_lt_of_eq (Nat.not_le.mp d) A9;refine⟨⟨t::c,rfl⟩,?_⟩;rw[seg,AD,List.take_append_of_le_length j,je _ _<|jf (Qo _ _) m,h];exact(BJ X).symm
noncomputable def K6(n:Int)(l:List Rec):Bool:=l.any<|EE n
def ji(l:List Rec):∀(t a:PF),t.r=a.r->(l.foldl CJ t).r=(l.foldl CJ a).r:=by induction l with|nil=>exact λ_ _ h=>h|cons x l c=>refine λt a h=>c _ _ ?_;cases x with|wr m p=>exact h|fr m=>exact h|cm k=>rfl
def Qq(n:Int)(x:Rec)(t:PF):EE n x=false->(CJ t x).f n=t.f n:=by cases x with|wr m p=>exact λh=>Ay λe=>of_decide_eq_false h e.symm|fr m=>exact λh=>Ay λe=>of_decide_eq_false h e.symm|cm k=>exact λ_=>rfl
def jj(n:Int)(x:Rec)(t a:PF):EE n x=true->(CJ t x).f n=(CJ a x).f n:=by cases x with|wr m p=>exact λh=>by obtain rfl:m=n:=D2 h;exact Aj.trans Aj.symm|fr m=>exact λh=>by obtain rfl:m=n:=D2 h;exact Aj.trans Aj.symm|cm k=>exact λh=>Bool.noConfusion h
def XQ(n:Int)(l:List Rec):∀(t a:PF),(K6 n l=true\/t.f n=a.f n)->(l.foldl CJ t).f n=(l.foldl CJ a).f n:=by induction l with|nil=>exact λ_ _ h=>h.resolve_left Cb|cons x l c=>refine λt a h=>c _ _ ?_;cases hb:EE n x with|true=>exact .inr (jj n x t a hb)|false=>have h:(EE n x||K6 n l)=true\/t.f n=a.f n:=h;rw[hb,Bool.false_or] at h;exact h.imp_right λh=>(Qq n x t hb).trans<|h.trans (Qq n x a hb).symm
def Qr(n:Int)(l:List Rec):∀(t:PF),K6 n l=false->(l.foldl CJ t).f n=t.f n:=by induction l with|nil=>exact λ_ _=>rfl|cons x l a=>exact λt h=>(a _ (Bool.or_eq_false_iff.mp h).2).trans<|Qq n x t (Bool.or_eq_false_iff.mp h).1
def XR{f g:DO}{n m:Int}(h:n≠m):K6 n (d1 f g m)=false:=List.any_eq_false.mpr λx a q=>h (D2<|(XN a).2 n▸q).symm
open Classical in
def jk{f g:DO}{n:Int}{t:PF}(h:t.f n=f n):((d1 f g n).foldl CJ t).f n=g n:=by
 unfold d1;cases hf:f n with
 |none=>cases hg:g n with|none=>exact h.trans hf|some y=>exact Aj
 |some x=>cases hg:g n with|none=>exact Aj|some y=>show((if x=y then [] else [Rec.wr n y]).foldl CJ t).f n=_;split;rename_i e;exact h.trans<|hf.trans<|A3 some e;exact Aj
def jl{f g:DO}(n:Int)(a:List Int):∀(t:PF),a.Nodup->(∀n∈a,t.f n=f n)->((a.flatMap<|d1 f g).foldl CJ t).f n=if n∈a then g n else t.f n:=by induction a with|nil=>exact λt _ _=>(A1 Ax).symm|cons m a j=>intro t c h;have c:=Bi.mp c;rw[List.flatMap_cons,List.foldl_append,j _ c.2 λk i=>(Qr k _ _<|XR λe:k=m=>c.1<|e▸i).trans<|h k<|Ah _ i];by_cases d:n=m;subst d;rw[A1 c.1,A5 AT];exact jk<|h n AT;rw[Qr n _ _<|XR d];by_cases q:n∈a;rw[A5 q,A5<|Ah _ q];rw[A1 q,A1 λx=>(An.mp x).elim d q]
def XS:B7.Nodup:=by decide
def jm{f g:DO}(o:C1 f)(j:C1 g)(r:Int):(Cw f g).foldl CJ ⟨f,r⟩=⟨g,r⟩:=by
 have u:((Cw f g).foldl CJ ⟨f,r⟩).f=g:=funext λn=>by
  unfold Cw;rw[jl n B7 _ XS λ_ _=>rfl];by_cases c:n∈B7;exact A5 c;rw[A1 c];have a:f n=.none:=by cases e:f n with|none=>rfl|some y=>exact absurd (o n y e) c
  have b:g n=.none:=by cases e:g n with|none=>rfl|some y=>exact absurd (j n y e) c
  rw[b];exact a
 have s:((Cw f g).foldl CJ ⟨f,r⟩).r=r:=by
  have:∀(l:List Rec)(t:PF),K5 l->(l.foldl CJ t).r=t.r:=by intro l;induction l with|nil=>intro t _;rfl|cons x l d=>intro t h;refine(d _ λy i=>h y<|Ah _ i).trans ?_;cases x with|cm k=>exact absurd (h _ AT) (by intro e;exact Kd e)|wr m p=>rfl|fr m=>rfl
  exact this _ _<|Qo _ _
 generalize (Cw f g).foldl CJ ⟨f,r⟩=q at *;cases q;subst u;subst s;rfl
def jn{a b:PF}(d:C1 a.f)(c:C1 b.f):(seg a b).foldl CJ a=b:=by rw[seg,List.foldl_append,show a=⟨a.f,a.r⟩ from rfl,jm d c];rfl
def XT(c:List PF):∀(a:PF),C1 a.f->(∀t∈c,C1 t.f)->(Az a c).foldl CJ a=DS a c:=by induction c with|nil=>exact λ_ _ _=>rfl|cons t c d=>intro a g h;rw[show Az a (t::c)=seg a t++Az t c from rfl,List.foldl_append,jn g<|h t AT];exact d t (h t AT) λu e=>h u<|Ah _ e
def XU:∀(d:List PF)(a:PF),Cy (Az a d)=Az a d:=λd a=>by rcases List.eq_nil_or_concat d with rfl|⟨c,u,rfl⟩;rfl;rw[List.concat_eq_append,Qp];show Cy (Az a c++(seg (DS a c) u++[]))=_;rw[BJ,seg,<-AD,Pk _ _ rfl];show _=Az a c++(seg (DS a c) u++[]);rw[BJ,seg,AD]
structure Log3(d:PF)(t1 t2:List PF)(dk:PF):Prop where
 good:∀t∈d::(t1++t2),Bl t
 r:dk.r=d.r
 f:∀n,∃us vs,t1=us++vs/\dk.f n=(DS d us).f n
section
variable{d i t:PF}{c f j vs:List PF}
def PF.ext'{a b:PF}(g:a.f=b.f)(e:a.r=b.r):a=b:=by cases a;cases b;subst g;subst e;rfl
def Log3.more(h:Log3 d c f i)(e:f=j++vs):Log3 d (c++j) [] i:=⟨λt a=>h.good t (by
 rw[BJ] at a;rw[e,<-AD];exact(An.mp a).elim (λq=>q▸AT) λq=>Ah _<|BC _ q),h.r,λn=>by
 obtain⟨u,v,k,g⟩:=h.f n;exact⟨u,v++j,by rw[k,AD],g⟩⟩
def Log3.com(h:Log3 d c f i)(g:Bl t):Log3 d c (f++[t]) i:=⟨λu a=>by rw[<-AD,<-List.cons_append] at a;exact(BE.mp a).elim (h.good u) λq=>Ao.mp q▸g,h.r,h.f⟩
def Log3.chk(g:Bl d):Log3 d [] [] d:=⟨λt a=>Ao.mp a▸g,rfl,λn=>⟨[],[],rfl,rfl⟩⟩
def XV(c:List PF)(d:PF):DS d c∈d::c:=by induction c generalizing d with|nil=>exact AT|cons t c a=>exact Ah _<|a t
def XW{n:Int}{a:PF}{e:List PF}(k:C1 a.f)(h:∀t∈e,C1 t.f)(g:K6 n (Az a e)=false):(DS a e).f n=a.f n:=by rw[<-XT e a k h,Qr n _ _ g]
def Log3.sp(h:Log3 d c f i):C1 d.f/\C1 (DS d c).f/\∀t∈f,C1 t.f:=⟨(h.good d AT).dm,(h.good _<|by rw[<-List.cons_append];exact BC _<|XV c d).dm,λt a=>(h.good t<|Ah _<|Aw _ a).dm⟩
theorem Log3.fls(h:Log3 d c f i)(n:Int):Log3 d c f<|U.fls n (Az (DS d c) f) i<|DS d<|c++f:=by unfold U.fls;cases hy:(DS d<|c++f).f n with|none=>exact h|some y=>cases hb:(Az (DS d c) f).any (EE n) with|true=>exact h|false=>refine⟨h.good,h.r,λm=>?_⟩;by_cases a:m=n;subst a;refine⟨c,[],(BJ _).symm,?_⟩;show upd i.f m (some y) m=_;rw[Aj,<-hy,jg];exact XW h.sp.2.1 h.sp.2.2 hb;obtain⟨u,v,g,e⟩:=h.f m;exact⟨u,v,g,(Ay a).trans e⟩
def Log3.cut{d:Tr}{c f:List Tr}(h:Log3 d.pF (c.map Tr.pF) (f.map Tr.pF) i){l:Tr}(o:DS d.pF (c.map Tr.pF)=l.pF)(m:Nat):(∃vs,f=CU l f m++vs)/\Cy (Az d.pF (c.map Tr.pF)++(Az l.pF<|f.map Tr.pF).take m)=Az d.pF ((c++CU l f m).map Tr.pF)/\(Az d.pF<|(c++CU l f m).map Tr.pF).foldl CJ i=DS d.pF ((c++CU l f m).map Tr.pF):=by obtain⟨⟨vs,e⟩,p⟩:=jh f l (Az d.pF<|c.map Tr.pF) m<|XU _ _;have v:f.map Tr.pF=(CU l f m).map Tr.pF++vs.map Tr.pF:=(A3 (List.map Tr.pF) e).trans AF;generalize CU l f m=j at *;have k:∀{a b:List PF},c.map Tr.pF++j.map Tr.pF=a++b->∀t∈a,C1 t.f:=λ{a b} q t g=>(h.good t<|Ah _<|by rw[v,<-AD,q];exact BC _<|BC _ g).dm;rw[AF];refine⟨⟨vs,e⟩,by rw[p,Qp,o],?_⟩;rw[<-XT (c.map Tr.pF++j.map Tr.pF) d.pF h.sp.1<|k (BJ _).symm];refine PF.ext' (funext λn=>?_)<|ji _ _ _ h.r;cases g:K6 n (Az d.pF<|c.map Tr.pF++j.map Tr.pF) with|true=>exact XQ n _ _ _ (.inl g)|false=>
 obtain⟨a,b,u,s⟩:=h.f n;have q:c.map Tr.pF++j.map Tr.pF=a++(b++j.map Tr.pF):=by rw[u,AD]
 refine XQ n _ _ _<|.inr<|s.trans<|XW h.sp.1 (k q) ?_;rw[q,Qp] at g;exact(Bool.or_eq_false_iff.mp<|List.any_append.symm.trans g).1
end
def XX{n:Int}{y:Pag}(L:List<|Int×Pag):pf L n=some y->(n,y)∈L:=by induction L with|nil=>intro h;exact Ae h|cons p L a=>intro h;have h:(if n=p.1 then some p.2 else AX n L)=some y:=h;by_cases e:n=p.1;rw[A5 e] at h;obtain rfl:=Option.some.inj h;exact e▸AT;rw[A1 e] at h;exact Ah _<|a h
def XY(R:List A6):∀q∈AV R,Pg q.2.d:=λq a=>by obtain⟨r,_,rfl⟩:=B9.mp a;exact .leaf _
def XZ(T:Tr):∀q∈T.pgs,Pg q.2.d:=by cases T with|one x=>exact XY [x]|top t c=>intro q a;refine(BE.mp a).elim (XY _ q) λa=>(BE.mp a).elim (λa=>?_) λa=>?_;obtain⟨G,_,rfl⟩:=B9.mp a;exact .inner _ _;obtain⟨G,_,rfl⟩:=B9.mp a;exact .inner _ _
def WF.good{T:Tr}(w:WF 18 T):Bl T.pF:=λn y e=>by obtain⟨p,a,rfl⟩:=Option.map_eq_some_iff.mp e;have:=XX _ a;have q:=w.nk.dm n<|B9.mpr ⟨_,this,rfl⟩;exact⟨XZ T _ this,q.1,Int.lt_trans q.2<|by decide⟩
section
variable{a b:PF}{o:List Rec}{k:Int}{xs:List (Str×V)}{c:Cell}
def jo{f:Type}(B:List<|Int×f):∀A:List<|Int×f,(A.map (·.1)).Nodup->((B.foldl (λd p=>BX p.1 p.2 d) A).map (·.1)).Nodup/\∀n,n∈(B.foldl (λd p=>BX p.1 p.2 d) A).map (·.1)↔n∈A.map (·.1)\/n∈B.map (·.1):=by induction B with|nil=>exact λA h=>⟨h,λn=>⟨.inl,λq=>q.elim id λq=>absurd q Ax⟩⟩|cons p B g=>
 intro A h;have e:=L3 p.1 p.2 A;have l:((BX p.1 p.2 A).map (·.1)).Nodup:=L6 h;have m:∀n,n∈(BX p.1 p.2 A).map (·.1)↔n∈A.map (·.1)\/n=p.1:=λn=>by rw[e];by_cases q:p.1∈A.map (·.1);rw[A5 q];exact⟨.inl,λz=>z.elim id λz=>z▸q⟩;rw[A1 q,BE,Ao]
 obtain⟨j,i⟩:=g _ l;refine⟨j,λn=>?_⟩;rw[List.foldl_cons,i n,m n,List.map_cons,An,or_assoc]
def Xa{f:DO}(s:C1 f){n:Int}:n∈(AH f).map (·.1)↔(f n).isSome=true:=by have:=L4 s (n:=n);rw[Am] at this;exact this
def jp(t:C1 a.f)(r:C1 b.f){g:List Cell}{m:Nat}(h:g[m]?=some (.dct false<|DC<|(AH a.f++AH b.f).map B5)):E9 g "sorted" (.val<|.loc m)=some (.fresh<|((B7.filter λn=>(a.f n).isSome||(b.f n).isSome).map D.int).map V.d):=by
 have e:DC ((AH a.f++AH b.f).map B5)=((AH b.f).foldl (λj p=>BX p.1 p.2 j)<|AH a.f).map B5:=(UI V.d (AH a.f++AH b.f) []).trans (A3 (List.map B5)<|by rw[List.foldl_append,UK (A:=[]) (B:=AH a.f)<|Cf FU];rfl);obtain⟨x,w⟩:=jo (AH b.f) (AH a.f)<|Cf FU;rw[e] at h;generalize (AH b.f).foldl (λj p=>BX p.1 p.2 j) (AH a.f)=A at *;have l:∀n,n∈A.map (·.1)↔(a.f n).isSome=true\/(b.f n).isSome=true:=λn=>by rw[w n,Xa t,Xa r]
 have v:∀n∈A.map (·.1),n∈B7:=λn u=>((l n).mp u).elim (λq=>by obtain⟨y,i⟩:=Option.isSome_iff_exists.mp q;exact t n y i) λq=>by obtain⟨y,i⟩:=Option.isSome_iff_exists.mp q;exact r n y i
 have s:=Pa x v;have z:(B7.filter λn=>(A.map (·.1)).contains n)=B7.filter λn=>(a.f n).isSome||(b.f n).isSome:=A3 (λp=>B7.filter p) (funext λn=>by rw[Bool.eq_iff_iff,Dp,Bool.or_eq_true,l n]);rw[z,Am] at s;refine(A1<|by decide).trans ((A1<|by decide).trans<|(A1<|by decide).trans<|(A5 rfl).trans<|Br (a:=(false,A.map B5)) (by show KE g[m]?=_;rw[h];rfl)<|Aa ?_ rfl);rw[Am];exact s
noncomputable def FD(a b:PF)(o:List Rec)(c:Cell):List Cell:=[.dct false<|(AH a.f).map B5,.dct false<|(AH b.f).map B5,.lst<|o.map λr=>V.d<|Ap r,c]
noncomputable def Ld(b:PF):List<|Str×V:=[("was",.loc 0),("now",.loc 1),("out",.loc 2),("new",.d<|BD b)]
def Xb(x:Rec):(FD a b o c).set 2 (.lst<|(o.map λr=>V.d<|Ap r)++[.d<|Ap x])=FD a b (o++[x]) c:=by unfold FD;rw[AF];rfl
def Xc{e:List Cell}{i:Nat}{f:List (Int×V)}{w:V}(g:(AX k f).getD (.d .none)=w):KY e i false f "get" [.d<|.int k]=some (.val w,e):=(A5 rfl).trans<|bnd (a:=V.d<|.int k) rfl<|bnd (a:=(false,k)) rfl<|Bk Gp<|by rw[g]
def Xd(g:Bl a):(AX k<|(AH a.f).map B5).getD (.d .none)=.d ((a.f k).getD .none):=by rw[Gu g];cases a.f k<;>rfl
open Classical in
def jq{y:D}(j:Bl a)(i:Bl b)(h:b.f k=some y):GU ((a.f k).getD .none) y=some (decide (a.f k=some y)):=by have d:=i.pg k y h;cases hx:a.f k with|none=>rw[decide_eq_false<|by intro e;exact Ae e];refine Hi rfl (He d 27) ?_;cases d<;>rfl|some x=>have g:=j.pg k x hx;have:=Hi (He g 27) (He d 27)<|UQ g d;rw[show decide (some x=some y)=decide (x=y) from decide_eq_decide.mpr ⟨Option.some.inj,A3 some⟩];exact this
open Classical in
def jr(v:Bl a)(t:Bl b)(h:AA xs<|("n",.d<|.int k)::Ld b)(u:o.length<900)(r:((a.f k).isSome||(b.f k).isSome)=true):Ex gl GF 20 (CA<|Bd GF 1) ⟨xs,FD a b o c⟩ .next ⟨xs,FD a b (o++d1 a.f b.f k) c⟩:=by
 have g:∀{K:Nat}{p q s:Pos},true=Dh (.Name "now" p) q s 1->∀{j:Pos},Ev gl GF (K+2) (.Call (.Attribute (.Name "now" p) "get" q) [.Name "n" j] [] s) ⟨xs,FD a b o c⟩ (.val<|.d<|(b.f k).getD .none) ⟨xs,FD a b o c⟩:=λ{K p q s} m {j}=>Ku (i:=1) m (pn h rfl rfl) rfl (sZ<|pn h rfl rfl) rfl<|Xc<|Xd t;have w:∀{K:Nat}{p q s:Pos},true=Dh (.Name "was" p) q s 1->∀{j:Pos},Ev gl GF (K+2) (.Call (.Attribute (.Name "was" p) "get" q) [.Name "n" j] [] s) ⟨xs,FD a b o c⟩ (.val<|.d<|(a.f k).getD .none) ⟨xs,FD a b o c⟩:=λ{K p q s} m {j}=>Ku (i:=0) m (pn h rfl rfl) rfl (sZ<|pn h rfl rfl) rfl<|Xc<|Xd v;cases hy:b.f k with
 |none=>rw[hy] at r g;cases hx:a.f k with|none=>rw[hx] at r;exact Bw r|some x=>rw[show d1 a.f b.f k=[.fr k] from by unfold d1;rw[hx,hy]];exact xO<|B4 (Jm (g rfl) rfl)<|xO<|Hf rfl (pn h rfl rfl) rfl (AK<|BU (vs:=[.d<|.str "free",.d<|.int k]) (sK (CZ Ms)<|sZ<|pn h rfl rfl) rfl<|by decide) rfl (Mt u)<|Xb<|.fr k
 |some y=>
  have l:isNone (.val<|.d y)=false:=by have:=t.pg k y hy;cases this<;>rfl
  have e:=jq v t hy;rw[hy] at g;refine xO<|Av (Jm (g rfl) l) ?_;by_cases q:a.f k=some y;rw[show d1 a.f b.f k=[] from by unfold d1;rw[q,hy];exact A5 rfl,BJ];rw[Ac q] at e;exact xO<|Av (Af rfl (w rfl) (g rfl)<|FV e rfl) Bh;rw[show d1 a.f b.f k=[.wr k y] from by unfold d1;rw[hy];cases hx:a.f k with|none=>rfl|some x=>exact A1 λz=>q<|hx.trans<|A3 some z];rw[decide_eq_false q] at e;exact xO<|B4 (Af rfl (w rfl) (g rfl)<|FV e rfl)<|xO<|Hf rfl (pn h rfl rfl) rfl (AK<|BU (vs:=[.d<|.str "write",.d<|.int k,.d y]) (sK (CZ L5)<|sN h rfl rfl<|sZ<|g rfl) rfl<|by decide) rfl (Mt u)<|Xb<|.wr k y
def js(w:Bl a)(v:Bl b)(g:List Int):∀(o:List Rec)(xs:List<|Str×V),(∀k∈g,((a.f k).isSome||(b.f k).isSome)=true)->AA xs (Ld b)->o.length+g.length<900->∃j,Lp gl GF 20 (.one "n") (CA<|Bd GF 1) (g.map λi=>.d<|.int i) ⟨xs,FD a b o c⟩ ⟨j,FD a b (o++g.flatMap (d1 a.f b.f)) c⟩/\AA j (Ld b):=by induction g with|nil=>exact λo xs _ h _=>⟨xs,by rw[List.flatMap_nil,BJ];exact F0,h⟩|cons k r q=>intro o xs p h l;have u:=PY a.f b.f k;have l:o.length+(r.length+1)<900:=l;have t:AA (AS "n" (V.d<|.int k) xs)<|("n",.d<|.int k)::Ld b:=.cons CL<|h.other rfl;obtain⟨j,e,s⟩:=q (o++d1 a.f b.f k) _ (λk m=>p k<|Ah _ m) (h.other rfl:AA (AS "n" (V.d<|.int k) xs)<|Ld b) (by rw[A9,Bv,C7 (d1 a.f b.f k).length];exact AO (BW (BW u _) _) l);rw[List.flatMap_cons,<-AD];exact⟨j,ED GI (jr w v t (AO (BA _ _) l)<|p k AT) e,s⟩
def jt{G:Gl}{g:Fn}{K:Nat}{e:Expr}{f:St}{i:List Cell}{p q:Pos}{A:PM}(r:∀n,Es G (AY G<|n+K) g "dict" [e] f=M3 (AY G<|n+K) g e f)(h:Ev G g K e f (.fresh<|(A.map BT).map V.d) ⟨xs,i⟩):Ev G g (K+1) (.Call (.Name "dict" q) [e] [] p) f (.val<|.loc i.length) ⟨xs,i++[.dct false<|DC<|A.map B5]⟩:=by have m:(A.map BT).map V.d=A.map λp=>V.d<|BT p:=Am;have j:=Ks r h (l:=A.map λp=>V.d<|BT p) (prs:=A.map B5) (A3 some m) (by rw[Mq];exact UH A) (p:=p) (q:=q);rw[Mq] at j;exact j
def ju(m:Bl a)(j:Bl b):Cl gl GF 40 [.d<|BD a,.d<|BD b] [] (.fresh<|((seg a b).map Ap).map V.d) []:=by have g:AA [("old",V.d<|BD a),("new",V.d<|BD b)] [("old",V.d<|BD a),("new",V.d<|BD b)]:=.refl;obtain⟨ys,e,h⟩:=js (c:=.dct false<|DC<|(AH a.f++AH b.f).map B5) m j (B7.filter λn=>(a.f n).isSome||(b.f n).isSome) [] [("old",V.d<|BD a),("new",V.d<|BD b),("was",.loc 0),("now",.loc 1),("out",.loc 2)] (λk p=>(List.mem_filter.mp p).2) (.cons rfl<|.cons rfl<|.cons rfl<|.cons rfl .nil)<|AO (BW (List.length_filter_le _ _) _)<|nL rfl;rw[List.nil_append,UW] at e;refine Cl.u (K:=30) (Ct rfl rfl<|Ag rfl (Cr rfl rfl (BG (AK<|IU (σ:=[]) (λn=>rfl) (iX (pn g rfl rfl) rfl)<|Cf FU)<|BG (AK<|IU (λn=>rfl) (iX (pn g rfl rfl) rfl)<|Cf FU)<|BG (Cq (l:=[]) (Bt CC rfl) rfl) Cs)<|tN rfl<|tN rfl<|tO rfl) ?_) rfl;refine Ag (xs':=ys) (σ':=FD a b (Cw a.f b.f)<|.dct false<|DC<|(AH a.f++AH b.f).map B5) rfl (Ez (l:=⟨(B7.filter λn=>(a.f n).isSome||(b.f n).isSome).map λi=>.d<|.int i,false⟩) (Ky (λ_=>rfl) (BP (λ_=>rfl) (jt (A:=AH a.f++AH b.f) (λ_=>rfl)<|Ak (iX (pR rfl rfl) rfl) (iX (pR rfl rfl) rfl) ?_)<|jp m.dm j.dm rfl) LL) rfl rfl<|Mine.U.up (nL rfl) (P:=λn=>forLoop' (AY gl n) GF _ _ _ _=some _) e) ?_;rw[AF];refine D3 (xs:=(AH a.f).map BT) (ys:=(AH b.f).map BT) rfl rfl rfl ?_;rw[A4,A4];exact AO (Nat.add_le_add Go Go)<|nL rfl;refine CR (r₁:=.fresh<|((seg a b).map Ap).map V.d) rfl (Bo<|Ak (pn h rfl rfl) (Bt (sZ<|BU (v:=.d<|Ap<|.cm b.r) (sK (CZ DZ)<|sZ<|iX (pn h rfl rfl) rfl) rfl<|by decide) rfl) ?_)<|Aa (ND 8<|(seg a b).map Ap) rfl;unfold seg;rw[AF (f:=Ap)];refine D3 (σ:=FD a b (Cw a.f b.f)<|.dct false<|DC<|(AH a.f++AH b.f).map B5) (r₁:=.val<|.loc 2) (r₂:=.fresh [V.d<|Ap<|.cm b.r]) (xs:=(Cw a.f b.f).map Ap) (ys:=[Ap<|.cm b.r]) rfl (show some ((Cw a.f b.f).map λr=>V.d<|Ap r)=_ from A3 some Am.symm) rfl ?_;rw[A4];exact AO (CV<|PZ _ _)<|nL rfl
end
noncomputable def Bg:Tr->List Tr->Tr|a,[]=>a|_,t::c=>Bg t c
def K7(c:List Tr)(a:Tr):DS a.pF (c.map Tr.pF)=(Bg a c).pF:=by induction c generalizing a with|nil=>rfl|cons t c d=>exact d t
def Xe(d:List Tr)(a:Tr):∃c,a::d=c++[Bg a d]:=by induction d generalizing a with|nil=>exact⟨[],rfl⟩|cons t d f=>obtain⟨i,e⟩:=f t;exact⟨a::i,A3 (a::·) e⟩
def jv(c:List Tr)(a t:Tr):Bg a (c++[t])=t:=by induction c generalizing a with|nil=>rfl|cons u c d=>exact d u
abbrev GP:=Tr×Tr
noncomputable def B0(p:GP):List Rec:=seg p.1.pF p.2.pF
noncomputable def eG(p:GP):D:=.tup [BZ<|B0 p,AI p.2.flat]
noncomputable def DT:Tr->List Tr->List GP|_,[]=>[]|a,t::c=>(a,t)::DT t c
def Nv(c d:List Tr)(a:Tr):DT a (c++d)=DT a c++DT (Bg a c) d:=by induction c generalizing a with|nil=>rfl|cons t c e=>exact A3 ((a,t)::·)<|e t
def Qs(c:List Tr)(a:Tr):(DT a c).map (·.2)=c:=by induction c generalizing a with|nil=>rfl|cons t c d=>exact A3 (t::·)<|d t
def Le(c:List Tr)(a:Tr):(DT a c).length=c.length:=by rw[<-A4 (f:=(·.2)),Qs]
def Qt(c:List Tr)(a:Tr):(DT a c).flatMap B0=Az a.pF (c.map Tr.pF):=by induction c generalizing a with|nil=>rfl|cons t c d=>exact A3 (seg a.pF t.pF++·)<|d t
noncomputable def Cz:Int->List GP->List GP|_,[]=>[]|i,p::a=>(if 0<=i-((B0 p).length:Int) then [p] else [])++Cz (i-((B0 p).length:Int)) a
def Qu(i:Int)(p:GP)(a:List GP):Cz i (p::a)=(if 0<=i-((B0 p).length:Int) then [p] else [])++Cz (i-((B0 p).length:Int)) a:=rfl
def jw(a:List GP):∀i:Int,i<0->Cz i a=[]:=by induction a with|nil=>exact λ_ _=>rfl|cons p a c=>intro i h;have:i-((B0 p).length:Int)<0:=Int.lt_of_le_of_lt (Int.sub_le_self i<|Int.natCast_nonneg _) h;rw[Qu,A1<|Int.not_le.mpr this,c _ this];rfl
def Xf(c:List Tr):∀(a:Tr)(m:Nat),Cz (m:Int) (DT a c)=DT a (CU a c m):=by induction c with|nil=>exact λ_ _=>rfl|cons t c d=>intro a m;rw[XO,show DT a (t::c)=(a,t)::DT t c from rfl,Qu,show B0 (a,t)=seg a.pF t.pF from rfl];by_cases h:(seg a.pF t.pF).length<=m;rw[A5 h,<-Int.ofNat_sub h,A5<|Int.natCast_nonneg _,d];rfl;have:(m:Int)-((seg a.pF t.pF).length:Int)<0:=Int.sub_neg_of_lt<|Bc.mpr<|Nat.not_le.mp h;rw[A1 h,A1<|Int.not_le.mpr this,jw _ _ this];rfl
section
variable{xs:List (Str×V)}{L ps:List GP}{p:GP}{i:Int}{d:Tr}
noncomputable def Lf(L:List GP):List Cell:=[.lst<|(L.map eG).map V.d]
noncomputable def Lh(i:Int):List<|Str×V:=[("n",.d<|.int i),("left",.loc 0)]
def jx(h:AA xs<|("g",.d<|eG p)::Lh i)(e:L.length<900):∃c,Ex gl Gj 20 (CA<|Bd Gj 1) ⟨xs,Lf L⟩ .next ⟨c,Lf<|L++(if 0<=i-((B0 p).length:Int) then [p] else [])⟩/\AA c (Lh<|i-((B0 p).length:Int)):=by have a:AA (AS "n" (.d<|.int<|i-((B0 p).length:Int)) xs)<|("g",.d<|eG p)::Lh (i-((B0 p).length:Int)):=h.put rfl;refine⟨_,BR (Ad (AK<|Ak (b:=.val<|.d<|.int ((B0 p).length:Int)) (pn h rfl rfl) (BP (λ_=>rfl) (iX (pn h rfl rfl) rfl)<|(Do _).trans<|by rw[A4]) rfl) rfl)<|xO ?_,a.trans<|.cons rfl<|.cons rfl .nil⟩;by_cases q:0<=i-((B0 p).length:Int);rw[A5 q];refine B4 (Af rfl (pn a rfl rfl) AN<|A3 some<|Ac q)<|xO<|Hf rfl (pn a rfl rfl) rfl (kN a rfl rfl) rfl ?_ ?_;rw[A4,A4];exact AM e<|nL rfl;unfold Lf;rw[AF,AF];rfl;rw[A1 q,BJ];exact Av (Af rfl (pn a rfl rfl) AN<|A3 some<|decide_eq_false q) Bh
def jy(ps:List GP):∀{xs:List (Str×V)}{L:List GP}{i:Int},AA xs (Lh i)->L.length+ps.length<900->∃c,Lp gl Gj 20 (.one "g") (CA<|Bd Gj 1) (ps.map λp=>V.d<|eG p) ⟨xs,Lf L⟩ ⟨c,Lf<|L++Cz i ps⟩/\∃j,AA c<|Lh j:=by induction ps with|nil=>exact λ{xs L i} h _=>⟨xs,by rw[show Cz i []=[] from rfl,BJ];exact F0,i,h⟩|cons p ps k=>
 intro xs L i h a;have a:L.length+(ps.length+1)<900:=a;obtain⟨c,n,m⟩:=jx (p:=p) (L:=L) (i:=i) (xs:=AS "g" (.d<|eG p) xs) (.cons CL<|h.other rfl)<|AO (BA _ _) a;obtain⟨f,e,l⟩:=k (L:=L++(if 0<=i-((B0 p).length:Int) then [p] else [])) m (by
  have:(if 0<=i-((B0 p).length:Int) then [p] else []).length<=1:=by split<;>first|exact Au 1|exact Bm 1
  rw[A9,Bv,C7 _ ps.length];exact AO (BW (BW this _) _) a)
 rw[AD,<-Qu] at e;exact⟨f,ED GI n e,l⟩
def Xg(c:L.length+ps.length<900):Cl gl Gj 30 [.d<|.lst<|L.map eG,.d<|.lst<|ps.map eG,.d<|.int i] [] (.val<|.d<|.lst<|(L++Cz i ps).map eG) []:=by obtain⟨f,e,j,a⟩:=jy ps (L:=L) (i:=i) (xs:=[("safe",.d<|.lst<|L.map eG),("pending",.d<|.lst<|ps.map eG),("n",.d<|.int i),("left",.loc 0)]) (.cons rfl<|.cons rfl .nil) c;exact Ct rfl rfl<|Ag rfl (Ad (Cq (l:=(L.map eG).map V.d) (BP (λ_=>rfl) (pR rfl rfl) rfl) rfl) rfl)<|Ag rfl (Ez (l:=⟨ps.map λp=>V.d<|eG p,false⟩) (By rfl (pR rfl rfl) DG) rfl rfl<|Mine.U.up (nL rfl) (P:=λn=>forLoop' (AY gl n) Gj _ _ _ _=some _) e)<|CR rfl (Bo<|pn a rfl rfl)<|Pd rfl
def Xh(f:ps.length<900):Cl gl MY 30 [.d<|AI d.flat,.d<|.lst<|ps.map eG] [] (.val<|.d<|AI (Bg d<|ps.map (·.2)).flat) []:=by obtain⟨c,e⟩:=Xe (ps.map (·.2)) d;refine Cl.u (K:=20) (Ct rfl rfl<|CR rfl (Bo<|BI (w:=.d<|AI (Bg d<|ps.map (·.2)).flat) (i:=.val<|.d<|.int<|-1) rfl (Ak (x:=.fresh<|((d::ps.map (·.2)).map λt=>AI t.flat).map V.d) (Bt (sO rfl rfl) rfl) (DF (g:=λp:GP=>V.d<|eG p) (h:=λp:GP=>V.d<|AI p.2.flat) (b:=λ_=>true) (l:=ps) (lr:=((ps.map (·.2)).map λt=>AI t.flat).map V.d) (ys:=[]) (By rfl (pR rfl rfl) DG) rfl rfl rfl .nil rfl (λp _ k j=>⟨FY,λ_=>AK<|iX (pn j rfl rfl) rfl⟩) ?_ ?_) ?_) (λn=>rfl) ?_) rfl) rfl;exact BS<|AM f<|nL rfl;rw[List.filter_eq_self.mpr λ_ _=>rfl,Am,Am];rfl;exact D3 (r₁:=.fresh [V.d<|AI d.flat]) (r₂:=.fresh<|((ps.map (·.2)).map λt=>AI t.flat).map V.d) (xs:=[AI d.flat]) (ys:=(ps.map (·.2)).map λt=>AI t.flat) rfl rfl rfl (by rw[A4,A4,List.length_singleton,C7];exact AM (Cc f)<|nL rfl);refine DM rfl<|bnd (a:=-1) rfl<|bnd (a:=((d::ps.map (·.2)).map λt=>AI t.flat).map V.d) rfl ?_;rw[e,AF,AF];exact Pl _ _
end
def WF.tree{N:Int}{T:Tr}(w:WF N T):Cl gl Co 80 [.d<|AI T.flat] [] (.val<|.d T.pd) []:=by cases T with|one x=>exact ie w.nod w.dm|top t a=>
 have z:TSz t a:=w.sz;have l:=Nj w.ord (K3 z) w.key;cases a with
 |nil=>cases t with|none=>cases z.n1 rfl|some t=>exact absurd (z.n2 rfl)<|by decide
 |cons G a=>obtain⟨g,R⟩:=G;cases R with|nil=>exact absurd rfl (z.gr _ AT).ne|cons x R=>exact ig (λG e=>(z.gr G e).ne) (AO (BB Iu)<|AO l<|nL rfl) (λc=>List.eq_nil_of_length_eq_zero<|Nat.succ.inj<|z.n1 c) w.nod w.dm
structure MS where
 hand:Tr
 kept:Tr
 base:Tr
 safe:List GP
 pend:List GP
 disk:PF
noncomputable def mv(s:MS):List<|Str×V:=[("hand",.d<|AI s.hand.flat),("kept",.d<|AI s.kept.flat),("base",.d<|AI s.base.flat),("disk",.d<|BD s.disk),("safe",.d<|.lst<|s.safe.map eG),("pending",.d<|.lst<|s.pend.map eG)]
noncomputable def Qv:List Stmt:=CA<|Bd GG 2
inductive MTurn(xs:List (Str×V))(σ:List Cell)(s':MS):Prop where
 |mk (ys:List (Str×V)) (σ':List Cell):Ex gl GG 230 Qv ⟨xs,σ⟩ .next ⟨ys,σ'⟩->AA ys (mv s')->MTurn xs σ s'
section
variable{K:Nat}{d:List (Str×V)}{s e:MS}{σ:List Cell}{a:Act}{T:Tr}
def pm{l j i g f:Pos}{k m:Nat}{x:Str}{c:Bool}(h:AA d<|("a",.d<|B1 a)::mv s)(n:PyData.strOk x=true)(o:decide (Mu a=x)=c):Tt gl GG (K+3) (.Compare (.Subscript (.Name "a" l) (.Constant (.int 0) k j) i) [.Eq] [.Constant (.str x) m g] f) ⟨d,σ⟩ c ⟨d,σ⟩:=Af rfl (iX (pn h rfl rfl)<|show Ce σ (.val<|.d<|B1 a) _=some (.d<|.str<|Mu a) from by cases a<;>rfl) (CZ n)<|Hh<|Gq o
def Ix{v:V}(h:AA d<|("a",v)::mv s):AA d<|mv s:=h.trans<|.cons rfl<|.cons rfl<|.cons rfl<|.cons rfl<|.cons rfl<|.cons rfl .nil
def jz{k:Int}{v:Str}(h:AA d<|("a",.d<|B1<|.put k v)::mv s)(c:To3 DX 150 [.d<|AI s.hand.flat,.d<|.key k,.d<|.str v] T.flat):MTurn d σ {s with hand:=T}:=⟨_,σ,xO<|B4 (pm (a:=.put k v) h CW rfl)<|xO<|Ad (NN (us:=[.d<|AI s.hand.flat,.d<|.key k,.d<|.str v]) rfl (BQ<|by decide) rfl rfl (sN h rfl rfl<|sK (iX (pn h rfl rfl) rfl)<|sZ<|iX (pn h rfl rfl) rfl) rfl (c.u rfl) rfl) rfl,(Ix h).put rfl⟩
def k4{k:Int}(h:AA d<|("a",.d<|B1<|.rem k)::mv s)(c:To3 BF 200 [.d<|AI s.hand.flat,.d<|.key k] T.flat):MTurn d σ {s with hand:=T}:=⟨_,σ,xO<|As (pm (a:=.rem k) h CW rfl)<|B4 (pm (a:=.rem k) h Cu rfl)<|xO<|Ad (NN (us:=[.d<|AI s.hand.flat,.d<|.key k]) rfl (BQ<|by decide) rfl rfl (sN h rfl rfl<|sZ<|iX (pn h rfl rfl) rfl) rfl (c.u rfl) rfl) rfl,(Ix h).put rfl⟩
def k5(h:AA d<|("a",.d<|B1 .back)::mv s):MTurn d σ {s with hand:=s.kept}:=⟨_,σ,xO<|As (pm (a:=.back) h CW rfl)<|As (pm (a:=.back) h Cu rfl)<|B4 (pm (a:=.back) h Ej rfl)<|xO<|Ad (kN h rfl rfl) rfl,(Ix h).put rfl⟩
def k6(h:AA d<|("a",.d<|B1 .com)::mv s)(c:WF 18 s.kept)(g:WF 18 s.hand)(j:s.pend.length<400):MTurn d σ {s with kept:=s.hand,pend:=s.pend++[(s.kept,s.hand)]}:=by have i:AA (AS "pending" (.d<|.lst<|(s.pend++[(s.kept,s.hand)]).map eG) d)<|mv {s with pend:=s.pend++[(s.kept,s.hand)]}:=(Ix h).put rfl;refine⟨_,σ,xO<|As (pm (a:=.com) h CW rfl)<|As (pm (a:=.com) h Cu rfl)<|As (pm (a:=.com) h Ej rfl)<|B4 (pm (a:=.com) h DZ rfl)<|BR (Ad (BN (ds:=(s.pend++[(s.kept,s.hand)]).map eG) (Ak (pn h rfl rfl) (Bt (sZ<|BU (v:=.d<|eG (s.kept,s.hand)) (CD (BN (ds:=(B0 (s.kept,s.hand)).map Ap) (BY (f:=GF) (us:=[.d s.kept.pd,.d s.hand.pd]) rfl (BQ<|by decide) rfl rfl (sK (BY (f:=Co) (us:=[.d<|AI s.kept.flat]) rfl (BQ<|by decide) rfl rfl (sZ<|pn h rfl rfl) rfl<|Cl.u c.tree rfl)<|sZ<|BY (f:=Co) (us:=[.d<|AI s.hand.flat]) rfl (BQ<|by decide) rfl rfl (sZ<|pn h rfl rfl) rfl<|Cl.u g.tree rfl) rfl<|Cl.u (ju c.good g.good) rfl) rfl<|BO _)<|sZ<|pn h rfl rfl) rfl rfl) rfl) ?_) rfl<|BO _) rfl)<|xO<|Ad (kN i rfl rfl) rfl,i.put rfl⟩;rw[AF];exact D3 (xs:=s.pend.map eG) (ys:=[eG (s.kept,s.hand)]) rfl rfl rfl<|by rw[A4];exact AM (Cc j)<|nL rfl
def k7(h:AA d<|("a",.d<|B1 .syn)::mv s)(c:s.safe.length+s.pend.length<400):MTurn d σ {s with safe:=s.safe++s.pend,pend:=[]}:=by refine⟨_,σ,xO<|As (pm (a:=.syn) h CW rfl)<|As (pm (a:=.syn) h Cu rfl)<|As (pm (a:=.syn) h Ej rfl)<|As (pm (a:=.syn) h DZ rfl)<|B4 (pm (a:=.syn) h GJ rfl)<|xO<|Cr rfl rfl (BG (BN (ds:=(s.safe++s.pend).map eG) (Ak (pn h rfl rfl) (pn h rfl rfl) ?_) rfl<|BO _)<|BG (BN (l:=[]) (ds:=[]) (Bt CC rfl) rfl rfl) Cs)<|tN rfl<|tO rfl,((Ix h).put rfl).put rfl⟩;rw[AF];exact D3 (xs:=s.safe.map eG) (ys:=s.pend.map eG) rfl rfl rfl<|by rw[A4,A4];exact AM c<|nL rfl
def k8(h:AA d<|("a",.d<|B1 .chk)::mv s)(c:WF 18 s.kept):MTurn d σ ⟨s.hand,s.kept,s.kept,[],[],s.kept.pF⟩:=⟨_,σ,xO<|As (pm (a:=.chk) h CW rfl)<|As (pm (a:=.chk) h Cu rfl)<|As (pm (a:=.chk) h Ej rfl)<|As (pm (a:=.chk) h DZ rfl)<|As (pm (a:=.chk) h GJ rfl)<|B4 (pm (a:=.chk) h Hl rfl)<|xO<|Cr rfl rfl (BG (AK<|BY (f:=Co) (us:=[.d<|AI s.kept.flat]) rfl (BQ<|by decide) rfl rfl (sZ<|pn h rfl rfl) rfl<|Cl.u c.tree rfl)<|BG (kN h rfl rfl)<|BG (BN (l:=[]) (ds:=[]) (Bt CC rfl) rfl rfl)<|BG (BN (l:=[]) (ds:=[]) (Bt CC rfl) rfl rfl) Cs)<|tN rfl<|tN rfl<|tN rfl<|tO rfl,((((Ix h).put rfl).put rfl).put rfl).put rfl⟩
def k9{m:Nat}(h:AA d<|("a",.d<|B1<|.crs m)::mv s)(g:s.safe.length+s.pend.length<400)(j:(Cz (m:Int) s.pend).length<=s.pend.length):MTurn d σ ⟨Bg s.base<|(s.safe++Cz m s.pend).map (·.2),Bg s.base<|(s.safe++Cz m s.pend).map (·.2),s.base,s.safe++Cz m s.pend,[],s.disk⟩:=by have c:AA (AS "pending" (.d<|.lst []) (AS "safe" (.d<|.lst<|(s.safe++Cz m s.pend).map eG) d))<|mv {s with safe:=s.safe++Cz m s.pend,pend:=[]}:=((Ix h).put rfl).put rfl;have i:=c.put (x:="kept") (v:=.d<|AI (Bg s.base<|(s.safe++Cz m s.pend).map (·.2)).flat) rfl;exact⟨_,σ,xO<|As (pm (a:=.crs m) h CW rfl)<|As (pm (a:=.crs m) h Cu rfl)<|As (pm (a:=.crs m) h Ej rfl)<|As (pm (a:=.crs m) h DZ rfl)<|As (pm (a:=.crs m) h GJ rfl)<|As (pm (a:=.crs m) h Hl rfl)<|Av (pm (a:=.crs m) h IX rfl)<|BR (Cr rfl rfl (BG (AK<|BY (f:=Gj) (us:=[.d<|.lst<|s.safe.map eG,.d<|.lst<|s.pend.map eG,.d<|.int m]) rfl (BQ<|by decide) rfl rfl (sN h rfl rfl<|sN h rfl rfl<|sZ<|iX (pn h rfl rfl) rfl) rfl<|Cl.u (Xg<|AM g<|nL rfl) rfl)<|BG (BN (l:=[]) (ds:=[]) (Bt CC rfl) rfl rfl) Cs)<|tN rfl<|tO rfl)<|BR (Ad (AK<|BY (f:=MY) (us:=[.d<|AI s.base.flat,.d<|.lst<|(s.safe++Cz m s.pend).map eG]) rfl (BQ<|by decide) rfl rfl (sN c rfl rfl<|sZ<|pn c rfl rfl) rfl<|Cl.u (Xh<|by rw[A9];exact AO (BW j _)<|AM g<|nL rfl) rfl) rfl)<|xO<|Ad (kN i rfl rfl) rfl,i.put rfl⟩
end
section
variable{c:Type}{f:Int->Option c}{n:Int}{y:c}{A:List (Int×c)}
noncomputable def G4(n:Int)(y:Option c):List<|Int×c:=BK y (λy=>[(n,y)]) []
def kA(a:List Int):a.Nodup->(DP a f).filter (λp=>decide (p.1=n))=if n∈a then G4 n (f n) else []:=by induction a with|nil=>exact λ_=>rfl|cons d a g=>
 intro h;have h:=Bi.mp h;have g:=g h.2;rw[JZ];by_cases e:n=d;subst e;rw[A1 h.1] at g;rw[A5 AT];cases hy:f n with|none=>exact g|some y=>show((n,y)::DP a f).filter _=_;rw[List.filter_cons,g];exact A5<|Ac rfl
 rw[show(if n∈d::a then G4 n (f n) else [])=if n∈a then G4 n (f n) else [] from by simp only [An,e,false_or],<-g];cases hy:f d with|none=>rfl|some y=>show((d,y)::DP a f).filter _=_;rw[List.filter_cons];exact A1<|by rw[decide_eq_false λz:d=n=>e z.symm];exact Cb
def kB(s:C1 f):(AH f).filter (λp=>decide (p.1=n))=G4 n (f n):=by unfold AH;rw[kA B7 XS];by_cases h:n∈B7;exact A5 h;rw[A1 h];cases e:f n with|none=>rfl|some y=>exact absurd (s n y e) h
def kC(m:Int):AX m (A.filter λp=>!decide (p.1=n))=if m=n then .none else AX m A:=by induction A with|nil=>exact(ite_self _).symm|cons p A a=>rw[List.filter_cons,Ca];by_cases e:p.1=n;rw[A1<|by rw[Ac e];exact Cb,a];by_cases h:m=n;rw[A5 h,A5 h];rw[A1 h,A1 h,A1 λq=>h<|q.trans e];rw[A5<|by rw[decide_eq_false e];rfl,Ca,a];by_cases h:m=p.1;rw[A5 h,A5 h,A1 λq=>e<|h.symm.trans q];rw[A1 h,A1 h]
def kD(h:Dic A f):Dic (A.filter (λp=>!decide (p.1=n))++[(n,y)])<|upd f n<|some y:=⟨(by rw[AF];refine List.nodup_append.mpr ⟨((List.filter_sublist (l:=A)).map _).nodup h.nod,Bi.mpr ⟨Ax,List.nodup_nil⟩,λa i b g e=>?_⟩;obtain⟨p,d,rfl⟩:=B9.mp i;have:=(List.mem_filter.mp d).2;rw[Ac<|e.trans<|Ao.mp g] at this;exact Bw this), λm=>by rw[Ik,kC,h.look];by_cases e:m=n;rw[A5 e,e,Aj];exact A5 rfl;rw[A1 e,Ay e];cases f m with|none=>exact A1 e|some y=>rfl⟩
end
noncomputable def Nw:Rec->Int|.wr m _=>m|.fr m=>m|.cm r=>r
noncomputable def Fi(n:Int)(p:GP):List Rec:=(Cw p.1.pF.f p.2.pF.f).filter λr=>decide (Nw r=n)
def kE(n:Int)(p:GP):(Fi n p).isEmpty=!(B0 p).any (EE n):=by
 have e:∀l:List Rec,K5 l->(l.filter λr=>decide (Nw r=n))=l.filter (EE n):=λl h=>List.filter_congr λr a=>by have:=h r a;cases r with|wr m p=>rfl|fr m=>rfl|cm k=>exact Kd this
 unfold Fi B0 seg;rw[e _<|Qo _ _,Pj,List.any_append];exact A3 (!·) (Bool.or_false _).symm
def kF(n:Int)(l:List GP):(l.flatMap<|Fi n).isEmpty=!(l.flatMap B0).any (EE n):=by induction l with|nil=>rfl|cons p l a=>rw[List.flatMap_cons,List.flatMap_cons,List.any_append,Bool.not_or,<-a,<-kE];cases Fi n p<;>rfl
def kG(n:Int)(l:List GP):(l.flatMap<|Fi n).length<=(l.flatMap B0).length:=by induction l with|nil=>exact Au _|cons p l a=>rw[List.flatMap_cons,List.flatMap_cons,A9,A9];refine Nat.add_le_add ?_ a;unfold B0 seg;rw[A9];exact AB (List.length_filter_le _ _)<|BA _ _
section
variable{K:Nat}{xs:List (Str×V)}{s j:MS}{c:List Cell}{n:Int}
def kH{r:Rec}:Ce c (.val<|.d<|Ap r) (.val<|.d<|.int 1)=some (.d<|.int<|Nw r):=by cases r<;>rfl
def kI(h:AA xs<|("a",.d<|B1<|.fls n)::mv s)(G:WF 18 s.kept)(I:Bl s.disk)(J:(s.pend.flatMap B0).length<400):MTurn xs c {s with disk:=fls n (s.pend.flatMap B0) s.disk s.kept.pF}:=by
 have H:=G.good;have L:=kG n s.pend;have z:=kF n s.pend;have w:∀f:DO,(AH f).length<=lim:=λf=>AB Go<|nL rfl;have C:AA (AS "page" (.d<|.lst<|(G4 n<|s.kept.pF.f n).map BT) xs)<|("page",.d<|.lst<|(G4 n<|s.kept.pF.f n).map BT)::("a",.d<|B1<|.fls n)::mv s:=.cons CL<|h.other rfl;have m:AA (AS "busy" (.d<|.lst<|(s.pend.flatMap<|Fi n).map Ap) (AS "page" (.d<|.lst<|(G4 n<|s.kept.pF.f n).map BT) xs))<|("busy",.d<|.lst<|(s.pend.flatMap<|Fi n).map Ap)::("page",.d<|.lst<|(G4 n<|s.kept.pF.f n).map BT)::("a",.d<|B1<|.fls n)::mv s:=.cons CL<|C.other rfl;have o:AA (AS "busy" (.d<|.lst<|(s.pend.flatMap<|Fi n).map Ap) (AS "page" (.d<|.lst<|(G4 n<|s.kept.pF.f n).map BT) xs))<|mv s:=m.trans<|.cons rfl<|.cons rfl<|.cons rfl<|.cons rfl<|.cons rfl<|.cons rfl .nil;have A:∀{ys:List (Str×V)}{d:PF},X1 gl GG 220 (at' (CA<|at' (DN<|at' (DN<|at' (DN<|at' (DN<|at' (DN<|at' (DN<|at' Qv 0) 0) 0) 0) 0) 0) 0) 2) ⟨AS "busy" (.d<|.lst<|(s.pend.flatMap<|Fi n).map Ap) (AS "page" (.d<|.lst<|(G4 n<|s.kept.pF.f n).map BT) xs),c⟩ .next ⟨ys,c⟩->AA ys (mv {s with disk:=d})->MTurn xs c {s with disk:=d}:=λ{ys d} q t=>by refine⟨ys,c,xO<|As (pm (a:=.fls n) h CW rfl)<|As (pm (a:=.fls n) h Cu rfl)<|As (pm (a:=.fls n) h Ej rfl)<|As (pm (a:=.fls n) h DZ rfl)<|As (pm (a:=.fls n) h GJ rfl)<|As (pm (a:=.fls n) h Hl rfl)<|B4 (pm (a:=.fls n) h IX rfl)<|BR (Ad (BN (l:=((G4 n<|s.kept.pF.f n).map BT).map V.d) (DF (g:=λp:Int×D=>V.d<|BT p) (h:=λp=>V.d<|BT p) (b:=λp=>decide (p.1=n)) (l:=AH s.kept.pF.f) (ys:=[("a",.d<|B1<|.fls n)]) (By rfl (iX (BY (f:=Co) (us:=[.d<|AI s.kept.flat]) rfl (BQ<|by decide) rfl rfl (sZ<|pn h rfl rfl) rfl<|Cl.u G.tree rfl) rfl) DG) rfl rfl rfl (.cons (h.seen rfl rfl) .nil) rfl (λp _ B k=>⟨Ei<|Af rfl (iX (pn k rfl rfl) rfl) (iX (pn k rfl rfl) rfl)<|F9 rfl,λ_=>kN k rfl rfl⟩) (w _) ?_) rfl<|BO _) rfl)<|BR (Ad (BN (l:=((s.pend.flatMap<|Fi n).map Ap).map V.d) (LK (g:=λp:GP=>V.d<|eG p) (inn:=λp:GP=>Cw p.1.pF.f p.2.pF.f) (g2:=λ_ r=>V.d<|Ap r) (h:=λ_ r=>V.d<|Ap r) (b:=λ_ r=>decide (Nw r=n)) (l:=s.pend) (ys:=[("a",.d<|B1<|.fls n)]) (By rfl (pn C rfl rfl) DG) rfl rfl rfl rfl (.cons (C.seen rfl rfl) .nil) rfl rfl rfl rfl (λp _ B k=>⟨By rfl (Bx (r₁:=.fresh<|((Cw p.1.pF.f p.2.pF.f).map Ap).map V.d) (iX (pn k rfl rfl) rfl) (λ_=>C0) (Bs (i:=-1) λn=>rfl) ?_) LL,λr _ B k=>⟨Ei<|Af rfl (iX (pn k rfl rfl) kH) (iX (pn k rfl rfl) rfl)<|F9 rfl,λ_=>kN k rfl rfl⟩⟩) ?_ ?_) rfl<|BO _) rfl)<|xO q,t⟩;rw[kB H.dm,Am];rfl;refine A3 (λl=>some<|R.fresh l) ?_;show slc (((B0 p).map Ap).map V.d) .none (some<|-1)=_;unfold B0 seg;rw[AF,AF];exact Um _ _;rw[Am,List.map_flatMap];rfl;rw[A4,A4];exact AB L<|BS<|AM J<|nL rfl
 cases t:s.kept.pF.f n with|none=>rw[show fls n (s.pend.flatMap B0) s.disk s.kept.pF=s.disk from by unfold fls;rw[t]];rw[t] at m o A;exact A (Av (CQ<|FR<|Af rfl (BP (λ_=>rfl) (pn m rfl rfl)<|Do _) AN<|F9 rfl) Bh) o|some y=>
  rw[t] at m o A;cases k:(s.pend.flatMap B0).any (EE n) with
  |true=>
   rw[show fls n (s.pend.flatMap B0) s.disk s.kept.pF=s.disk from by unfold fls;rw[t,k];rfl];rw[k] at z;have E:decide ((((s.pend.flatMap<|Fi n).map Ap).length:Int)=0)=false:=decide_eq_false λe=>by rw[List.eq_nil_of_length_eq_zero<|(A4 Ap).symm.trans<|Int.ofNat.inj e] at z;exact Kd z
   exact A (Av (CQ<|Dk (Af rfl (BP (λ_=>rfl) (pn m rfl rfl)<|Do _) AN<|F9 rfl)<|Dm<|Af rfl (BP (λ_=>rfl) (pn m rfl rfl)<|Do _) AN<|F9 E) Bh) o
  |false=>
   rw[show fls n (s.pend.flatMap B0) s.disk s.kept.pF=⟨upd s.disk.f n<|some y,s.disk.r⟩ from by unfold fls;rw[t,k];rfl];rw[k] at z;have E:decide ((((s.pend.flatMap<|Fi n).map Ap).length:Int)=0)=true:=by rw[List.isEmpty_iff.mp z];rfl
   have M:=kD (n:=n) (y:=y)<|Dic.of I.dm;have S:C1<|upd s.disk.f n<|some y:=(Pe (x:=.wr n y) I<|H n y t).dm;refine A (B4 (CQ<|Dk (Af rfl (BP (λ_=>rfl) (pn m rfl rfl)<|Do _) AN<|F9 rfl)<|Dm<|Af rfl (BP (λ_=>rfl) (pn m rfl rfl)<|Do _) AN<|F9 E)<|xO<|Ad (AK<|BU (v:=.d<|BD ⟨upd s.disk.f n<|some y,s.disk.r⟩) (CD (BN (ds:=(AH<|upd s.disk.f n<|some y).map BT) (BP (λ_=>rfl) (Ak (x:=.fresh<|((AH s.disk.f).filter (λp=>!decide (p.1=n))++[(n,y)]).map BT |>.map V.d) (DF (g:=λp:Int×D=>V.d<|BT p) (h:=λp=>V.d<|BT p) (b:=λp=>!decide (p.1=n)) (l:=AH s.disk.f) (lr:=(((AH s.disk.f).filter λp=>!decide (p.1=n)).map BT).map V.d) (ys:=[("a",.d<|B1<|.fls n)]) (By rfl (iX (pn m rfl rfl) rfl) DG) rfl rfl rfl (.cons (m.seen rfl rfl) .nil) rfl (λp _ B k=>⟨Ei<|Af rfl (iX (pn k rfl rfl) rfl) (iX (pn k rfl rfl) rfl)<|FV (Hi rfl rfl rfl) rfl,λ_=>kN k rfl rfl⟩) (w _) (Am ..).symm) (pn m rfl rfl) ?_)<|Ve<|M.sorted S) rfl<|BO _)<|sZ<|iX (pn m rfl rfl) rfl) rfl rfl) rfl)<|o.put rfl;rw[AF];exact D3 (r₁:=.fresh<|(((AH s.disk.f).filter λp=>!decide (p.1=n)).map BT).map V.d) (r₂:=.val<|.d<|.lst [BT (n,y)]) (xs:=((AH s.disk.f).filter λp=>!decide (p.1=n)).map BT) (ys:=[BT (n,y)]) rfl rfl rfl<|by rw[A4];exact AO (CV<|AB (List.length_filter_le _ _) Go)<|nL rfl
end
structure MAt(s:MS)(N:Nat)(t1 t2:List Tr):Prop where
 kept:s.kept=Bg s.base (t1++t2)
 safe:s.safe=DT s.base t1
 pend:s.pend=DT (Bg s.base t1) t2
 log:Log3 s.base.pF (t1.map Tr.pF) (t2.map Tr.pF) s.disk
 hand:WF 18 s.hand
 wf:∀t∈s.base::(t1++t2),WF 18 t
 len:t1.length+t2.length<=N
noncomputable def K8(s:MS):PS:=⟨s.hand.pd,s.kept.pF,s.disk,s.safe.flatMap B0,s.pend.flatMap B0⟩
noncomputable def wA:Act->Nat|.com=>1|_=>0
noncomputable def AW:Act->Prop|.put k _=>0<=k/\k<24|_=>True
def kJ(a b:PF):(seg a b).length<=37:=by unfold seg;rw[A9];exact CV<|PZ _ _
def Xk(c:List PF)(a:PF):(Az a c).length<=37*c.length:=by induction c generalizing a with|nil=>exact Au _|cons t c d=>show(seg a t++Az t c).length<=37*(c.length+1);rw[A9,Nat.mul_succ,C7];exact Nat.add_le_add (d t)<|kJ a t
def Xl(d:List PF)(a:PF)(h:∀t∈d,Bl t):∀x∈Az a d,Eh x:=by induction d generalizing a with|nil=>exact λ_ h=>absurd h Ax|cons t d e=>intro x c;refine(BE.mp c).elim (λc=>(BE.mp c).elim (dq (h t AT) x) λc=>by rw[Ao.mp c];trivial)<|e t (λu f=>h u<|Ah _ f) x
section
variable{s:MS}{N:Nat}{c d:List Tr}{a:Act}
def MAt.sS(h:MAt s N c d):s.safe.flatMap B0=Az s.base.pF (c.map Tr.pF):=h.safe▸Qt _ _
def MAt.pS(h:MAt s N c d):s.pend.flatMap B0=Az (Bg s.base c).pF (d.map Tr.pF):=h.pend▸Qt _ _
def MAt.bnd(h:MAt s N c d)(e:N<=10):(s.safe.flatMap B0).length+(s.pend.flatMap B0).length<400/\s.safe.length+s.pend.length<400:=by have l:=AB h.len e;constructor;refine AO (AB (Nat.add_le_add (h.sS▸Xk _ _)<|h.pS▸Xk _ _) ?_) (by decide:37*10<400);rw[A4,A4,<-Nat.mul_add];exact Nat.mul_le_mul_left 37 l;rw[h.safe,h.pend,Le,Le];exact AO l<|nL rfl
def Qw(f:List Tr)(a:Tr):Bg a f∈a::f:=by obtain⟨i,e⟩:=Xe f a;rw[e];exact Aw _<|Dq _
def MAt.wk(h:MAt s N c d):WF 18 s.kept:=h.wf _<|h.kept▸Qw _ _
def MAt.dk(h:MAt s N c d):Bl s.disk:=λn y e=>by obtain⟨g,k,j,i⟩:=h.log.f n;refine h.log.good (DS s.base.pF g) ?_ n y<|i▸e;rw[j,AD,<-List.cons_append];exact BC _<|XV g s.base.pF
def MAt.ok(h:MAt s N c d)(g:N<=10):PSok<|K8 s:=⟨h.wk.good,h.dk,λx e=>Xl (c.map Tr.pF) _ (λt f=>h.log.good t<|Ah _<|BC _ f) x<|h.sS▸show x∈s.safe.flatMap B0 from e,λx e=>Xl (d.map Tr.pF) _ (λt f=>h.log.good t<|Ah _<|Aw _ f) x<|h.pS▸show x∈s.pend.flatMap B0 from e,(h.bnd g).1⟩
inductive MStep(s:MS)(N:Nat)(a:Act):Prop where
 |mk (s':MS) (u1 u2:List Tr):MAt s' (N+wA a) u1 u2->Ph (K8 s) a (K8 s')->(∀xs σ,AA xs (("a",.d (B1 a))::mv s)->MTurn xs σ s')->MStep s N a
def Nx:(c++d).map Tr.pF=c.map Tr.pF++d.map Tr.pF:=AF
def Xm{l:Tr}{m:Nat}{f:List Tr}(e:d=CU l d m++f):(CU l d m).length<=d.length:=by have:=A3 List.length e;rw[A9] at this;exact AB (BA _ _)<|BB this.symm
def kK(h:MAt s N c d)(J:N<=10)(I:AW a):MStep s N a:=by
 have w:=h.bnd J;have j:=h.wk;cases a with
 |put k v=>obtain⟨B,x,z,y⟩:=Wv (v:=v) h.hand I (by decide);exact⟨{s with hand:=B},c,d,⟨h.kept,h.safe,h.pend,h.log,x,h.wf,h.len⟩,⟨_,y,rfl⟩,λi g q=>jz q z⟩|rem k=>obtain⟨B,x,z,y⟩:=XM h.hand k;exact⟨{s with hand:=B},c,d,⟨h.kept,h.safe,h.pend,h.log,x,h.wf,h.len⟩,⟨_,y,rfl⟩,λi g q=>k4 q z⟩|back=>exact⟨{s with hand:=s.kept},c,d,⟨h.kept,h.safe,h.pend,h.log,j,h.wf,h.len⟩,rfl,λi g q=>k5 q⟩|com=>
  refine⟨{s with kept:=s.hand,pend:=s.pend++[(s.kept,s.hand)]},c,d++[s.hand],⟨?_,h.safe,?_,?_,h.hand,?_,?_⟩,⟨s.hand.pF,rfl,h.hand.good,?_⟩,λi g q=>k6 q j h.hand<|AO (Nat.le_add_left _ _) w.2⟩;rw[<-AD,jv];show s.pend++[(s.kept,s.hand)]=DT (Bg s.base c) (d++[s.hand]);rw[Nv,<-h.pend,h.kept];refine A3 (λT=>s.pend++[(T,s.hand)]) ?_;have:∀(l p:List Tr)(b:Tr),Bg b (l++p)=Bg (Bg b l) p:=λl=>by induction l with|nil=>exact λ_ _=>rfl|cons u l H=>exact λp b=>H p u
  exact this ..;rw[Nx];exact h.log.com h.hand.good;rw[<-AD,<-List.cons_append];exact λt o=>(BE.mp o).elim (h.wf t) λq=>Ao.mp q▸h.hand;rw[A9];exact CV h.len;show(⟨_,_,_,_,(s.pend++[(s.kept,s.hand)]).flatMap B0⟩:PS)=⟨_,_,_,_,_⟩;rw[List.flatMap_append,show([(s.kept,s.hand)]:List GP).flatMap B0=Cw s.kept.pF.f s.hand.pF.f++[Rec.cm s.hand.pF.r] from BJ _,<-AD];rfl
 |syn=>refine⟨{s with safe:=s.safe++s.pend,pend:=[]},c++d,[],⟨by rw[BJ];exact h.kept,?_,rfl,?_,h.hand,by rw[BJ];exact h.wf,?_⟩,?_,λi g q=>k7 q w.2⟩;show s.safe++s.pend=_;rw[Nv,<-h.pend,<-h.safe];rw[Nx];exact h.log.more (BJ _).symm;rw[A9];exact h.len;show(⟨_,_,_,(s.safe++s.pend).flatMap B0,_⟩:PS)=_;rw[List.flatMap_append];rfl|chk=>exact⟨⟨s.hand,s.kept,s.kept,[],[],s.kept.pF⟩,[],[],⟨rfl,rfl,rfl,Log3.chk j.good,h.hand,λt o=>Ao.mp o▸j,Bm _⟩,rfl,λi g q=>k8 q j⟩|fls n=>refine⟨{s with disk:=fls n (s.pend.flatMap B0) s.disk s.kept.pF},c,d,⟨h.kept,h.safe,h.pend,?_,h.hand,h.wf,h.len⟩,rfl,λi g q=>kI q j h.dk<|AO (Nat.le_add_left _ _) w.1⟩;have:=h.log.fls n;rw[K7,<-h.pS,<-Nx,K7,<-h.kept] at this;exact this|crs m=>
  obtain⟨⟨C,e⟩,A,M⟩:=h.log.cut (K7 c s.base) m;have G:=Xm e;have E:Cz (m:Int) s.pend=DT (Bg s.base c) (CU (Bg s.base c) d m):=h.pend▸Xf ..;have L:s.safe++Cz (m:Int) s.pend=DT s.base (c++CU (Bg s.base c) d m):=by rw[Nv,<-h.safe,E]
  rw[<-h.sS,<-h.pS] at A;have K:FW s.disk (Cy<|s.safe.flatMap B0++(s.pend.flatMap B0).take m)=(Bg s.base<|c++CU (Bg s.base c) d m).pF:=by unfold FW;rw[A,XU,M,K7]
  refine⟨⟨Bg s.base<|c++CU (Bg s.base c) d m,Bg s.base<|c++CU (Bg s.base c) d m,s.base,DT s.base<|c++CU (Bg s.base c) d m,[],s.disk⟩,c++CU (Bg s.base c) d m,[],⟨by rw[BJ],rfl,rfl,?_,?_,?_,?_⟩,?_,λi g q=>?_⟩;rw[Nx];exact h.log.more (vs:=C.map Tr.pF)<|(A3 (List.map Tr.pF) e).trans AF;refine h.wf _ (?_:_∈s.base::(c++d));rw[e,<-AD,<-List.cons_append];exact BC _ (by rw[<-e];exact Qw _ _);rw[BJ];intro t o;refine h.wf t ?_;rw[e,<-AD,<-List.cons_append];exact BC _ o;rw[A9];exact AB (BW G _) h.len;show(⟨BD (Bg s.base<|c++CU (Bg s.base c) d m).pF,_,_,(DT s.base<|c++CU (Bg s.base c) d m).flatMap B0,[]⟩:PS)=_;rw[Qt,<-A,<-K];rfl;have:=k9 (σ:=g) q w.2 (by rw[E,Le,h.pend,Le];exact G);rw[L,Qs] at this;exact this
end
noncomputable def EW:List Act->Nat|[]=>0|a::l=>wA a+EW l
noncomputable def D9:Tr:=.one (0,0,[])
noncomputable def Xn:MS:=⟨D9,D9,D9,[],[],D9.pF⟩
def Ny:WF 18 D9:=⟨⟨Bi.mpr ⟨Ax,List.nodup_nil⟩,λn d=>by rw[Ao.mp d];exact⟨AT,by decide⟩⟩,Bm _,⟨λr a=>by rw[Ao.mp a];exact List.Pairwise.nil,List.pairwise_singleton _ _⟩,λp c=>absurd c Ax⟩
def kL:MAt Xn 0 [] []:=⟨rfl,rfl,rfl,Log3.chk Ny.good,Ny,λt a=>Ao.mp a▸Ny,Au _⟩
def kM:D9.pF=eT:=PF.ext' (funext λn=>(L1 Pag.d n [(0,Ar [])]).symm) rfl
def kO:K8 Xn=Up:=by show(⟨BD D9.pF,D9.pF,D9.pF,[],[]⟩:PS)=_;rw[kM];rfl
inductive MRun(s:MS)(l:List Act):Prop where
 |mk (s':MS) (u1 u2:List Tr):MAt s' 10 u1 u2->Steps (K8 s) l (K8 s')->(∀xs σ,AA xs (mv s)->∃ys σ',Lp gl GG 230 (.one "a") Qv (l.map λa=>V.d (B1 a)) ⟨xs,σ⟩ ⟨ys,σ'⟩/\AA ys (mv s'))->MRun s l
def kP(l:List Act):∀{s:MS}{N:Nat}{f e:List Tr},MAt s N f e->(∀a∈l,AW a)->N+EW l<=10->MRun s l:=by induction l with|nil=>exact λ{s N f e} h _ g=>⟨s,f,e,⟨h.kept,h.safe,h.pend,h.log,h.hand,h.wf,AB h.len g⟩,.nil _,λm k q=>⟨m,k,F0,q⟩⟩|cons a l E=>intro s N f e h t g;have c:N<=10:=AB (BA _ _) g;obtain⟨L,K,J,C,r,o⟩:=kK h c<|t a AT;obtain⟨y,x,w,B,p,n⟩:=E C (λb G=>t b<|Ah _ G) (by rw[Bv];exact g);refine⟨y,x,w,B,.cons (h.ok c) r p,λm k q=>?_⟩;obtain⟨v,j,I,A⟩:=o (AS "a" (.d<|B1 a) m) k<|.cons CL<|q.other rfl;obtain⟨u,i,H,z⟩:=n v j A;exact⟨u,i,ED GI I H,z⟩
noncomputable def Hz(s:MS):D:=.tup [s.hand.pd,BZ<|s.safe.flatMap B0,BZ<|s.pend.flatMap B0,BD s.disk]
noncomputable def Qx(s:MS):D:=.tup [AI s.hand.flat,AI s.base.flat,.lst<|s.safe.map eG,.lst<|s.pend.map eG,BD s.disk]
inductive Plays(l:List Act):Prop where
 |mk (s:MS) (u1 u2:List Tr):MAt s 10 u1 u2->Cl gl EO 230 [.d (.lst (l.map B1))] [] (.val (.d (Hz s))) []->Cl gl GG 250 [.d (.lst (l.map B1))] [] (.val (.d (Qx s))) []->Plays l
def kQ{l:List Act}(p:∀a∈l,AW a)(o:EW l<=10):Plays l:=by obtain⟨s,j,i,m,g,k⟩:=kP l kL p (by rw[Nat.zero_add];exact o);rw[kO] at g;refine⟨s,j,i,m,f0 g,?_⟩;have c:AA [("actions",V.d<|.lst<|l.map B1),("hand",.d<|AI D9.flat)] [("actions",V.d<|.lst<|l.map B1),("hand",.d<|AI D9.flat)]:=.refl;obtain⟨t,q,e,h⟩:=k [("actions",.d<|.lst<|l.map B1),("hand",.d<|AI D9.flat),("kept",.d<|AI D9.flat),("base",.d<|AI D9.flat),("disk",.d<|BD D9.pF),("safe",.d<|.lst []),("pending",.d<|.lst [])] []<|.cons rfl<|.cons rfl<|.cons rfl<|.cons rfl<|.cons rfl<|.cons rfl .nil;refine Cl.u (K:=245) (Ct rfl rfl<|Ag (xs':=[("actions",.d<|.lst<|l.map B1),("hand",.d<|AI D9.flat)]) (σ':=[]) rfl (λn=>by kernel_rfl)<|Ag (xs':=[("actions",.d<|.lst<|l.map B1),("hand",.d<|AI D9.flat),("kept",.d<|AI D9.flat),("base",.d<|AI D9.flat),("disk",.d<|BD D9.pF),("safe",.d<|.lst []),("pending",.d<|.lst [])]) (σ':=[]) rfl (Cr rfl rfl (BG (kN c rfl rfl)<|BG (kN c rfl rfl)<|BG (AK<|BY (f:=Co) (us:=[.d<|AI D9.flat]) (r:=.val<|.d D9.pd) rfl (BQ<|by decide) rfl rfl (sZ<|pn c rfl rfl) rfl<|Cl.u Ny.tree rfl)<|BG (BN (l:=[]) (ds:=[]) (Bt CC rfl) rfl rfl)<|BG (BN (l:=[]) (ds:=[]) (Bt CC rfl) rfl rfl) Cs)<|tN rfl<|tN rfl<|tN rfl<|tN rfl<|tO rfl)<|Ag rfl (Ez (l:=⟨l.map λa=>V.d<|B1 a,false⟩) (By rfl (pR rfl rfl) DG) rfl rfl<|Mine.U.up (nL rfl) (P:=λn=>forLoop' (AY gl n) GG _ _ _ _=some _) e) ?_) rfl;exact CR rfl (Bo<|BU (v:=.d<|Qx s) (sN h rfl rfl<|sN h rfl rfl<|sN h rfl rfl<|sN h rfl rfl<|sZ<|pn h rfl rfl) rfl<|by decide) rfl
noncomputable def Nz:List Str:=["","a","b","cc","d"]
noncomputable def O0:List Nat:=[22,0,16,13,4,20,15,18,7,21,17,14]
noncomputable def Li:List<|List Act:=[[],[.com],[.com,.syn],[.com,.chk],[.com,.syn,.com]]
noncomputable def Lj:List Str:=["put","remove","commit","sync","flush","crash","remove","checkpoint","put","commit","rollback","remove"]
def kS:EC (B8 11)=.tup (Nz.map .str):=by kernel_rfl
def kT:EC (B8 12)=.tup (O0.map λn:Nat=>.int (n:Int)):=by kernel_rfl
def kU:EC (B8 13)=.tup (Li.map λl=>.tup<|l.map B1):=by kernel_rfl
def kW:EC (B8 14)=.tup (Lj.map .str):=by kernel_rfl
section
variable{K:Nat}{c:List Cell}{f:List (Str×V)}{d:Fn}
def Ll{x:Str}{a:D}{p:Pos}(e:d.names.lookup x=some .globalImplicit)(g:AJ x gl.tabs=some a):Ev gl d (K+1) (.Name x p) ⟨f,c⟩ (.val<|.d a) ⟨f,c⟩:=λn=>by show ID gl d x ⟨f,c⟩=_;unfold ID;rw[e];exact Aa g rfl
def O1{l:List D}{a:Nat}{w:D}(h:l[a]?=some w):Ce c (.val<|.d<|.tup l) (.val<|.d<|.int a)=some (.d w):=DM rfl<|bnd (a:=(a:Int)) rfl<|bnd (a:=l.map V.d) rfl<|N5 _<|by rw[CP,h];rfl
def G5(i:Int){m:Nat}(e:0<m):∃a:Nat,i%(m:Int)=(a:Int)/\a<m:=by have g:=Int.emod_nonneg i<|Int.natCast_ne_zero.mpr<|Nat.ne_of_gt e;have h:=Int.emod_lt_of_pos i<|Int.natCast_pos.mpr e;exact⟨(i%m).toNat,(Int.toNat_of_nonneg g).symm,Bc.mp<|by rw[Int.toNat_of_nonneg g];exact h⟩
def kX{i M:Int}{a:Nat}(g:0<M)(h:i%M=(a:Int)):Er c .Mod (.val<|.d<|.int i) (.val<|.d<|.int M)=some (.val<|.d<|.int a):=by have e:KK .Mod M (.int i)=some (.int a):=(A5 g).trans<|A3 (λi=>some<|D.int i) h;exact Br (a:=M) rfl<|bnd (a:=D.int i) rfl<|Aa e rfl
def Qy{k:Int}:Er c .Add (.val<|.d<|.key 0) (.val<|.d<|.int k)=some (.val<|.d<|.key k):=by have e:KK .Add k (.key 0)=some (.key k):=A3 (λi=>some<|D.key i)<|Int.zero_add k;exact Br (a:=k) rfl<|bnd (a:=D.key 0) rfl<|Aa e rfl
def Xo{i j:Int}(h:(small i&&small j)=true):Er c .Mult (.val<|.d<|.int i) (.val<|.d<|.int j)=some (.val<|.d<|.int<|i*j):=by have e:KK .Mult j (.int i)=some (.int<|i*j):=A5 h;exact Br (a:=j) rfl<|bnd (a:=D.int i) rfl<|Aa e rfl
def FF{G:Gl}{e:Expr}{j g:St}{i M:Int}{k a:Nat}{p q:Pos}(h:Ev G d (K+1) e j (.val<|.d<|.int i) g)(l:decide (0<M)=true)(m:i%M=(a:Int)):Ev G d (K+2) (.BinOp e .Mod (.Constant (.int M) k q) p) j (.val<|.d<|.int a) g:=Ak h AN<|kX (D2 l) m
end
noncomputable def Lm(i:Nat):Str:=Nz[i]?.getD ""
def Xp{a:List Cell}{i:Nat}(h:i<5):Ce a (.val<|.d<|EC<|B8 11) (.val<|.d<|.int i)=some (.d<|.str<|Lm i):=by rw[kS];refine O1 ?_;rw[CP,Cv (l:=Nz) h];unfold Lm;rw[Cv (l:=Nz) h];rfl
def kY:PyData.strOk "crash" = true:=by decide +kernel
noncomputable def HJ(p:Int×Int):D:=.tup [.int p.1,.int p.2]
noncomputable def K9(a i:Nat):Act:=.put (((i+1)*a%23:Nat):Int)<|Lm<|i%5
noncomputable def EX(l:List Act):Cell:=.lst<|(l.map B1).map V.d
noncomputable def FG(a b:Nat)(c:D)(j:Nat):List<|Str×V:=[("first",.d<|.key 0),("mul",.d<|.int a),("settle",.d<|.int b),("cells",.d c),("out",.loc j)]
inductive Cls(a:Int):Str->List Act->Prop where
 |put (w:Nat):w<5->a%5=(w:Int)->Cls a "put" [.put (a%24) (Lm w)]
 |rem:Cls a "remove" [.rem (a%24+0),.rem (a%24+1),.rem (a%24+2)]
 |fls:Cls a "flush" [.fls (a%15)]
 |crs (c:Nat):a%15=(c:Int)->Cls a "crash" [.crs c]
 |com:Cls a "commit" [.com]
 |syn:Cls a "sync" [.syn]
 |chk:Cls a "checkpoint" [.chk]
 |back:Cls a "rollback" [.back]
def kZ(a:Int){k:Nat}(h:k<12):∃d l,Lj[k]?=some d/\Cls a d l:=by
 obtain⟨w,i,g⟩:=G5 a (m:=5)<|nL rfl;obtain⟨c,j,_⟩:=G5 a (m:=15)<|nL rfl;have f:∀d∈Lj,∃l,Cls a d l:=by have p:∃l,Cls a "put" l:=⟨_,.put w g i⟩;have r:∃l,Cls a "remove" l:=⟨_,.rem⟩;have m:∃l,Cls a "commit" l:=⟨_,.com⟩;unfold Lj;exact DA.mpr ⟨p,DA.mpr ⟨r,DA.mpr ⟨m,DA.mpr ⟨⟨_,.syn⟩,DA.mpr ⟨⟨_,.fls⟩,DA.mpr ⟨⟨_,.crs c j⟩,DA.mpr ⟨r,DA.mpr ⟨⟨_,.chk⟩,DA.mpr ⟨p,DA.mpr ⟨m,DA.mpr ⟨⟨_,.back⟩,DA.mpr ⟨r,λ_ h=>absurd h Ax⟩⟩⟩⟩⟩⟩⟩⟩⟩⟩⟩⟩
 have e:=Cv (l:=Lj) h;obtain⟨l,q⟩:=f _<|List.mem_of_getElem? e;exact⟨_,l,e,q⟩
def Qz(l m:List Act):EW (l++m)=EW l+EW m:=by induction l with|nil=>exact(Nat.zero_add _).symm|cons a l c=>show wA a+EW (l++m)=wA a+EW l+EW m;rw[c,Bv]
def kb(i:Int){m:Int}(h:0<m):0<=i%m/\i%m<m:=⟨Int.emod_nonneg i<|Int.ne_of_gt h,Int.emod_lt_of_pos i h⟩
def Cls.ok{a:Int}{e:Str}{l:List Act}(h:Cls a e l):(∀x∈l,AW x)/\EW l<=1/\l.length<=3:=by cases h with|put w _ _=>exact⟨λx d=>Ao.mp d▸kb a (by decide),Bm _,nL rfl⟩|rem=>exact⟨DA.mpr ⟨trivial,DA.mpr ⟨trivial,λx d=>Ao.mp d▸trivial⟩⟩,Bm _,nL rfl⟩|fls=>exact⟨λx d=>Ao.mp d▸trivial,Bm _,nL rfl⟩|crs c _=>exact⟨λx d=>Ao.mp d▸trivial,Bm _,nL rfl⟩|com=>exact⟨λx d=>Ao.mp d▸trivial,Au 1,nL rfl⟩|syn=>exact⟨λx d=>Ao.mp d▸trivial,Bm _,nL rfl⟩|chk=>exact⟨λx d=>Ao.mp d▸trivial,Bm _,nL rfl⟩|back=>exact⟨λx d=>Ao.mp d▸trivial,Bm _,nL rfl⟩
section
variable{K c b:Nat}{cs:D}{xs:List (Str×V)}{l:List Act}{a:Act}{d:Cell}
def HK{j:Nat}{o:Expr}{n m k p:Pos}{f e:List Cell}(i:true=Dh (.Name "out" n) m k 1)(h:AA xs<|FG c b cs j)(hs:f[j]?=some (EX l))(r:Kp gl Di (K+1) false o ⟨xs,f⟩ (.d<|B1 a) ⟨xs,f⟩)(q:l.length<900)(g:f.set j (EX<|l++[a])=e):X1 gl Di (K+2) (.Expr (.Call (.Attribute (.Name "out" n) "append" m) [o] [] k) p) ⟨xs,f⟩ .next ⟨xs,e⟩:=by refine Hf i (pn h rfl rfl) hs r hs ?_ ?_;rw[A4,A4];exact AM q<|nL rfl;rw[<-g];unfold EX;rw[AF,AF];rfl
def kf(u:c<1000)(f:List Nat):∀{xs:List (Str×V)}{l:List Act},(∀i∈f,i<100)->AA xs (FG c b cs 0)->l.length+f.length<900->∃j,Lp gl Di 30 (.one "i") (CA<|Bd Di 1) (f.map λi:Nat=>V.d<|.int i) ⟨xs,[EX l]⟩ ⟨j,[EX<|l++f.map (K9 c)]⟩/\AA j (FG c b cs 0):=by induction f with|nil=>exact λ{xs l} _ h _=>⟨xs,by rw[List.map_nil,List.map_nil,BJ];exact F0,h⟩|cons i f r=>
 intro xs l o h m;have m:l.length+(f.length+1)<900:=m;have n:AA (AS "i" (.d<|.int (i:Int)) xs)<|("i",.d<|.int (i:Int))::FG c b cs 0:=.cons CL<|h.other rfl;have g:AA (AS "i" (.d<|.int (i:Int)) xs)<|FG c b cs 0:=h.other rfl;obtain⟨j,e,t⟩:=r (l:=l++[K9 c i]) (λk v=>o k<|Ah _ v) g (by rw[A9,List.length_singleton,Bv,C7 1];exact m);rw[AD] at e;have s:=o i AT;have p:(small ((i:Int)+1)&&small (c:Int))=true:=by have x:small ((i:Int)+1)=true:=Ac<|show i+1<=4294967296 from AB s<|nL rfl;have w:small (c:Int)=true:=Ac<|show c<=4294967296 from AB (BS u)<|nL rfl;rw[x,w];rfl
 have q:((i:Int))%5=((i%5:Nat):Int):=rfl;refine⟨j,ED GI (xO<|HK (a:=K9 c i) rfl g rfl (AK<|BU (sK (CZ CW)<|sK (Ak (pn n rfl rfl) (FF (a:=(i+1)*c%23) (Ak (Ak (pn n rfl rfl) AN rfl) (pn n rfl rfl)<|Xo p) rfl ?_) Qy)<|sZ<|BI rfl (Ll rfl rfl) (FF (pn n rfl rfl) rfl q)<|Xp<|Nat.mod_lt i<|nL rfl) rfl rfl) (AO (BA _ _) m) rfl) e,t⟩;rw[Int.natCast_emod,Int.natCast_mul];rfl
end
section
variable{K mul b:Nat}{cs:D}{xs:List (Str×V)}{l m:List Act}{a:Int}{c0:Cell}{d:Str}{p:Int×Int}
noncomputable def Fj(mul b:Nat)(cs:D)(a:Int)(d:Str):List<|Str×V:=("name",.d<|.str d)::("a",.d<|.int a)::FG mul b cs 1
noncomputable def R5:List Stmt:=CA<|Bd Di 3
def tn(h:AA xs<|Fj mul b cs a d){i g f:Pos}{j:Nat}{x:Str}{c:Bool}{e:List Cell}(k:PyData.strOk x=true)(n:decide (d=x)=c):Tt gl Di (K+3) (.Compare (.Name "name" i) [.Eq] [.Constant (.str x) j g] f) ⟨xs,e⟩ c ⟨xs,e⟩:=Af rfl (pn h rfl rfl) (CZ k)<|Hh<|Gq n
def ti(h:AA xs<|Fj mul b cs a d){k j i g f:Pos}{q o n:Nat}{c:Bool}{e:List Cell}(r:(decide ("flush" = d)||(decide ("crash" = d)||false))=c):Tt gl Di (K+3) (.Compare (.Name "name" k) [.In] [.Tuple [.Constant (.str "flush") q j,.Constant (.str "crash") o i] n g] f) ⟨xs,e⟩ c ⟨xs,e⟩:=Kv (pn h rfl rfl) (BU (sK (CZ IX)<|sZ<|CZ kY) rfl rfl)<|by rw[<-r];rfl
def R6(h:AA xs<|Fj mul b cs a d):AA xs<|FG mul b cs 1:=h.trans<|.cons rfl<|.cons rfl<|.cons rfl<|.cons rfl<|.cons rfl .nil
def Xq{n j i g f:Pos}{k:Nat}{e:List Cell}(h:AA xs<|Fj mul b cs a d):Ev gl Di (K+3) (.BinOp (.Name "first" n) .Add (.BinOp (.Name "a" j) .Mod (.Constant (.int 24) k i) g) f) ⟨xs,e⟩ (.val<|.d<|.key<|a%24) ⟨xs,e⟩:=by obtain⟨w,c,_⟩:=G5 a (m:=24)<|nL rfl;have c:a%24=(w:Int):=c;rw[c];exact Ak (pn h rfl rfl) (FF (pn h rfl rfl) rfl c) Qy
def kg{i g f:Pos}{k:Nat}{e:List Cell}(h:AA xs<|Fj mul b cs a d):Ev gl Di (K+2) (.BinOp (.Name "a" i) .Mod (.Constant (.int 15) k g) f) ⟨xs,e⟩ (.val<|.d<|.int<|a%15) ⟨xs,e⟩:=by obtain⟨w,c,_⟩:=G5 a (m:=15)<|nL rfl;have c:a%15=(w:Int):=c;rw[c];exact FF (pn h rfl rfl) rfl c
def kh(h:AA xs<|Fj mul b cs a d)(z:Cls a d m)(k:l.length<800):∃r,X1 gl Di 40 (at' R5 1) ⟨xs,[c0,EX l]⟩ .next ⟨r,[c0,EX<|l++m]⟩/\AA r (FG mul b cs 1):=by
 have v:=R6 h;have f:l.length<900:=AM k<|nL rfl;cases z with
 |put w t q=>exact⟨xs,B4 (tn h CW rfl)<|xO<|HK (a:=.put (a%24)<|Lm w) rfl v rfl (AK<|BU (sK (CZ CW)<|sK (Xq h)<|sZ<|BI rfl (Ll rfl rfl) (FF (pn h rfl rfl) rfl q)<|Xp t) rfl rfl) f rfl,v⟩|rem=>
  have o:∀{g:List (Str×V)}{l:List Act}{j:Int},AA g (Fj mul b cs a "remove")->l.length<900->Ex gl Di 38 (CA<|at' (CA<|at' (DN<|at' R5 1) 0) 0) ⟨AS "j" (.d<|.int j) g,[c0,EX l]⟩ .next ⟨AS "j" (.d<|.int j) g,[c0,EX<|l++[.rem<|a%24+j]]⟩:=λ{g l j} u k=>by have n:AA (AS "j" (.d<|.int j) g)<|Fj mul b cs a "remove":=u.other rfl;exact xO<|HK (a:=.rem<|a%24+j) rfl (R6 n) rfl (AK<|BU (sK (CZ Cu)<|sZ<|Ak (Xq n) (pR rfl CL) rfl) rfl rfl) k rfl
  have n:AA (AS "j" (.d<|.int 0) xs)<|Fj mul b cs a "remove":=h.other rfl;have s:AA (AS "j" (.d<|.int 1) (AS "j" (.d<|.int 0) xs))<|Fj mul b cs a "remove":=n.other rfl;have A:AA (AS "j" (.d<|.int 2) (AS "j" (.d<|.int 1) (AS "j" (.d<|.int 0) xs)))<|Fj mul b cs a "remove":=s.other rfl;have L:∀x y:Act,((l++[x])++[y]).length<900:=λx y=>by rw[A9,A9];exact AM (Cc<|Cc k)<|nL rfl
  have e:l++[Act.rem<|a%24+0,.rem<|a%24+1,.rem<|a%24+2]=((l++[.rem<|a%24+0])++[.rem<|a%24+1])++[.rem<|a%24+2]:=by rw[AD,AD];rfl
  rw[e];exact⟨_,Av (tn h CW rfl)<|xO<|B4 (tn h Cu rfl)<|xO<|Ez (l:=⟨[.d<|.int 0,.d<|.int 1,.d<|.int 2],false⟩) (LF (i:=3) (λ_=>rfl) AN rfl rfl) rfl rfl<|ED GI (o h f)<|ED GI (o n<|by rw[A9];exact AM (Cc k)<|nL rfl)<|ED GI (o s<|L _ _) F0,R6 A⟩
 |fls=>exact⟨xs,Av (tn h CW rfl)<|xO<|Av (tn h Cu rfl)<|xO<|B4 (ti h rfl)<|xO<|HK (a:=.fls<|a%15) rfl v rfl (AK<|BU (sK (pn h rfl rfl)<|sZ<|kg h) rfl rfl) f rfl,v⟩|crs c q=>exact⟨xs,Av (tn h CW rfl)<|xO<|Av (tn h Cu rfl)<|xO<|B4 (ti h rfl)<|xO<|HK (a:=.crs c) rfl v rfl (AK<|BU (sK (pn h rfl rfl)<|sZ<|FF (pn h rfl rfl) rfl q) rfl rfl) f rfl,v⟩|com=>exact⟨xs,Av (tn h CW rfl)<|xO<|Av (tn h Cu rfl)<|xO<|Av (ti h rfl)<|xO<|HK (a:=.com) rfl v rfl (AK<|BU (sZ<|pn h rfl rfl) rfl rfl) f rfl,v⟩|syn=>exact⟨xs,Av (tn h CW rfl)<|xO<|Av (tn h Cu rfl)<|xO<|Av (ti h rfl)<|xO<|HK (a:=.syn) rfl v rfl (AK<|BU (sZ<|pn h rfl rfl) rfl rfl) f rfl,v⟩|chk=>exact⟨xs,Av (tn h CW rfl)<|xO<|Av (tn h Cu rfl)<|xO<|Av (ti h rfl)<|xO<|HK (a:=.chk) rfl v rfl (AK<|BU (sZ<|pn h rfl rfl) rfl rfl) f rfl,v⟩|back=>exact⟨xs,Av (tn h CW rfl)<|xO<|Av (tn h Cu rfl)<|xO<|Av (ti h rfl)<|xO<|HK (a:=.back) rfl v rfl (AK<|BU (sZ<|pn h rfl rfl) rfl rfl) f rfl,v⟩
inductive CelTo(ps:List (Int×Int))(c0:Cell)(mul b:Nat)(cs:D)(xs:List (Str×V))(l:List Act):Prop where
 |mk (ys:List (Str×V)) (m:List Act):Lp gl Di 42 (.two "kind" "a") R5 (ps.map λp=>V.d (HJ p)) ⟨xs,[c0,EX l]⟩ ⟨ys,[c0,EX (l++m)]⟩->AA ys (FG mul b cs 1)->(∀x∈m,AW x)->EW m<=ps.length->CelTo ps c0 mul b cs xs l
def ki(c:List<|Int×Int):∀{xs:List (Str×V)}{l:List Act},AA xs (FG mul b cs 1)->l.length+3*c.length<800->CelTo c c0 mul b cs xs l:=by induction c with|nil=>exact λ{xs l} h _=>⟨xs,[],by rw[BJ];exact F0,h,λ_ h=>absurd h Ax,Au _⟩|cons p c t=>
 intro xs l h f;have f:l.length+3*(c.length+1)<800:=f;obtain⟨k,y,lk⟩:=G5 p.1 (m:=12)<|nL rfl;obtain⟨d,m,e,i⟩:=kZ p.2 lk;have j:AA (AS "a" (.d<|.int p.2) (AS "kind" (.d<|.int p.1) xs))<|("a",.d<|.int p.2)::("kind",.d<|.int p.1)::FG mul b cs 1:=.cons CL (.cons ((JW<|by decide).trans CL)<|(h.other rfl).other rfl);have z:AA (AS "name" (.d<|.str d) (AS "a" (.d<|.int p.2) (AS "kind" (.d<|.int p.1) xs)))<|Fj mul b cs p.2 d:=.cons CL<|(j.trans (.cons rfl<|.cons rfl<|.cons rfl<|.cons rfl<|.cons rfl<|.cons rfl .nil):AA _<|("a",.d<|.int p.2)::FG mul b cs 1).other rfl;have g:=i.ok;obtain⟨C,q,v⟩:=kh (c0:=c0) z i (l:=l)<|AO (BA _ _) f;obtain⟨o,s,n,u,B,r⟩:=t (l:=l++m) v (AO (by rw[A9,Bv,C7 m.length];exact BW (BW g.2.2 _) _) f);rw[AD] at n;have A:Ce [c0,EX l] (.val<|.d<|EC<|B8 14) (.val<|.d<|.int k)=some (.d<|.str d):=by rw[kW];exact O1<|by rw[CP,e];rfl
 refine⟨o,m++s,ED (st₁:=⟨AS "a" (.d<|.int p.2) (AS "kind" (.d<|.int p.1) xs),[c0,EX l]⟩) rfl (BR (Ad (AK<|BI rfl (Ll rfl rfl) (FF (pn j rfl rfl) rfl y) A) rfl)<|xO q) n,u,λx w=>(BE.mp w).elim (g.1 x)<|B x,?_⟩;rw[Qz,CK,C7];exact Nat.add_le_add r g.2.1
inductive Acts(mul c b:Nat)(ps:List (Int×Int)):Prop where
 |mk (l:List Act):(∀a∈l,AW a)->EW l<=10->Cl gl Di 60 [.d (.key 0),.d (.int mul),.d (.int c),.d (.int b),.d (.lst (ps.map HJ))] [] (.val (.d (.lst (l.map B1)))) []->Acts mul c b ps
def kj(c:List Nat):EW (c.map<|K9 mul)=0:=by induction c with|nil=>rfl|cons a l e=>exact(Nat.zero_add _).trans e
def kq{c b:Nat}{ps:List (Int×Int)}(z:mul<1000)(k:c<100)(B:b<5)(s:ps.length<=8):Acts mul c b ps:=by
 have e:=Cv (l:=Li) B;generalize Li[b]=af at e;have j:(∀x∈af,AW x)/\EW af<=2/\af.length<=3:=by
  have q:∀f∈Li,(∀x∈f,AW x)/\EW f<=2/\f.length<=3:=by unfold Li;exact DA.mpr ⟨⟨λ_ h=>absurd h Ax,(by decide:0<=2),(by decide:0<=3)⟩,DA.mpr ⟨⟨λx h=>Ao.mp h▸trivial,(by decide:1<=2),(by decide:1<=3)⟩,DA.mpr ⟨⟨DA.mpr ⟨trivial,λx h=>Ao.mp h▸trivial⟩,(by decide:1<=2),(by decide:2<=3)⟩,DA.mpr ⟨⟨DA.mpr ⟨trivial,λx h=>Ao.mp h▸trivial⟩,(by decide:1<=2),(by decide:2<=3)⟩,DA.mpr ⟨⟨DA.mpr ⟨trivial,DA.mpr ⟨trivial,λx h=>Ao.mp h▸trivial⟩⟩,(by decide:2<=2),(by decide:3<=3)⟩,λ_ h=>absurd h Ax⟩⟩⟩⟩⟩
  exact q af<|List.mem_of_getElem? e
 have g:((List.range c).map<|K9 mul).length<100:=by rw[A4,List.length_range];exact k
 obtain⟨ys,w,o⟩:=kf (b:=b) (cs:=.lst<|ps.map HJ) z (List.range c) (l:=[]) (xs:=[("first",.d<|.key 0),("mul",.d<|.int mul),("count",.d<|.int c),("settle",.d<|.int b),("cells",.d<|.lst<|ps.map HJ),("out",.loc 0)]) (λi A=>AM (List.mem_range.mp A) k) (.cons rfl<|.cons rfl<|.cons rfl<|.cons rfl<|.cons rfl .nil) (by rw[List.length_range];exact AM (AO (BB<|Nat.zero_add c) k)<|nL rfl);rw[List.nil_append] at w;generalize t:(List.range c).map (K9 mul)=L at *;have v:AA (AS "out" (.loc 1) ys)<|FG mul b (.lst<|ps.map HJ) 1:=o.put rfl;obtain⟨I,m,G,C,H,y⟩:=ki (c0:=EX L) ps (l:=L++af) v (by rw[A9];exact Be (Nat.add_lt_add_of_lt_of_le (Nat.add_lt_add_of_lt_of_le g j.2.2)<|Nat.mul_le_mul_left 3 s)<|nL rfl);refine⟨(L++af)++m,λx g=>(BE.mp g).elim (λg=>(BE.mp g).elim (λg=>?_)<|j.1 x)<|H x,?_,?_⟩;rw[<-t] at g;obtain⟨i,_,rfl⟩:=B9.mp g;exact⟨Int.natCast_nonneg _,Int.lt_trans (Bc.mpr<|Nat.mod_lt _<|nL rfl) (by decide:(23:Int)<24)⟩;rw[Qz,Qz,<-t,kj,Nat.zero_add];exact Nat.add_le_add j.2.1<|AB y s;have E:∀{r:List Cell},Ce r (.val<|.d<|EC<|B8 13) (.val<|.d<|.int b)=some (.d<|.tup<|af.map B1):=by rw[kU];exact O1<|by rw[CP,e];rfl
 refine Cl.u (K:=50) (Ct rfl rfl<|Ag rfl (Ad (Cq (l:=[]) (Bt CC rfl) rfl) rfl)<|Ag rfl (Ez (l:=⟨(List.range c).map λi:Nat=>V.d<|.int i,false⟩) (LF (i:=(c:Int)) (λ_=>rfl) (pR rfl rfl) (LG (M:=0) (nL rfl)<|AM k<|nL rfl)<|by rw[NH,Am];rfl) rfl rfl<|Mine.U.up (nL rfl) (P:=λn=>forLoop' (AY gl n) Di _ _ _ _=some _) w)<|Ag rfl (Ad (Cq (l:=((L++af).map B1).map V.d) (Ak (pn o rfl rfl) (BP (r₁:=.fresh<|(af.map B1).map V.d) (λ_=>rfl) (BI rfl (Ll rfl rfl) (pn o rfl rfl) E) rfl) ?_) rfl) rfl)<|Ag rfl (Ez (l:=⟨ps.map λp=>V.d<|HJ p,false⟩) (By rfl (pn v rfl rfl) DG) rfl rfl<|Mine.U.up (nL rfl) (P:=λn=>forLoop' (AY gl n) Di _ _ _ _=some _) G)<|CR rfl (Bo<|pn C rfl rfl)<|Pd rfl) rfl;rw[AF];exact D3 (σ:=[EX L]) (r₁:=.val<|.loc 0) (r₂:=.fresh<|(af.map B1).map V.d) (xs:=L.map B1) (ys:=af.map B1) rfl rfl rfl<|by rw[A4,A4];exact AO (Nat.add_le_add (BS g) j.2.2) (nL rfl:100+3<1000)
end
section
variable{N:Int}{T:Tr}{k:Int}{x:A6}{A B R:List A6}
def Xr(h:∀r∈R,∀p∈r.2.2,p.1≠k):AX k (fl R)=.none:=DY.mpr λd=>by obtain⟨p,a,e⟩:=B9.mp d;obtain⟨r,c,a⟩:=List.mem_flatMap.mp a;exact h r c p a e
def Loc.lo{R:List A6}(h:Loc R k A x B):A≠[]->x.1<=k:=λc=>h.low x<|by cases A with|nil=>exact absurd rfl c|cons a A=>exact Aw _<|Dq x
def ku(h:Ord<|A++x::B)(c:Loc (A++x::B) k A x B):AX k (fl<|A++x::B)=AX k x.2.2:=by have o:=HH.mp h;have j:AX k (fl A)=.none:=Xr λu a p g=>Int.ne_of_lt (Int.lt_of_lt_of_le ((o.2.2.1 u a).1 p g)<|c.lo λe=>by rw[e] at a;exact absurd a Ax);have i:AX k (fl B)=.none:=Xr λb d q f=>Int.ne_of_gt<|Int.lt_of_lt_of_le (c.high b d)<|(o.2.2.2 b d).2 q f;rw[FC,Ik,Ik,j,i];cases AX k x.2.2<;>rfl
def ky(w:WF N T)(k:Int):Cl gl GE 80 [.d T.pd,.d<|.key k] [] (.val<|.d<|ET k<|fl T.rows) []:=by have a:=Em w.dm;cases T with|one x=>rw[show fl (Tr.one x).rows=x.2.2 from BJ _];exact NF a (.leaf<|Iq x) (nL rfl) (Cf<|w.ord.asc x AT)|top t g=>
 obtain⟨C,f,A,x,B,e,h⟩:=Qg w k;rw[e] at a ⊢;obtain⟨j,c,P⟩:=h.ctx.path;have e:ET k (fl (C.tree<|A++x::B).rows)=ET k x.2.2:=by unfold ET;rw[C.rows,E0,ku h.ord h.lof]
 rw[e];exact NF a P c<|Cf h.asc
def Xs{f:BV}(h:∀r∈R,f r.2.1=some (Ar r.2.2)):LD (Ib f 0) (AG R)<|fl R:=by induction R with|nil=>rfl|cons r R a=>exact⟨r.2.2,fl R,rfl,h r AT,a λq c=>h q<|Ah _ c⟩
def kz{f:BV}{a:List Gr}(h:∀r∈A8 a,f r.2.1=some (Ar r.2.2))(d:∀q∈Cg a,f q.1=some q.2):LD (Ib f 1) (Ai a)<|fl<|A8 a:=by induction a with|nil=>rfl|cons G a e=>exact⟨fl G.2,fl<|A8 a,Ni G.2<|A8 a,⟨_,_,d (BL G.1 G.2) AT,Xs λr c=>h r<|BC _ c⟩,e (λr c=>h r<|Aw _ c) λq g=>d q<|Ah _ g⟩
def l7(w:WF N T):∃j,j<5/\Ib (pf T.pgs) j T.root (fl T.rows):=by cases T with|one x=>exact⟨0,by decide,(Iq x).trans<|A3 (λl=>some<|Ar l) (BJ _).symm⟩|top t a=>have d:∀r∈A8 a,pf (Tr.top t a).pgs r.2.1=some (Ar r.2.2):=λr c=>HC w.nod<|BC _<|B9.mpr ⟨r,c,rfl⟩;have e:∀q∈Cg a,pf (Tr.top t a).pgs q.1=some q.2:=λq f=>HC w.nod<|Aw _<|BC _ f;have z:TSz t a:=w.sz;cases t with|none=>obtain⟨⟨g,R⟩,rfl⟩:=List.length_eq_one_iff.mp<|z.n1 rfl;refine⟨1,by decide,_,_,e (BL g R) AT,?_⟩;rw[show(Tr.top .none [(g,R)]).rows=R from BJ R];exact Xs λr c=>d r (BC _ c)|some t=>exact⟨2,by decide,_,_,HC (p:=AU (a.map hs).tail<|Ai a) w.nod<|Aw _<|Aw _ AT,kz d e⟩
def Xu(w:WF N T):(fl T.rows).length<=24:=Wg (lo:=0) (n:=24) (QY w.ord) w.key
def lA(w:WF N T)(a c:Int):Cl gl MW 160 [.d T.pd,.d<|.key a,.d<|.key c] [] (.fresh<|EH<|LE a c<|fl T.rows) []:=by obtain⟨j,e,P⟩:=l7 w;exact g5 (Em w.dm) P e<|AO (Xu w)<|nL rfl
end
noncomputable def DH(n:Int):Int:=2*n+1
noncomputable def FH(x:A6):A6:=(x.1,DH x.2.1,x.2.2)
noncomputable def Iy(G:Gr):Gr:=(DH G.1,G.2.map FH)
noncomputable def HL(r:LR):LR:=(r.1,r.2.1.map DH,r.2.2)
noncomputable def Tr.mvd:Tr->Tr|.one x=>.one (FH x)|.top t a=>.top (t.map DH)<|a.map Iy
section
variable{T:Tr}{R:List A6}{c:List Gr}{b:Bool}{ex:List Int}{t:Option Int}
def Xv:CM b (ex.map DH) (R.map FH)=(CM b ex R).map HL:=by cases R with|nil=>rfl|cons x R=>show lh _ _ _::(R.map FH).map lk=HL _::(R.map lk).map HL;rw[Am,Am];cases b<;>rfl
def lB:BM (c.map Iy)=(BM c).map HL:=by induction c with|nil=>rfl|cons G c a=>show CM false ([G.1].map DH) (G.2.map FH)++BM (c.map Iy)=(CM false [G.1] G.2++BM c).map HL;rw[AF,Xv,a]
def Xw:(t.map DH).toList=t.toList.map DH:=by cases t<;>rfl
def lC(T:Tr):T.mvd.flat=T.flat.map HL:=by cases T with|one x=>rfl|top t c=>cases c with|nil=>rfl|cons G c=>show CM true (DH G.1::(t.map DH).toList) (G.2.map FH)++BM (c.map Iy)=(CM true (G.1::t.toList) G.2++BM c).map HL;rw[AF,lB,<-Xv,Xw];rfl
def Xx:A8 (c.map Iy)=(A8 c).map FH:=by induction c with|nil=>rfl|cons G c a=>show G.2.map FH++A8 (c.map Iy)=(G.2++A8 c).map FH;rw[AF,a]
def Xy(T:Tr):T.mvd.rows=T.rows.map FH:=by cases T with|one x=>rfl|top t c=>exact Xx
def lD(R:List A6):fl (R.map FH)=fl R:=by induction R with|nil=>rfl|cons x R a=>exact A3 (x.2.2++·) a
def lE(R:List A6):AG (R.map FH)=(AG R).map DH:=by unfold AG;rw[Am,Am];rfl
def lF(T:Tr):T.mvd.pgs.map (·.1)=(T.pgs.map (·.1)).map DH:=by cases T with|one x=>rfl|top t c=>show(Tr.top (t.map DH)<|c.map Iy).pgs.map (·.1)=_;rw[Tr.keys,Tr.keys,Xx,lE,Xw,AF,AF];unfold Ai;rw[Am,Am];rfl
def lG{a b:Int}(h:DH a=DH b):a=b:=Int.eq_of_mul_eq_mul_left (a:=2) (by decide)<|(Int.add_left_inj 1).mp h
def lH:∀n∈B7,n<18->DH n∈B7/\DH n<36:=by unfold DH;decide
theorem WF.mvd(w:WF 18 T):WF 36 T.mvd:=by
 refine⟨?_,?_,?_,?_⟩;rw[lF];exact⟨List.pairwise_map.mpr<|w.nk.nod.imp λh e=>h<|lG e,λn j=>by obtain⟨m,i,rfl⟩:=B9.mp j;exact lH m (w.nk.dm m i).1 (w.nk.dm m i).2⟩;cases T with|one x=>exact w.sz|top t c=>have z:TSz t c:=w.sz;refine⟨λG k=>?_,λh=>?_,λh=>?_⟩;obtain⟨G,f,rfl⟩:=B9.mp k;have g:=z.gr G f;have l:(G.2.map FH).length=G.2.length:=A4 _;exact⟨l▸g.lo,λh=>l▸g.lo3 (Option.isSome_map▸h),l▸g.hi,λr d=>by obtain⟨r,a,rfl⟩:=B9.mp d;exact g.rows r a⟩;rw[A4];exact z.n1<|Option.map_eq_none_iff.mp h;rw[A4];exact z.n2<|Option.isSome_map▸h
 rw[Xy];exact⟨λr d=>by obtain⟨r,a,rfl⟩:=B9.mp d;exact w.ord.asc r a,List.pairwise_map.mpr w.ord.bet⟩;rw[Xy,lD];exact w.key
def lJ(T:Tr):Bj T.pd 30=true:=by show Bj (.tup [.lst<|(AH λn=>(pf T.pgs n).map Pag.d).map BT,.int T.root]) 30=true;show(Bj (.lst<|(AH λn=>(pf T.pgs n).map Pag.d).map BT) 29&&true)=true;rw[Mr (n:=28)];rfl;intro p f;have e:=(GH.mp f).2;obtain⟨q,a,e⟩:=Option.map_eq_some_iff.mp e;show(true&&(Bj p.2 27&&true))=true;rw[<-e,He (XZ T _<|XX _ a) 24];rfl
end
noncomputable def I0:R:=.val<|.d<|.bool true
section
variable{K:Nat}{c:List Cell}{d ys:List (Str×V)}{T i:Tr}{N k:Int}
def Xz:PyData.strOk "z" = true:=by decide +kernel
def Y0{b:Bool}{ex:List Int}(R:List A6):(CM b ex R).flatMap (·.2.2)=fl R:=by cases R with|nil=>rfl|cons x R=>refine A3 (x.2.2++·) ?_;show(R.map lk).flatMap _=R.flatMap _;rw[List.flatMap_map];rfl
def lK(a:List Gr):(BM a).flatMap (·.2.2)=fl (A8 a):=by induction a with|nil=>rfl|cons G a e=>show(CM false [G.1] G.2++BM a).flatMap _=fl (G.2++A8 a);rw[List.flatMap_append,Y0,e,Ni]
def lL(T:Tr):T.flat.flatMap (·.2.2)=fl T.rows:=by cases T with|one x=>rfl|top t a=>cases a with|nil=>rfl|cons G a=>show(CM true (G.1::t.toList) G.2++BM a).flatMap _=fl (G.2++A8 a);rw[List.flatMap_append,Y0,lK,Ni]
def WF.nums(w:WF N T):(nmz T.flat).Perm (T.pgs.map (·.1))/\T.flat.length<=12:=by cases T with|one x=>exact⟨.refl _,nL rfl⟩|top t f=>have z:TSz t f:=w.sz;refine⟨Nm (λe=>?_) λG a=>(z.gr G a).ne,AB (BB Iu)<|Nj w.ord (K3 z) w.key⟩;subst e;cases t with|none=>cases z.n1 rfl|some t=>exact absurd (z.n2 rfl)<|by decide
def lM:∀n∈B7,(small 2&&small n)=true:=by decide
theorem WF.small(w:WF N T){r:LR}(a:r∈T.flat){n:Int}(e:n∈r.2.1):(Mine.small 2&&Mine.small n)=true:=lM n (w.nk.dm n<|w.nums.1.mem_iff.mp<|List.mem_flatMap.mpr ⟨r,a,e⟩).1
def lO(l:List Int):E9 c "tuple" (.fresh<|(l.map D.int).map V.d)=some (.val<|.d<|eN l):=(A1<|by decide).trans<|(A1<|by decide).trans<|(A5 rfl).trans<|Aa (a:=(l.map D.int).map V.d) rfl<|A3 R.val<|NM _
def O2(T:Tr):E4 .NotEq c (.val<|.d T.pd) (.val<|.d T.pd)=some false:=FV (Je<|lJ T) rfl
def lP(w:WF 18 T)(X:0<=k/\k<24)(h:AA d [("hand",.d<|AI T.flat),("key",.d<|.key k)]):B3 gl DL 240 18 d c I0:=by
 have t:=w.mvd;obtain⟨E,H,M,J⟩:=Wv (v:="z") t X (by decide);obtain⟨C,G,L,I⟩:=XM t k;have y:AA (AS "moved" (.d<|AI T.mvd.flat) d) [("hand",.d<|AI T.flat),("key",.d<|.key k),("moved",.d<|AI T.mvd.flat)]:=h.put rfl;have j:AA (AS "tree" (.d T.mvd.pd) (AS "moved" (.d<|AI T.mvd.flat) d)) [("hand",.d<|AI T.flat),("key",.d<|.key k),("moved",.d<|AI T.mvd.flat),("tree",.d T.mvd.pd)]:=y.put rfl;have x:∀{K:Nat}{o:List (Str×V)}{p q r:Pos},AA o [("hand",.d<|AI T.flat),("key",.d<|.key k),("moved",.d<|AI T.mvd.flat)]->true=Nat.ble 80 (K+1)->Ev gl DL (K+2) (.Call (.Name "_law_tree" p) [.Name "moved" q] [] r) ⟨o,c⟩ (.val<|.d T.mvd.pd) ⟨o,c⟩:=λm Y=>BY (f:=Co) (us:=[.d<|AI T.mvd.flat]) rfl (BQ<|by decide) rfl rfl (sZ<|pn m rfl rfl) rfl<|Cl.u t.tree Y;have O:=w.nums.2;have Q:∀r∈T.flat,r.2.1.length<=lim:=λr s=>by have a:r.2.1.length<=(nmz T.flat).length:=List.Sublist.length_le (by obtain⟨A,B,e⟩:=List.append_of_mem s;rw[e,Qh];exact(List.sublist_append_left r.2.1<|nmz B).trans<|List.sublist_append_right (nmz A) _);rw[w.nums.1.length_eq,A4] at a;exact AB a<|AB (Dic.len (f:=pf T.pgs) ⟨w.nod,λ_=>rfl⟩<|Em w.dm)<|nL rfl
 refine B3.u (K:=230) ?_ rfl;refine Ag rfl (Ad (BN (ds:=T.mvd.flat.map AP) (DF (g:=λr=>V.d<|AP r) (h:=λr=>V.d<|AP<|HL r) (b:=λ_=>true) (l:=T.flat) (lr:=(T.mvd.flat.map AP).map V.d) (ys:=[]) (By rfl (pn h rfl rfl) DG) rfl rfl rfl .nil rfl (λr s o m=>⟨FY,λ_=>AK<|BU (v:=.d<|AP<|HL r) (sK (iX (pn m rfl rfl) rfl)<|sK (BP (r:=.fresh<|((r.2.1.map DH).map D.int).map V.d) (r₁:=.val<|.d<|eN<|r.2.1.map DH) (λ_=>rfl) (DF (g:=λn:Int=>V.d<|.int n) (h:=λn=>V.d<|.int<|DH n) (b:=λ_=>true) (l:=r.2.1) (ys:=[]) (By rfl (iX (pn m rfl rfl) rfl) Vf) rfl rfl rfl .nil rfl (λn S o m=>⟨FY,λ_=>AK<|Ak (Ak AN (pn m rfl rfl)<|Xo<|w.small s S) AN rfl⟩) (Q r s) ?_) ?_)<|sZ<|iX (pn m rfl rfl) rfl) rfl rfl⟩) ?_ ?_) rfl<|BO _) rfl) ?_;rw[List.filter_eq_self.mpr λ_ _=>rfl,Am,Am];rfl;exact lO _;exact AB O<|nL rfl;rw[List.filter_eq_self.mpr λ_ _=>rfl,lC,Am,Am];rfl;refine Ag rfl (Ad (AK<|x y rfl) rfl) ?_;refine Ag rfl (Av (Af rfl (BY (f:=Kr) (us:=[.d T.mvd.pd,.d<|.key k,.d<|.str "z"]) rfl (BQ<|by decide) rfl rfl (sN j rfl rfl<|sN j rfl rfl<|sZ<|CZ Xz) rfl<|Cl.u J rfl) (BY (f:=Co) (us:=[.d<|AI E.flat]) rfl (BQ<|by decide) rfl rfl (CD (NN (us:=[.d<|AI T.mvd.flat,.d<|.key k,.d<|.str "z"]) rfl (BQ<|by decide) rfl rfl (sN j rfl rfl<|sN j rfl rfl<|sZ<|CZ Xz) rfl (M.u rfl) rfl) CC) rfl<|Cl.u H.tree rfl)<|O2 E) Bh) ?_;refine Ag rfl (Av (Af rfl (BY (f:=JO) (us:=[.d T.mvd.pd,.d<|.key k]) rfl (BQ<|by decide) rfl rfl (sN j rfl rfl<|sZ<|pn j rfl rfl) rfl<|Cl.u I rfl) (BY (f:=Co) (us:=[.d<|AI C.flat]) rfl (BQ<|by decide) rfl rfl (CD (NN (us:=[.d<|AI T.mvd.flat,.d<|.key k]) rfl (BQ<|by decide) rfl rfl (sN j rfl rfl<|sZ<|pn j rfl rfl) rfl (L.u rfl) rfl) CC) rfl<|Cl.u G.tree rfl)<|O2 C) Bh) ?_;refine Ag rfl (Av (Af rfl (pn j rfl rfl) (x (j.trans<|.cons rfl<|.cons rfl<|.cons rfl .nil) rfl)<|O2 T.mvd) Bh) ?_;exact CR rfl (Bo λn=>rfl) rfl
end
structure Scr(items:List D)(s:Nat->Int):Prop where
 key:items[0]?=some (.key 0)
 at_:∀j,0<j->j<23->items[j]?=some (.int (s j))
 len:23<=items.length
noncomputable def Y1(items:List D)(s:MS):List<|Str×V:=[("script",.d<|.lst items),("got",.d<|Hz s),("hand",.d<|AI s.hand.flat),("base",.d<|AI s.base.flat),("safe",.d<|.lst<|s.safe.map eG),("pending",.d<|.lst<|s.pend.map eG),("want",.d<|Hz s)]
section
variable{K:Nat}{y:List Cell}{t ys:List (Str×V)}{items:List D}{z:Nat->Int}{s:MS}{l:List Act}{N:Nat}{c u:List Tr}
def O3{j:Nat}{J:Int}{w:D}{p q a:Pos}{e:Nat}(h:AA t ys)(hs:AJ "script" ys=some (.d<|.lst items))(f:items[j]?=some w)(g:(j:Int)=J):Ev gl DL (K+2) (.Subscript (.Name "script" p) (.Constant (.int J) e q) a) ⟨t,y⟩ (.val<|.d w) ⟨t,y⟩:=iX (pn h rfl hs)<|g▸CS f
def I1(S:Scr items z){j:Nat}{J:Int}{p q e:Pos}{f:Nat}(h:AA t ys)(hs:AJ "script" ys=some (.d<|.lst items))(g:(j:Int)=J)(a:decide (0<j/\j<23)=true):Ev gl DL (K+2) (.Subscript (.Name "script" p) (.Constant (.int J) f q) e) ⟨t,y⟩ (.val<|.d<|.int<|z j) ⟨t,y⟩:=O3 h hs (S.at_ j (D2 a).1 (D2 a).2) g
def lQ{l:List D}(h:Bj (.lst l) 30=true):E4 .NotEq y (.fresh<|l.map V.d) (.fresh<|l.map V.d)=some false:=by have e:KG (KH y<|.fresh<|l.map V.d)=some (.lst l):=bnd (a:=V.d<|.lst l) (Aa (BO l) rfl) rfl;exact bnd e<|bnd e<|Aa (Je h) rfl
def lT{e:Expr}{q k j g:Pos}{i:Int}{f:St}(h:Ev gl DL K e f (.val<|.d<|.int i) f):Tt gl DL (K+1) (.Compare (.Call (.Name "type" k) [e] [] j) [.IsNot] [.Name "int" g] q) f false f:=λn=>by show(if (DJ gl DL "type"&&DJ gl DL "int")=true then(G8 (AY gl<|n+K) DL e f).map λp=>(false,p.2) else .none)=_;exact Bk rfl<|Aa (a:=(i,f)) (bnd (a:=((false,i),f)) (bnd (h n) rfl) rfl) rfl
def Y2(m:MAt s 10 c u):Bj (Hz s) 30=true:=by have o:=m.ok<|Au _;show(Bj s.hand.pd 29&&(Bj (BZ<|s.safe.flatMap B0) 29&&(Bj (BZ<|s.pend.flatMap B0) 29&&(Bj (BD s.disk) 29&&true))))=true;rw[show Bj s.hand.pd 29=true from UT m.hand.good 23,show Bj (BZ<|s.safe.flatMap B0) 29=true from PX o.safe 24,show Bj (BZ<|s.pend.flatMap B0) 29=true from PX o.pend 24,show Bj (BD s.disk) 29=true from UT o.disk 23];rfl
def lU(L:List<|Int×Str):Bj (.lst<|L.map AQ) 30=true:=Mr λa _=>rfl
def lV(k:Int)(L:List<|Int×Str):Bj (ET k L) 30=true:=by unfold ET;cases AX k L<;>rfl
def lW(S:Scr items z)(m:MAt s 10 c u)(h:AA t<|Y1 items s):B3 gl DL 250 12 t [] I0:=by obtain⟨a,C,A⟩:=G5 (z 21) (m:=24)<|nL rfl;obtain⟨b,B,_⟩:=G5 (z 22) (m:=6)<|nL rfl;have L:=QY m.hand.ord;have w:=Xu m.hand;have k:=h.put (x:="key") (v:=.d<|.key a) rfl;have q:=k.put (x:="high") (v:=.d<|.key<|(a:Int)+(b:Int)) rfl;have e:=q.put (x:="pairs") (v:=.d<|.lst<|(fl s.hand.rows).map AQ) rfl;refine B3.u (K:=246) ?_ rfl;refine Ag rfl (Ad (v:=.d<|.key a) (AK<|Ak (O3 h rfl S.key rfl) (FF (I1 S (j:=21) h rfl rfl rfl) rfl C) Qy) rfl) ?_;refine Ag rfl (Ad (v:=.d<|.key<|(a:Int)+(b:Int)) (AK<|Ak (pn k rfl rfl) (FF (I1 S (j:=22) k rfl rfl rfl) rfl B) rfl) rfl) ?_;refine Ag rfl (Ad (v:=.d<|.lst<|(fl s.hand.rows).map AQ) (BN (l:=((fl s.hand.rows).map AQ).map V.d) (LK (g:=λr=>V.d<|AP r) (inn:=λr:LR=>r.2.2) (g2:=λ_ p=>V.d<|AQ p) (h:=λ_ p=>V.d<|AQ p) (b:=λ_ _=>true) (l:=s.hand.flat) (ys:=[]) (By rfl (pn q rfl rfl) DG) rfl rfl rfl rfl .nil rfl rfl rfl rfl (λr _ n i=>⟨By rfl (iX (pn i rfl rfl) rfl) DG,λp _ n i=>⟨FY,λ_=>kN i rfl rfl⟩⟩) ?_ ?_) rfl<|BO _) rfl) ?_;rw[Am,<-lL];exact Q9 _ _ _;rw[A4,A4];exact AB w<|nL rfl;have o:[Cell.dct (E5<|((fl s.hand.rows).map AQ).map V.d)<|DC<|(fl s.hand.rows).map<|vm sV][([]:List Cell).length]?=some (.dct (E5<|((fl s.hand.rows).map AQ).map V.d)<|DC<|(fl s.hand.rows).map<|vm sV):=rfl;refine Ag rfl (Av (Af rfl (BY (f:=GE) (us:=[.d s.hand.pd,.d<|.key a]) rfl (BQ<|by decide) rfl rfl (sK (iX (pn e rfl rfl) rfl)<|sZ<|pn e rfl rfl) rfl<|Cl.u (ky m.hand a) rfl) (Ku (r:=.val<|.d<|ET a<|fl s.hand.rows) (σ':=[Cell.dct (E5<|((fl s.hand.rows).map AQ).map V.d)<|DC<|(fl s.hand.rows).map<|vm sV]) rfl (Ks (σ:=[]) (λ_=>rfl) (pn e rfl rfl) rfl<|Pp<|fl s.hand.rows) o (sZ<|pn e rfl rfl) o ?_)<|FV (Je<|lV _ _) rfl) Bh) ?_;refine(A5 rfl).trans<|bnd (a:=V.d<|.key a) rfl<|bnd (a:=(true,(a:Int))) rfl<|Bk ?_ ?_;rw[Ja<|Cf L,Pq];rw[Ja<|Cf L,L1];unfold ET;cases AX (a:Int) (fl s.hand.rows)<;>rfl;refine Ag rfl (Av (Af rfl (BY (f:=MW) (us:=[.d s.hand.pd,.d<|.key a,.d<|.key<|(a:Int)+(b:Int)]) rfl (BQ<|by decide) rfl rfl (sK (iX (pn e rfl rfl) rfl)<|sN e rfl rfl<|sZ<|pn e rfl rfl) rfl<|Cl.u (lA m.hand a<|(a:Int)+(b:Int)) rfl) (DF (g:=λp=>V.d<|AQ p) (h:=λp=>V.d<|AQ p) (b:=λp:Int×Str=>decide ((a:Int)<=p.1)&&decide (p.1<(a:Int)+(b:Int))) (l:=fl s.hand.rows) (lr:=EH<|LE a ((a:Int)+(b:Int))<|fl s.hand.rows) (ys:=[("key",.d<|.key a),("high",.d<|.key<|(a:Int)+(b:Int))]) (By rfl (pn e rfl rfl) DG) rfl rfl rfl (.cons (e.seen rfl rfl)<|.cons (e.seen rfl rfl) .nil) rfl (λp _ n i=>⟨Ei<|VY (pn i rfl rfl) (iX (pn i rfl rfl) rfl)<|pn i rfl rfl,λ_=>kN i rfl rfl⟩) (AB w<|nL rfl) (Am (f:=AQ) (g:=V.d)).symm)<|lQ<|lU _) Bh) ?_;refine Ag rfl (Av (Af rfl (pn e rfl rfl) (pn e rfl rfl)<|FV (Je<|Y2 m) rfl) Bh) ?_;exact lP m.hand ⟨Int.natCast_nonneg a,Bc.mpr A⟩<|e.trans<|.cons rfl<|.cons rfl .nil
def lX(S:Scr items z)(m:MAt s 10 c u)(h:AA t<|Y1 items s):B3 gl DL 256 9 t [] I0:=by
 obtain⟨q,H,_⟩:=G5 (z 20) (m:=15)<|nL rfl;obtain⟨⟨T,e⟩,B,Q⟩:=m.log.cut (K7 c s.base) q;have M:=Xm e;have o:=m.ok<|Au _;have C:=m.bnd<|Au _;have J:Cz (q:Int) s.pend=DT (Bg s.base c) (CU (Bg s.base c) u q):=m.pend▸Xf ..;have w:s.safe++Cz (q:Int) s.pend=DT s.base (c++CU (Bg s.base c) u q):=by rw[Nv,<-m.safe,J]
 rw[<-m.sS,<-m.pS] at B;have g:(s.safe.flatMap B0).length+((s.pend.flatMap B0).take q).length<400:=AO (BW (List.length_take_le' _ _) _) C.1;have p:∀x∈s.safe.flatMap B0++(s.pend.flatMap B0).take q,Eh x:=λx k=>(BE.mp k).elim (o.safe x) λk=>o.pend x<|List.mem_of_mem_take k;have E:WF 18<|Bg s.base<|c++CU (Bg s.base c) u q:=by refine m.wf _ (?_:_∈s.base::(c++u));rw[e,<-AD,<-List.cons_append];exact BC _<|by rw[<-e];exact Qw _ _
 have I:BD (FW s.disk<|s.safe.flatMap B0++(s.pend.flatMap B0).take q)=(Bg s.base<|c++CU (Bg s.base c) u q).pd:=by unfold FW;rw[B,Q,K7];rfl
 have a:=h.put (x:="n") (v:=.d<|.int (q:Int)) rfl;have O:=Xg (L:=s.safe) (ps:=s.pend) (i:=(q:Int))<|AM C.2<|nL rfl;have A:=Xh (d:=s.base) (ps:=s.safe++Cz (q:Int) s.pend) (by rw[w,Le,A9];exact AO (AB (BW M _) m.len)<|nL rfl);rw[show(s.safe++Cz (q:Int) s.pend).map (·.2)=c++CU (Bg s.base c) u q from by rw[w,Qs]] at A;have G:∀{r:List Cell},Eb r (.val<|.d<|BZ<|s.pend.flatMap B0) .none (some (q:Int))=some (.fresh<|(((s.pend.flatMap B0).take q).map Ap).map V.d):=λ{r}=>by rw[List.map_take];exact Gy q
 refine B3.u (K:=255) ?_ rfl;refine Ag rfl (Av (IT<|Kw (Af rfl (pn h rfl rfl) (pn h rfl rfl)<|FV (Je<|Y2 m) rfl)<|Kx<|lT (i:=s.hand.root)<|iX (iX (pn h rfl rfl) rfl) rfl) Bh) ?_;refine Ag rfl (Ad (v:=.d<|.int (q:Int)) (AK<|FF (I1 S (j:=20) h rfl rfl rfl) rfl H) rfl) ?_;refine Ag rfl (Av (Af rfl (BY (f:=Ee) (us:=[.d<|BD s.disk,.d<|BZ<|s.safe.flatMap B0++(s.pend.flatMap B0).take q]) rfl (BQ<|by decide) rfl rfl (sK (iX (pn a rfl rfl) rfl)<|CD (BN (ds:=(s.safe.flatMap B0++(s.pend.flatMap B0).take q).map Ap) (Ak (iX (pn a rfl rfl) rfl) (Bx (iX (pn a rfl rfl) rfl) (λ_=>C0) (Bs<|pn a rfl rfl) G)<|Ug<|AB (BS g)<|nL rfl) rfl<|BO _) CC) rfl<|Cl.u (Uc o.disk p<|by rw[A9];exact AM g<|nL rfl) rfl) (BY (f:=Co) (us:=[.d<|AI (Bg s.base<|c++CU (Bg s.base c) u q).flat]) rfl (BQ<|by decide) rfl rfl (sZ<|BY (f:=MY) (us:=[.d<|AI s.base.flat,.d<|.lst<|(s.safe++Cz (q:Int) s.pend).map eG]) rfl (BQ<|by decide) rfl rfl (sN a rfl rfl<|sZ<|BY (f:=Gj) (us:=[.d<|.lst<|s.safe.map eG,.d<|.lst<|s.pend.map eG,.d<|.int (q:Int)]) rfl (BQ<|by decide) rfl rfl (sN a rfl rfl<|sN a rfl rfl<|sZ<|pn a rfl rfl) rfl<|Cl.u O rfl) rfl<|Cl.u A rfl) rfl<|Cl.u E.tree rfl)<|by rw[I];exact O2 _) Bh) ?_;exact(lW S m<|a.trans<|.cons rfl<|.cons rfl<|.cons rfl<|.cons rfl<|.cons rfl<|.cons rfl<|.cons rfl .nil).u rfl
end
section
variable{K:Nat}{σ:List Cell}{d ys:List (Str×V)}{items:List D}{sc:Nat->Int}{s:MS}{l:List Act}{k e:List Tr}
noncomputable def Y3(sc:Nat->Int)(j:Nat):Int×Int:=(sc j,sc<|j+1)
def I2(S:Scr items sc){j:Nat}{J f:Int}{p q o n m i g:Pos}{u t r:Nat}{b:Bool}(h:AA d ys)(hs:AJ "script" ys=some (.d<|.lst items))(v:(j:Int)=J)(c:((j+1:Nat):Int)=f)(a:decide (0<j/\j+1<23)=true):Kp gl DL (K+3) b (.Tuple [.Subscript (.Name "script" p) (.Constant (.int J) u q) o,.Subscript (.Name "script" n) (.Constant (.int f) t m) i] r g) ⟨d,σ⟩ (.d<|HJ<|Y3 sc j) ⟨d,σ⟩:=by have a:=D2 a;exact AK<|BU (sK (I1 S h hs v<|Ac ⟨a.1,Nat.lt_of_succ_lt a.2⟩)<|sZ<|I1 S h hs c<|Ac ⟨Nat.succ_pos _,a.2⟩) rfl rfl
noncomputable def R7(sc:Nat->Int):List<|Int×Int:=[3,5,7,9,11,13,15,17].map<|Y3 sc
def lY(l:List Act):Bj (.lst<|l.map B1) 30=true:=Mr λa _=>by cases a<;>rfl
def lZ(S:Scr items sc)(m:MAt s 10 k e)(w:Cl gl GG 250 [.d<|.lst<|l.map B1] [] (.val<|.d<|Qx s) [])(h:AA d [("script",.d<|.lst items),("twin",.d<|.lst<|l.map B1),("got",.d<|Hz s)]):B3 gl DL 262 7 d [] I0:=by
 have o:=m.bnd<|Au _;have c:=((((h.put (x:="hand") (v:=.d<|AI s.hand.flat) rfl).put (x:="base") (v:=.d<|AI s.base.flat) rfl).put (x:="safe") (v:=.d<|.lst<|s.safe.map eG) rfl).put (x:="pending") (v:=.d<|.lst<|s.pend.map eG) rfl).put (x:="disk") (v:=.d<|BD s.disk) rfl;have t:=c.put (x:="want") (v:=.d<|Hz s) rfl;refine B3.u (K:=260) ?_ rfl;refine Ag rfl (PE (l:=[.d<|AI s.hand.flat,.d<|AI s.base.flat,.d<|.lst<|s.safe.map eG,.d<|.lst<|s.pend.map eG,.d<|BD s.disk]) rfl rfl (AK<|BY (f:=GG) (us:=[.d<|.lst<|l.map B1]) rfl (BQ<|by decide) rfl rfl (sZ<|pn h rfl rfl) rfl<|Cl.u w rfl) rfl<|tN rfl<|tN rfl<|tN rfl<|tN rfl<|tO rfl) ?_;have n:∀L:List GP,(L.flatMap λp=>((B0 p).filter λ_=>true).map λr=>V.d<|Ap r)=((L.flatMap B0).map Ap).map V.d:=λL=>(Q9 B0 _ L).trans (by rw[Am];rfl);have j:∀{L:List Rec},L.length<400->((L.map Ap).map V.d).length<=lim:=λq=>by rw[A4,A4];exact BS<|AM q<|nL rfl
 refine Ag rfl (Ad (v:=.d<|Hz s) (AK<|BU (sK (BY (f:=Co) (us:=[.d<|AI s.hand.flat]) rfl (BQ<|by decide) rfl rfl (sZ<|pn c rfl rfl) rfl<|Cl.u m.hand.tree rfl)<|CD (BN (ds:=(s.safe.flatMap B0).map Ap) (LK (g:=λp:GP=>V.d<|eG p) (inn:=B0) (g2:=λ_ r=>V.d<|Ap r) (h:=λ_ r=>V.d<|Ap r) (b:=λ_ _=>true) (l:=s.safe) (ys:=[]) (By rfl (pn c rfl rfl) DG) rfl rfl rfl rfl .nil rfl rfl rfl rfl (λp _ i a=>⟨By rfl (iX (pn a rfl rfl) rfl) DG,λr _ i a=>⟨FY,λ_=>kN a rfl rfl⟩⟩) (n s.safe)<|j<|AO (BA _ _) o.1) rfl<|BO _)<|CD (BN (ds:=(s.pend.flatMap B0).map Ap) (LK (g:=λp:GP=>V.d<|eG p) (inn:=B0) (g2:=λ_ r=>V.d<|Ap r) (h:=λ_ r=>V.d<|Ap r) (b:=λ_ _=>true) (l:=s.pend) (ys:=[]) (By rfl (pn c rfl rfl) DG) rfl rfl rfl rfl .nil rfl rfl rfl rfl (λp _ i a=>⟨By rfl (iX (pn a rfl rfl) rfl) DG,λr _ i a=>⟨FY,λ_=>kN a rfl rfl⟩⟩) (n s.pend)<|j<|AO (Nat.le_add_left _ _) o.1) rfl<|BO _)<|sZ<|pn c rfl rfl) rfl rfl) rfl) ?_;exact(lX S m<|t.trans<|.cons rfl<|.cons rfl<|.cons rfl<|.cons rfl<|.cons rfl<|.cons rfl<|.cons rfl .nil).u rfl
def ld:∀c∈O0,c<100:=by unfold O0;decide
def lj(S:Scr items sc):Cl gl DL 270 [.d<|.lst items] [] I0 []:=by
 obtain⟨u,E,y⟩:=G5 (sc 1) (m:=22)<|nL rfl;obtain⟨v,C,t⟩:=G5 (sc 2) (m:=12)<|nL rfl;obtain⟨w,B,r⟩:=G5 (sc 19) (m:=5)<|nL rfl;obtain⟨c,hc⟩:∃c,O0[v]?=some c:=⟨_,Cv t⟩;obtain⟨l,A,z,q⟩:=kq (mul:=1+u) (c:=c) (b:=w) (ps:=R7 sc) (AM (Nat.add_lt_add_left y 1)<|nL rfl) (ld c<|List.mem_of_getElem? hc) r (by decide:8<=8);obtain⟨s,L,J,m,H,I⟩:=kQ A z;have G:∀{σ:List Cell},Ce σ (.val<|.d<|EC<|B8 12) (.val<|.d<|.int v)=some (.d<|.int (c:Int)):=by rw[kT];exact O1<|by rw[CP,hc];rfl
 have a:AA (DL.params.zip [V.d<|.lst items]) [("script",.d<|.lst items)]:=.refl;have i:=a.put (x:="cells") (v:=.d<|.lst<|(R7 sc).map HJ) rfl;have h:=((i.put (x:="mul") (v:=.d<|.int ((1+u:Nat):Int)) rfl).put (x:="count") (v:=.d<|.int (c:Int)) rfl).put (x:="settle") (v:=.d<|.int (w:Int)) rfl;have g:=h.put (x:="acts") (v:=.d<|.lst<|l.map B1) rfl;have p:=g.put (x:="twin") (v:=.d<|.lst<|l.map B1) rfl;have o:=p.put (x:="got") (v:=.d<|Hz s) rfl;refine Ct rfl rfl<|Ag rfl (Av (Af rfl (BP (λn=>rfl) (pn a rfl rfl)<|Do _) AN<|ES<|decide_eq_false<|Int.not_lt.mpr<|Int.ofNat_le.mpr S.len) Bh) ?_;refine Ag rfl (Ad (v:=.d<|.lst<|(R7 sc).map HJ) (BN (Bt (CD (I2 S (j:=3) a rfl rfl rfl rfl)<|CD (I2 S (j:=5) a rfl rfl rfl rfl)<|CD (I2 S (j:=7) a rfl rfl rfl rfl)<|CD (I2 S (j:=9) a rfl rfl rfl rfl)<|CD (I2 S (j:=11) a rfl rfl rfl rfl)<|CD (I2 S (j:=13) a rfl rfl rfl rfl)<|CD (I2 S (j:=15) a rfl rfl rfl rfl)<|CD (I2 S (j:=17) a rfl rfl rfl rfl) CC) rfl) rfl rfl) rfl) ?_;refine Ag rfl (Cr rfl rfl (BG (v:=.d<|.int ((1+u:Nat):Int)) (AK<|Ak AN (FF (I1 S (j:=1) i rfl rfl rfl) rfl E) rfl)<|BG (v:=.d<|.int (c:Int)) (AK<|BI rfl (Ll rfl rfl) (FF (I1 S (j:=2) i rfl rfl rfl) rfl C) G)<|BG (v:=.d<|.int (w:Int)) (AK<|FF (I1 S (j:=19) i rfl rfl rfl) rfl B) Cs)<|tN rfl<|tN rfl<|tO rfl) ?_;refine Ag rfl (Ad (v:=.d<|.lst<|l.map B1) (AK<|BY (f:=Di) rfl (BQ<|by decide) rfl rfl (sK (O3 h rfl S.key rfl)<|sN h rfl rfl<|sN h rfl rfl<|sN h rfl rfl<|sZ<|pn h rfl rfl) rfl<|Cl.u q rfl) rfl) ?_;refine Ag rfl (Ad (v:=.d<|.lst<|l.map B1) (AK<|BY (f:=Di) rfl (BQ<|by decide) rfl rfl (sK (O3 g rfl S.key rfl)<|sN g rfl rfl<|sN g rfl rfl<|sN g rfl rfl<|sZ<|pn g rfl rfl) rfl<|Cl.u q rfl) rfl) ?_;refine Ag rfl (Ad (AK<|BY (f:=EO) (us:=[.d<|.lst<|l.map B1]) rfl (BQ<|by decide) rfl rfl (sZ<|pn p rfl rfl) rfl<|Cl.u H rfl) rfl) ?_;refine Ag rfl (Av (Af rfl (pn o rfl rfl) (pn o rfl rfl)<|FV (Je<|lY l) rfl) Bh) ?_;exact(lZ S m I<|o.trans<|.cons rfl<|.cons rfl<|.cons rfl .nil).u rfl
def lz(h:items.length<23):Cl gl DL 270 [.d<|.lst items] [] I0 []:=by have a:AA (DL.params.zip [V.d<|.lst items]) [("script",.d<|.lst items)]:=.refl;exact Ct rfl rfl<|CR (r₁:=I0) rfl (B4 (Af rfl (BP (λn=>rfl) (pn a rfl rfl)<|Do _) AN<|ES<|Ac<|Bc.mpr h)<|Eg<|Bo λn=>rfl) rfl
noncomputable def O4:List Int->List D|[]=>[]|_::a=>.key 0::a.map .int
def R8(a:List Int):(O4 a).length=a.length:=by cases a with|nil=>rfl|cons i a=>exact A3 (·+1)<|A4 ..
def m0(a:List Int):Cl gl DL 270 [.d<|.lst<|O4 a] [] I0 []:=by
 by_cases h:23<=a.length;refine lj (sc:=λj=>a.getD j 0) ⟨?_,λj f c=>?_,by rw[R8];exact h⟩;cases a with|nil=>exact absurd h (by decide)|cons i a=>rfl
 cases a with|nil=>exact absurd h (by decide)|cons i a=>cases j with|zero=>exact absurd f (by decide)|succ j=>show(a.map D.int)[j]?=some (.int<|a.getD j 0);rw[CP,List.getD_eq_getElem?_getD,Cv<|Nat.lt_of_succ_lt_succ<|Be c h];rfl
 exact lz<|by rw[R8];exact Nat.not_le.mp h
end
end Mine.U
namespace Mine.S
open PySem
abbrev R9(m i:Nat):Nat:=(i*5+1)%(m+1)
noncomputable def G6(m:Nat):Nat->Nat->Nat|0,i=>i|t+1,i=>G6 m t<|R9 m i
def RA(m a b i:Nat):G6 m (a+b) i=G6 m b (G6 m a i):=by induction a generalizing i with|zero=>rw[Nat.zero_add];rfl|succ a c=>rw[Nat.succ_add];exact c _
noncomputable def FJ(m:Nat):Bool:=m==7||m==15||m==31||m==63||m==127
noncomputable def I3(m:Nat):Bool:=(List.range<|m+1).all (λj=>((List.range<|m+1).map λt=>G6 m t 0).contains j)&&G6 m (m+1) 0==0
def m6:I3 7=true/\I3 15=true/\I3 31=true/\I3 63=true/\I3 127=true:=by decide +kernel
def Y4{m:Nat}(h:FJ m=true):I3 m=true:=by obtain⟨a,b,c,d,e⟩:=m6;simp only [FJ,Bool.or_eq_true,beq_iff_eq] at h;rcases h with(((rfl|rfl)|rfl)|rfl)|rfl<;>assumption
def Y5{m:Nat}(h:FJ m=true):7<=m/\m<=127:=by simp only [FJ,Bool.or_eq_true,beq_iff_eq] at h;rcases h with(((rfl|rfl)|rfl)|rfl)|rfl<;>decide
def Y6{m j:Nat}(h:FJ m=true)(a:j<=m):∃t,t<=m/\G6 m t 0=j:=by have q:=Y4 h;simp only [I3,Bool.and_eq_true,List.all_eq_true,List.mem_range,Dp,B9] at q;obtain⟨t,d,c⟩:=q.1 j<|D0 a;exact⟨t,CF d,c⟩
def m7{m:Nat}(h:FJ m=true):G6 m (m+1) 0=0:=by have q:=Y4 h;simp only [I3,Bool.and_eq_true,beq_iff_eq] at q;exact q.2
def Y7{m i j:Nat}(h:FJ m=true)(d:i<=m)(c:j<=m):∃t,t<=m/\G6 m t i=j:=by obtain⟨a,f,rfl⟩:=Y6 h d;obtain⟨b,e,rfl⟩:=Y6 h c;by_cases q:a<=b;refine⟨b-a,AB (Nat.sub_le _ _) e,?_⟩;rw[<-RA,Nat.add_sub_cancel' q];refine⟨m+1+b-a,Nat.sub_le_iff_le_add.mpr<|AB (BB<|Bv m 1 b)<|BW (AB (BB<|C7 1 b)<|Nat.lt_of_not_le q) m,?_⟩;rw[<-RA,Nat.add_sub_cancel'<|AB f<|AB (Nat.le_succ m)<|BA _ _,RA,m7 h]
section
variable{d:Nat}{owner:Array (Option Nat)}
def RB{a i p:Nat}:SetTable.layClean.free d owner (a+1) i p=BK ((List.range<|SetTable.runEnd d i+1-i).find? λk=>(owner.getD (i+k)<|some 0).isNone) (λk=>some<|i+k) (SetTable.layClean.free d owner a (SetTable.leap d i p).1 (SetTable.leap d i p).2):=by kernel_rfl
def m8{j a:Nat}:∀{i p:Nat},SetTable.layClean.free d owner a i p=some j->owner.getD j (some 0)=none:=by induction a with|zero=>exact λh=>nK h|succ a c=>intro i p h;rw[RB] at h;cases hk:(List.range<|SetTable.runEnd d i+1-i).find? λk=>(owner.getD (i+k)<|some 0).isNone with|some k=>rw[hk] at h;obtain rfl:=Option.some.inj h;exact Option.isNone_iff_eq_none.mp (List.find?_some (p:=λk=>(owner.getD (i+k)<|some 0).isNone) hk)|none=>rw[hk] at h;exact c h
def RD{fuel i p:Nat}(h:∃j,SetTable.layClean.free d owner fuel (SetTable.leap d i p).1 (SetTable.leap d i p).2=some j):∃j,SetTable.layClean.free d owner (fuel+1) i p=some j:=by rw[RB];cases (List.range<|SetTable.runEnd d i+1-i).find? λk=>(owner.getD (i+k)<|some 0).isNone with|some k=>exact⟨_,rfl⟩|none=>exact h
def Y8{e:Type}{P:e->Prop}{c:Prop}[Decidable c]{a b:e}(g:P a)(f:P b):P<|if c then a else b:=(Decidable.em c).elim (λh=>(A5 h).symm▸g) λh=>(A1 h).symm▸f
def RE{m i:Nat}:i<=SetTable.runEnd m i:=by unfold SetTable.runEnd;exact Y8 (P:=(i<=·)) (BA _ _)<|Au _
def m9(d i:Nat):0<SetTable.runEnd d i+1-i:=Nat.sub_pos_of_lt<|D0 RE
def mA{a i p:Nat}(h:owner.getD i (some 0)=none):∃j,SetTable.layClean.free d owner (a+1) i p=some j:=by rw[RB];cases hk:(List.range<|SetTable.runEnd d i+1-i).find? λk=>(owner.getD (i+k)<|some 0).isNone with|some k=>exact⟨_,rfl⟩|none=>exact absurd (Option.isNone_iff_eq_none.mpr h)<|List.find?_eq_none.mp hk 0<|List.mem_range.mpr<|m9 d i
def mB{t:Nat}:∀{a i:Nat},owner.getD (G6 d t i) (some 0)=none->t<a->∃j,SetTable.layClean.free d owner a i 0=some j:=by induction t with|zero=>intro a i h q;obtain⟨f,rfl⟩:=Nat.exists_eq_succ_of_ne_zero<|Nat.ne_of_gt q;exact mA h|succ t c=>intro a i h q;obtain⟨f,rfl⟩:=Nat.exists_eq_succ_of_ne_zero<|Nat.ne_of_gt<|Nat.zero_lt_of_lt q;exact RD<|c (i:=R9 d i) h<|Nat.lt_of_succ_lt_succ q
def free_ex{i p j:Nat}(e:FJ d=true)(c:p<64)(f:j<=d)(h:owner.getD j (some 0)=none):∃k,SetTable.layClean.free d owner (SetTable.turns d) i p=some k:=by refine RD (fuel:=d+12+1+1)<|RD ?_;rw[show(SetTable.leap d (SetTable.leap d i p).1 (SetTable.leap d i p).2).2=0 from(Nat.div_div_eq_div_mul _ _ _).trans<|Nat.div_eq_of_lt<|AM c<|by decide];obtain⟨t,a,q⟩:=Y7 e (CF (Nat.mod_lt _<|Nat.succ_pos _):(SetTable.leap d (SetTable.leap d i p).1 (SetTable.leap d i p).2).1<=d) f;exact mB (t:=t) (q▸h)<|D0<|AB a<|BA _ _
end
def mC{a:Type}{f g:Nat->Option a}{L:List Nat}:(∀x∈L,g x=f x)->L.filterMap g=L.filterMap f:=by induction L with|nil=>exact λ_=>rfl|cons b L c=>exact λh=>by rw[List.filterMap_cons,List.filterMap_cons,h b AT,c λx d=>h x<|Ah _ d]
def mD{l:Type}{f g:Nat->Option l}{j:Nat}{k:l}(p:f j=none)(o:g j=some k)(m:∀i,i≠j->g i=f i){L:List Nat}:L.Nodup->j∈L->(L.filterMap g).Perm (k::L.filterMap f):=by induction L with|nil=>exact λ_ h=>absurd h Ax|cons a L c=>intro d h;have d:=Bi.mp d;rw[List.filterMap_cons,List.filterMap_cons];by_cases q:a=j;rw[q,o,p,mC λx n=>m x λe=>d.1<|q▸e▸n];have c:=c d.2<|(An.mp h).elim (λe=>absurd e.symm q) id;rw[m a q];cases f a with|none=>exact c|some b=>exact(c.cons b).trans<|List.Perm.swap _ _ _
noncomputable def Ln(a:Nat)(owner:Array<|Option Nat):List Nat:=(List.range<|a+1).filterMap λj=>owner.getD j none
abbrev Y9(a:Nat)(c:Option<|Array (Option Nat)×Nat)(h:Int):Option<|Array (Option Nat)×Nat:=do
 let (owner,k) <-c;let j <-SetTable.layClean.free a owner (SetTable.turns a) (SetTable.bits h%(a+1)) (SetTable.bits h);pure (owner.setIfInBounds j<|some k,k+1)
def mE{c:Type}{f:Nat->Option c}{L:List Nat}:(∀j∈L,f j≠none)->(L.filterMap f).length=L.length:=by induction L with|nil=>exact λ_=>rfl|cons a L d=>intro h;rw[List.filterMap_cons];cases e:f a with|none=>exact absurd e (h a AT)|some b=>exact A3 (·+1)<|d λj g=>h j<|Ah _ g
def Iz(a:Array<|Option Nat)(i:Nat)(d:Option Nat):a.getD i d=(a[i]?).getD d:=Array.getD_eq_getD_getElem? ..
def mF{a:Nat}{owner:Array (Option Nat)}{k:Nat}{h:Int}(t:FJ a=true)(hs:owner.size=a+1)(r:(Ln a owner).Perm<|List.range k)(u:k<=a)(v:SetTable.bits h<64):∃c,Y9 a (some (owner,k)) h=some (c,k+1)/\c.size=a+1/\(Ln a c).Perm (List.range<|k+1):=by
 obtain⟨j,m,e⟩:∃j,j<=a/\owner.getD j none=none:=Classical.byContradiction λq=>by have:=mE (f:=λj=>owner.getD j none) (L:=List.range<|a+1) λj m e=>q ⟨j,CF<|List.mem_range.mp m,e⟩;have l:=this.symm.trans r.length_eq;rw[List.length_range,List.length_range] at l;exact Nat.not_succ_le_self _<|l▸u
 have d:∀{i:Nat},i<owner.size->owner.getD i none=owner.getD i (some 0):=λq=>by rw[Iz,Iz,Array.getElem?_eq_getElem q];rfl
 obtain⟨i,q⟩:=free_ex (owner:=owner) (i:=SetTable.bits h%(a+1)) t v m<|(d (hs.symm▸D0 m:j<owner.size)).symm.trans e;have p:=m8 q;have o:i<owner.size:=Classical.byContradiction λn=>by rw[Iz,Array.getElem?_eq_none<|Nat.le_of_not_lt n] at p;exact nK p.symm
 refine⟨owner.setIfInBounds i<|some k,?_,by rw[Array.size_setIfInBounds,hs],?_⟩;show((SetTable.layClean.free a owner _ _ _).bind _:Option _)=_;rw[q];rfl;refine(mD (f:=λj=>owner.getD j none) (g:=λj=>(owner.setIfInBounds i<|some k).getD j none) (j:=i) (k:=k) ((d o).trans p) ?_ (λx s=>?_) (List.nodup_range (n:=a+1))<|List.mem_range.mpr<|hs▸o).trans<|(r.cons k).trans ?_;show(owner.setIfInBounds i<|some k).getD i none=_;rw[Iz,Array.getElem?_setIfInBounds_self_of_lt o];rfl;show(owner.setIfInBounds i<|some k).getD x none=_;rw[Iz,Array.getElem?_setIfInBounds_ne<|Ne.symm s,<-Iz];rw[List.range_succ];exact(List.perm_append_singleton k<|List.range k).symm
def mG{c:Nat}(n:FJ c=true){hs:List Int}:∀{owner:Array (Option Nat)}{k:Nat},owner.size=c+1->(Ln c owner).Perm (List.range k)->k+hs.length<=c+1->(∀h∈hs,SetTable.bits h<64)->∃d,hs.foldl (Y9 c) (some (owner,k))=some (d,k+hs.length)/\d.size=c+1/\(Ln c d).Perm (List.range<|k+hs.length):=by induction hs with|nil=>exact λi g _ _=>⟨_,rfl,i,g⟩|cons h hs l=>intro owner k i g f j;rw[CK,<-Nat.succ_add_eq_add_succ] at f;obtain⟨o,e,a,b⟩:=mF n i g (Nat.le_of_succ_le_succ<|AB (BA _ _) f)<|j h AT;rw[CK,<-Nat.succ_add_eq_add_succ,List.foldl_cons,e];exact l a b f λx m=>j x<|Ah _ m
structure TabOk(t:SetTable)(n:Nat)(led:Bool):Prop where
 mask:FJ t.mask=true
 size:t.place.size=n
 dum:t.dummies=#[]
 plain:t.plain=true
 led:t.led=led
 rise:t.place.toList.Pairwise (· < ·)
 low:∀j∈t.place.toList,j<=t.mask
 fill:n<=t.mask
def mH(f:Nat->Option Nat)(L:List Nat):((L.filterMap λj=>(f j).map (j,·)).map (·.2))=L.filterMap f/\((L.filterMap λj=>(f j).map (j,·)).map (·.1)).Sublist L:=by induction L with|nil=>exact⟨rfl,List.Sublist.refl _⟩|cons a L c=>rw[List.filterMap_cons,List.filterMap_cons];cases f a with|none=>exact⟨c.1,c.2.cons a⟩|some b=>exact⟨A3 (b::·) c.1,c.2.cons_cons a⟩
def YA{a finger moves:Nat}{led:Bool}{hashes:Array Int}(m:FJ a=true)(i:hashes.size<=a)(q:∀h∈hashes.toList,SetTable.bits h<64):∃t order,SetTable.laid a finger moves led true hashes=some (t,order)/\order.toList.Perm (List.range hashes.size)/\TabOk t hashes.size led/\t.mask=a/\t.finger=finger/\t.moves=moves:=by
 have z:(Ln a<|Array.replicate (a+1) none).Perm<|List.range 0:=List.Perm.of_eq (List.filterMap_eq_nil_iff.mpr λj d=>by rw[Iz,Array.getElem?_replicate,A5<|List.mem_range.mp d];rfl);obtain⟨o,e,hs,g⟩:=mG m (hs:=hashes.toList) (owner:=Array.replicate (a+1) none) (k:=0) Array.size_replicate z (by rw[Nat.zero_add,CE];exact Nat.le_succ_of_le i) q;rw[Nat.zero_add,CE] at g;have n:SetTable.layClean a hashes=some o:=by unfold SetTable.layClean;rw[<-Array.foldl_toList];exact A3 (Option.map (·.1)) e
 obtain⟨p,f⟩:=mH (λj=>o.getD j none)<|List.range<|a+1;have c:=(List.Perm.of_eq p).trans g;refine⟨_,_,by unfold SetTable.laid;rw[n];rfl,c,⟨m,?_,rfl,rfl,rfl,List.pairwise_lt_range.sublist f,λj d=>CF<|List.mem_range.mp<|f.subset d,i⟩,rfl,rfl,rfl⟩;have l:=c.length_eq;rw[A4,List.length_range] at l;exact(A4 ..).trans l
abbrev RF(xs:Array Nat):Prop:=∀i k,i<k->k<xs.size->xs.getD i 0<xs.getD k 0
def O5{a:Array Nat}(h:a.toList.Pairwise (· < ·)):RF a:=by intro i k c d;have e:=AM c d;rw[show a.getD i 0=a[i] from dif_pos e,show a.getD k 0=a[k] from dif_pos d];exact List.pairwise_iff_getElem.mp h i k e d c
def mJ{c:Array Nat}{i a b:Nat}(h:i<c.size):c.getD i a=c.getD i b:=(dif_pos h).trans (dif_pos h).symm
def mM{f:Array Nat}{j a:Nat}(v:RF f):∀{g d:Nat},d-g<=a->g<=d->d<=f.size->(∀i,i<g->f.getD i 0<j)->(∀i,d<=i->i<f.size->j<=f.getD i 0)->(SetTable.below.go f j a g d<=f.size/\(∀i,i<SetTable.below.go f j a g d->f.getD i 0<j)/\∀i,SetTable.below.go f j a g d<=i->i<f.size->j<=f.getD i 0):=by induction a with|zero=>exact λo r l n m=>⟨AB r l,n,λi d=>m i<|AB (Nat.le_of_sub_eq_zero<|Nat.le_zero.mp o) d⟩|succ a u=>intro g d o r l n m;rw[show SetTable.below.go f j (a+1) g d=if g<d then(if f.getD ((g+d)/2) j<j then SetTable.below.go f j a ((g+d)/2+1) d else SetTable.below.go f j a g ((g+d)/2)) else g from rfl];by_cases k:g<d;rw[A5 k];obtain⟨q,w,t,s⟩:=SV k;have p:=Be s l;rw[w,mJ (b:=0) p];by_cases c:f.getD q 0<j;rw[A5 c];refine u (CF<|Be (Nat.sub_lt_sub_left k<|D0 t) o) s l (λi h=>?_) m;by_cases e:i=q;exact e▸c;exact AM (v i _ (Nat.lt_of_le_of_ne (CF h) e) p) c;rw[A1 c];refine u (CF<|Be (Nat.sub_lt_sub_right t s) o) t (BS p) n λi h hs=>?_;by_cases e:i=q;exact e▸Nat.le_of_not_lt c;exact AB (Nat.le_of_not_lt c)<|BS<|v _ i (Nat.lt_of_le_of_ne h λx=>e x.symm) hs;rw[A1 k];exact⟨AB r l,n,λi d=>m i<|AB (Nat.le_of_not_lt k) d⟩
def RH{a:Array Nat}(j:Nat)(c:RF a):SetTable.below a j<=a.size/\(∀i,i<SetTable.below a j->a.getD i 0<j)/\∀i,SetTable.below a j<=i->i<a.size->j<=a.getD i 0:=mM c (Au _) (Bm _) (Au _) (λi h=>absurd h<|Nat.not_lt_zero _) λi h d=>absurd d<|Nat.not_lt.mpr h
section
variable{t:SetTable}{n:Nat}{a:Bool}{h:Int}
def YB(j:Nat):SetTable.has #[] j=false:=rfl
def YD{c:Array Nat}{k:Nat}(h:k<c.toList.length):c.getD k 0=c.toList[k]:=by rw[CE] at h;exact dif_pos h
def YE{d:Array Nat}(i:d.toList.Pairwise (· < ·))(j:Nat):SetTable.below d j<=d.size/\(∀x∈d.toList.take (SetTable.below d j),x<j)/\∀x∈d.toList.drop (SetTable.below d j),j<=x:=by have hs:=RH j<|O5 i;refine⟨hs.1,λx g=>?_,λx g=>?_⟩;obtain⟨k,f,e⟩:=List.getElem_of_mem g;rw[List.length_take] at f;have c:=Be f<|Nat.min_le_right _ _;rw[List.getElem_take,<-YD c] at e;exact e▸hs.2.1 k (Be f<|Nat.min_le_left _ _);obtain⟨k,f,e⟩:=List.getElem_of_mem g;rw[List.length_drop] at f;have c:=Nat.add_lt_of_lt_sub' f;rw[List.getElem_drop,<-YD c] at e;exact e▸hs.2.2 _ (BA _ _) (CE▸c)
def mN{j:Nat}(d:t.place.toList.Pairwise (· < ·))(g:j∈t.place.toList):t.slot j≠.empty:=by
 have hs:=YE d j;have c:j∈t.place.toList.drop (SetTable.below t.place j):=(BE.mp<|(List.take_append_drop (SetTable.below t.place j) t.place.toList).symm▸g).elim (λq=>absurd (hs.2.1 j q)<|Nat.lt_irrefl _) id;have i:t.place[SetTable.below t.place j]?=some j:=by cases e:t.place.toList.drop (SetTable.below t.place j) with|nil=>rw[e] at c;exact absurd c Ax|cons y r=>have f:y=j:=(An.mp<|e▸c).elim Eq.symm λq=>absurd ((DU.mp<|e▸d.sublist (List.drop_sublist _ _)).1 j q)<|Nat.not_lt.mpr<|hs.2.2 y<|e▸AT;have:=A3 List.head? e;rw[List.head?_drop,Array.getElem?_toList] at this;exact this.trans<|A3 some f
 unfold SetTable.slot;dsimp only;rw[i,A5<|beq_self_eq_true _];exact SetTable.Slot.noConfusion
def YF{j:Nat}(f:t.dummies=#[])(d:j∉t.place.toList):t.slot j=.empty:=by
 unfold SetTable.slot;have:(t.place[SetTable.below t.place j]?==some j)=false:=by rw[beq_eq_false_iff_ne];intro e;obtain⟨c,e⟩:=Array.getElem?_eq_some_iff.mp e;exact d<|by rw[<-e];exact Array.mem_toList_iff.mpr<|Array.getElem_mem c
 simp only [this,f,YB,Bool.false_eq_true,if_false]
def mO{j:Nat}(c:t.dummies=#[]):t.slot j≠.dummy:=by by_cases h:j∈t.place.toList;unfold SetTable.slot;rw[c];exact Y8 (P:=(·≠SetTable.Slot.dummy)) SetTable.Slot.noConfusion<|show(if SetTable.has #[] j=true then SetTable.Slot.dummy else .empty)≠.dummy from SetTable.Slot.noConfusion;rw[YF c h];exact SetTable.Slot.noConfusion
def mS(n:Nat):∀(l:List Nat),(∀j,j<n->j∈l)->n<=l.length:=by induction n with|zero=>exact λl _=>Bm _|succ n e=>intro l h;have d:=h n<|CY _;have:=e (l.erase n) λj c=>(List.mem_erase_of_ne<|Nat.ne_of_lt c).mpr<|h j<|Nat.lt_succ_of_lt c;rw[List.length_erase_of_mem d] at this;exact Nat.add_le_of_le_sub (List.length_pos_of_mem d) this
def mT(hs:t.place.size<=t.mask):∃j,j<=t.mask/\j∉t.place.toList:=Classical.byContradiction λq=>Nat.not_succ_le_self _<|AB (mS (t.mask+1) t.place.toList λj c=>Classical.byContradiction λm=>q ⟨j,CF c,m⟩)<|CE▸hs
noncomputable def pS(t:SetTable)(i c:Nat):SetTable.Probe:={j:=i,more:=SetTable.runEnd t.mask i-i,i,perturb:=c,dummy:=none}
def RI{m i:Nat}(h:i<=m):SetTable.runEnd m i<=m/\SetTable.runEnd m i-i<=9:=by unfold SetTable.runEnd;by_cases q:i+9<=m;rw[A5 q];exact⟨q,BB<|Nat.add_sub_cancel_left ..⟩;rw[A1 q];exact⟨h,Nat.sub_self i▸Bm _⟩
def Lo{c:Nat}{p:SetTable.Probe}(hs:t.slot p.j=.empty):SetTable.probe.go t (λ_=>h+1) h (c+1) p=some (.empty p.j p.dummy):=by show(match t.slot p.j with|.empty=>some (SetTable.Met.empty p.j p.dummy)|.dummy=>SetTable.probe.go t (λ_=>h+1) h c (t.advance {p with dummy:=some p.j})|.live i=>if h+1==h then some (.candidate p.j i<|t.advance p) else SetTable.probe.go t (λ_=>h+1) h c (t.advance p))=_;rw[hs]
def O6(f:t.dummies=#[]){c:Nat}{p:SetTable.Probe}(hs:t.slot p.j≠.empty):SetTable.probe.go t (λ_=>h+1) h (c+1) p=SetTable.probe.go t (λ_=>h+1) h c (t.advance p):=by show(match t.slot p.j with|.empty=>some (SetTable.Met.empty p.j p.dummy)|.dummy=>SetTable.probe.go t (λ_=>h+1) h c (t.advance {p with dummy:=some p.j})|.live i=>if h+1==h then some (.candidate p.j i<|t.advance p) else SetTable.probe.go t (λ_=>h+1) h c (t.advance p))=_;have d:=mO (j:=p.j) f;cases e:t.slot p.j with|empty=>exact absurd e hs|dummy=>exact absurd e d|live i=>exact A1 λq=>absurd (beq_iff_eq.mp q)<|by omega
def mU(l:t.dummies=#[])(c:Nat):∀(p:SetTable.Probe){m:SetTable.Met},p.dummy=none->p.j+p.more<=t.mask->SetTable.probe.go t (λ_=>h+1) h c p=some m->∃j,m=.empty j none/\t.slot j=.empty/\j<=t.mask:=by induction c with|zero=>exact λp m _ _ e=>nK e|succ c k=>
 intro p m g i e;by_cases hs:t.slot p.j=.empty;rw[Lo hs] at e;obtain rfl:=Option.some.inj e;exact⟨p.j,by rw[g],hs,AB (BA _ _) i⟩;rw[O6 l hs] at e;have d:(t.advance p).dummy=none/\(t.advance p).j+(t.advance p).more<=t.mask:=by unfold SetTable.advance;by_cases f:p.more>0;rw[A5 f];exact⟨g,AB (BB<|(Bv ..).trans<|A3 (p.j+·)<|Nat.add_sub_cancel' f) i⟩;rw[A1 f];exact⟨g,AB (BB<|Nat.add_sub_cancel' RE) (RI<|CF<|Nat.mod_lt _<|Nat.succ_pos _).1⟩
 exact k _ d.1 d.2 e
def mV(e:t.dummies=#[])(i c d:Nat)(g:∃x,SetTable.probe.go t (λ_=>h+1) h d (pS t (SetTable.leap t.mask i c).1 (SetTable.leap t.mask i c).2)=some x)(m:Nat):∀(j:Nat),∃x,SetTable.probe.go t (λ_=>h+1) h (d+m+1) {j,more:=m,i,perturb:=c,dummy:=none}=some x:=by induction m with|zero=>intro j;by_cases hs:t.slot j=.empty;exact⟨_,Lo hs⟩;rw[O6 e hs];exact g|succ m f=>intro j;by_cases hs:t.slot j=.empty;exact⟨_,Lo hs⟩;rw[O6 e hs];exact f<|j+1
def YG(g:t.dummies=#[])(k c:Nat):∀(p:SetTable.Probe),(∃x,SetTable.probe.go t (λ_=>h+1) h c p=some x)->∃x,SetTable.probe.go t (λ_=>h+1) h (c+k) p=some x:=by induction c with|zero=>exact λp d=>d.elim λ_ e=>nK e|succ c f=>intro p d;rw[Nat.succ_add];by_cases hs:t.slot p.j=.empty;exact⟨_,Lo hs⟩;rw[O6 g hs] at d ⊢;exact f _ d
def RJ(c:t.dummies=#[]){i pert fuel:Nat}(f:i<=t.mask)(d:∃x,SetTable.probe.go t (λ_=>h+1) h fuel (pS t (SetTable.leap t.mask i pert).1 (SetTable.leap t.mask i pert).2)=some x):∃x,SetTable.probe.go t (λ_=>h+1) h (fuel+10) (pS t i pert)=some x:=by have e:=(RI f).2;have:=YG c (9-(SetTable.runEnd t.mask i-i)) _ _<|mV c i pert fuel d (SetTable.runEnd t.mask i-i) i;rw[show fuel+(SetTable.runEnd t.mask i-i)+1+(9-(SetTable.runEnd t.mask i-i))=fuel+10 from(DB ..).trans<|A3 (·+1)<|(Bv ..).trans<|A3 (fuel+·)<|Nat.add_sub_cancel' e] at this;exact this
def mW(e:t.dummies=#[])(k:Nat):∀(i:Nat),i<=t.mask->t.slot (G6 t.mask k i)=.empty->∃x,SetTable.probe.go t (λ_=>h+1) h (10*k+1) (pS t i 0)=some x:=by induction k with|zero=>exact λi _ hs=>⟨_,Lo (p:=pS t i 0) hs⟩|succ k c=>exact λi d hs=>RJ (h:=h) (pert:=0) (fuel:=10*k+1) e d<|c (R9 t.mask i) (CF<|Nat.mod_lt _<|Nat.succ_pos _) hs
def mX(T:TabOk t n a)(y:SetTable.bits h<64):∃j,t.freeSlot h=some (j,false)/\j∉t.place.toList/\j<=t.mask:=by
 obtain⟨j,v,u⟩:=mT (t:=t) (by rw[T.size];exact T.fill);have ex:∃x,SetTable.probe t (λ_=>h+1) h (t.probeStart h)=some x:=by
  have d:∀i p,(SetTable.leap t.mask i p).1<=t.mask:=λi p=>CF<|Nat.mod_lt _<|Nat.succ_pos _;have w:SetTable.bits h%(t.mask+1)<=t.mask:=CF<|Nat.mod_lt _<|Nat.succ_pos _;generalize l:SetTable.leap t.mask (SetTable.bits h%(t.mask+1)) (SetTable.bits h)=l1;generalize c:SetTable.leap t.mask l1.1 l1.2=l2;have B:l2.2=0:=by rw[<-c,<-l];exact(Nat.div_div_eq_div_mul _ _ _).trans<|Nat.div_eq_of_lt<|AM y<|by decide
  obtain⟨k,f,e⟩:=Y7 T.mask (by rw[<-c];exact d _ _:l2.1<=t.mask) v;have g:=mW (h:=h) T.dum k l2.1 (by rw[<-c];exact d _ _) (by rw[e];exact YF T.dum u);have A:=RJ (h:=h) (i:=l1.1) (pert:=l1.2) T.dum (by rw[<-l];exact d _ _) (by rw[c,B];exact g);have z:=RJ (h:=h) (i:=SetTable.bits h%(t.mask+1)) (pert:=SetTable.bits h) T.dum w (by rw[l];exact A);have r:=YG T.dum (10*SetTable.turns t.mask-(10*k+1+10+10)) _ _ z;rw[show 10*k+1+10+10+(10*SetTable.turns t.mask-(10*k+1+10+10))=10*SetTable.turns t.mask from Nat.add_sub_cancel'<|AB (Ds (Nat.mul_le_mul_left 10 f) 21)<|show 10*t.mask+21<=10*(t.mask+15) from Nat.mul_add 10 t.mask 15▸BW (by decide) _] at r;exact r
 obtain⟨m,o⟩:=ex;have s:=RI (m:=t.mask) (i:=SetTable.bits h%(t.mask+1))<|CF<|Nat.mod_lt _<|Nat.succ_pos _;obtain⟨k,rfl,hs,f⟩:=mU (h:=h) T.dum _ _ (by rfl) (by show SetTable.bits h%(t.mask+1)+(SetTable.runEnd t.mask (SetTable.bits h%(t.mask+1))-SetTable.bits h%(t.mask+1))<=t.mask;rw[Nat.add_sub_cancel' RE];exact s.1) o;refine⟨k,?_,λq=>mN T.rise q hs,f⟩;unfold SetTable.freeSlot;rw[o];rfl
def mY(T:TabOk t n a){j:Nat}(k:j∉t.place.toList)(i:j<=t.mask)(g:n+1<=t.mask):TabOk (t.put j).1 (n+1) a/\(t.put j).1.mask=t.mask/\(t.put j).2<=n:=by
 have hs:=YE T.rise j;have f:(t.put j).1.place.toList=t.place.toList.take (SetTable.below t.place j)++j::t.place.toList.drop (SetTable.below t.place j):=SetTable.toList_insertAt _ _ _;have l:(t.put j).1.dummies=#[]:=by show(if SetTable.has t.dummies j=true then _ else t.dummies)=#[];rw[T.dum,YB];rfl
 refine⟨⟨T.mask,?_,l,T.plain,T.led,?_,?_,g⟩,rfl,by rw[<-T.size];exact hs.1⟩;rw[<-CE,f,A9,CK,<-Bv,<-A9,List.take_append_drop,CE,T.size];rw[f];have d:∀x∈t.place.toList.drop (SetTable.below t.place j),j<x:=λx c=>Nat.lt_of_le_of_ne (hs.2.2 x c) λq=>k<|q▸List.mem_of_mem_drop c;refine List.pairwise_append.mpr ⟨T.rise.sublist<|List.take_sublist _ _,DU.mpr ⟨d,T.rise.sublist<|List.drop_sublist _ _⟩,λx c y e=>?_⟩;rcases An.mp e with rfl|e;exact hs.2.1 x c;exact AM (hs.2.1 x c)<|d y e;intro x c;rw[f] at c;rcases BE.mp c with c|c;exact T.low x<|List.mem_of_mem_take c;rcases An.mp c with rfl|c;exact i;exact T.low x<|List.mem_of_mem_drop c
end
open PyProof.Rows PySem.Calls
noncomputable def DI(a:Array<|Int×Value)(c:Nat)(t:SetTable):Obj:={cls:=.type "set",dict:=none,data:=.set a c t,slots:=#[]}
def GQ(es:List<|Int×Value):Prop:=∀e∈es,∃k a,e=(k,.int k a)/\0<=k/\k<64
noncomputable def Bz(a:Array<|Int×Value):List Int:=a.toList.map (·.1)
noncomputable def GR(l:List Int)(k:Int):List Int:=if l.contains k then l else l++[k]
def RK{k:Int}(h:0<=k/\k<64):hashInt k=k:=by
 obtain⟨n,rfl⟩:∃n:Nat,k=n:=⟨k.toNat,(Int.toNat_of_nonneg h.1).symm⟩;have:∀n:Fin 64,hashInt ((n:Nat):Int)=(n:Nat):=by decide +kernel
 exact this ⟨n,Bc.mp h.2⟩
def RL{k:Int}(h:0<=k/\k<64):SetTable.bits k<64:=by unfold SetTable.bits;rw[Int.emod_eq_of_lt h.1<|Int.lt_trans h.2<|by decide];exact(Int.toNat_lt h.1).mpr h.2
structure SA(h:Heap)(a:Addr)(led:Bool)(rem:Nat)(es:Array (Int×Value))(ep:Nat)(t:SetTable):Prop where
 at_:h.get? a=some (DI es ep t)
 ents:GQ es.toList
 tab:TabOk t es.size led
 room:(es.size+rem)*5<t.mask*3
section
variable{c:Program}{w:World}{A:Around}{E:Value->Shared->Prop}{s:Shared}{a:Addr}{i:Bool}{g n:Nat}{d:Array (Int×Value)}{l:Nat}{t:SetTable}{k:Int}{f:Tok}
theorem TabOk.fits(T:TabOk t n i):t.fits n=true:=by unfold SetTable.fits SetTable.fill;rw[T.size,T.dum];simp [T.fill]
def GQ.elems(h:GQ d.toList):ElemsOf (intKind c w) d.toList:=λe m=>by obtain⟨k,f,rfl,j⟩:=h e m;exact⟨⟨k,by simp [intKind,Value.isInt],(RK j).symm⟩,rfl⟩
def O7(T:TabOk t n i):t.mask<=127:=(Y5 T.mask).2
def SA.add{Q:Bool->Shared->Prop}(S:SA s.heap a i (g+1) d l t)(Y:0<=k/\k<64) (h:∀b h' M a1 t',Heap.SameBut a s.heap h'->SA h' a i g M a1 t'->(Bz M).Perm (GR (Bz d) k)->Q b {s with heap:=h'}):wpAny (model c w) A (setAddHashed a (.int k f) k) Q E s:=by
 have H:=O7 S.tab;have T:d.size<4096:=AO (AB S.tab.fill H) (by decide);have K:ElemsOf (intKind c w) d.toList:=S.ents.elems;have J:(intKind c w).is k (.int k f)=true:=by simp [intKind,Value.isInt]
 have hh:(intKind c w).hash k=k:=RK Y;have L:d.size+1<=d.size+(g+1):=BW (Nat.succ_pos g) d.size;have G:d.size+1<=t.mask:=AB L (BS<|Nat.lt_of_mul_lt_mul_right (a:=5)<|Be S.room<|Nat.mul_le_mul_left _<|by decide);unfold setAddHashed setAddHashedIn;refine wpAny_holding<|A7<|wpAny_setState_of S.at_ rfl S.tab.fits ?_;dsimp only;rw[byScan_of (knd:=intKind c w) rfl T K];simp only [↓reduceIte];unfold setAddByScan;refine A7 ?_;refine A7<|wpAny_rule ?_;have z:=wpAny_setScan_of (prog:=c) (w:=w) (A:=A) (E:=E) (s:=s) (knd:=intKind c w) (adding:=true) J S.at_ rfl S.tab.fits K (Q:=λr v=>v=s/\r=match d.toList.findIdx? (λe=>(intKind c w).is k e.2) with|some j=>.found (0+j)|none=>.absent);rw[hh] at z;refine A7<|wpAny_mono (z ⟨rfl,rfl⟩) (λr v q=>?_) λ_ _ q=>q;obtain⟨rfl,rfl⟩:=q;cases hr:List.findIdx? (λe=>(intKind c w).is k e.2) d.toList with
 |some j=>
  dsimp only;obtain⟨N,B,_⟩:=List.findIdx?_eq_some_iff_getElem.mp hr;have I:k∈Bz d:=by
   obtain⟨k',y,e,_⟩:=S.ents _<|List.getElem_mem N;rw[e] at B;have:k'=k:=by simpa [intKind,Value.isInt] using B
   exact B9.mpr ⟨_,List.getElem_mem N,by rw[e];exact this⟩
  refine AR<|AR ?_;have:=h false v.heap d l t (Heap.SameBut.refl a v.heap) ⟨S.at_,S.ents,S.tab,AO (Nat.mul_le_mul_right 5<|Nat.le_succ _) S.room⟩ (by unfold GR;rw[A5<|Dp.mpr I]);exact this
 |none=>
  dsimp only;have C:k∉Bz d:=λq=>by obtain⟨e,O,rfl⟩:=B9.mp q;obtain⟨k',y,rfl,_⟩:=S.ents _ O;have:=List.findIdx?_eq_none_iff.mp hr _ O;simp [intKind,Value.isInt] at this
  obtain⟨j,hf,N,Z⟩:=mX S.tab<|RL Y;obtain⟨x,p,_⟩:=mY S.tab N Z G;have hL:layNew t d k (.int k f)=(SetTable.insertAt d (t.put j).2 (k,.int k f),(t.put j).1,false,false):=by
   have X:(SetTable.insertAt d (t.put j).2 (k,Value.int k f)).size=d.size+1:=by rw[<-CE,(SetTable.insertAt_perm d _ _).length_eq,CE,Array.size_push]
   unfold layNew;rw[hf];simp only;rw[X];unfold SetTable.orStandIn;rw[x.fits];rfl
  have m:(SetTable.insertAt d (t.put j).2 (k,Value.int k f)).toList.Perm<|d.toList++[(k,.int k f)]:=by have:=SetTable.insertAt_perm d (t.put j).2 (k,Value.int k f);rwa [Array.toList_push] at this
  generalize SetTable.insertAt d (t.put j).2 (k,Value.int k f)=es1 at hL m;generalize (t.put j).1=t1 at hL x p;have o:es1.size=d.size+1:=by rw[<-CE,m.length_eq,A9,CE];rfl
  rw[hL];dsimp only;refine A7<|AR ?_;rw[x.plain];simp only [↓reduceIte];rw[hashByValue_scannable 8 rfl];refine A7<|AR ?_;simp only [plainKind,↓reduceIte];refine A7 (wpAny_storeSet_of S.at_ rfl ?_<|by rw[o];exact fits_of_scanBound<|AO (AB G H)<|by decide);have u:t1.tooFull=false:=by unfold SetTable.tooFull SetTable.fill;rw[x.size,x.dum,p];exact decide_eq_false<|Nat.not_le.mpr<|AO (Nat.mul_le_mul_right 5 L) S.room
  rw[u];simp only [Bool.not_false,Bool.and_false,Bool.false_eq_true,↓reduceIte];refine AR<|AR ?_;have hg:(v.heap.update a<|Obj.putSet es1 t1).get? a=some (DI es1 (l+1) t1):=by have:=Heap.get?_update_self (Obj.putSet es1 t1) S.at_ (by rw[putSet_of es1 t1 rfl];rfl);rw[putSet_of es1 t1 rfl] at this;exact this
  refine h true _ es1 (l+1) t1 (Heap.SameBut.update v.heap a _) ⟨hg,λe O=>?_,by rw[o];exact x,by rw[o,p,Nat.succ_add_eq_add_succ];exact S.room⟩ ?_;rcases BE.mp (m.mem_iff.mp O) with q|q;exact S.ents e q;exact⟨k,f,Ao.mp q,Y⟩;unfold GR;rw[A1<|by rw[Dp];exact C];have:=m.map (·.1);rw[AF] at this;exact this
end
structure SB(h:Heap)(a:Addr)(led:Bool)(es:Array (Int×Value))(ep:Nat)(t:SetTable):Prop where
 at_:h.get? a=some (DI es ep t)
 ents:GQ es.toList
 tab:TabOk t es.size led
def YH:∀w:Fin 81,FJ (SetTable.sizeAbove w-1)=true/\(w:Nat)<SetTable.sizeAbove w:=by decide +kernel
section
variable{c:Program}{w:World}{A:Around}{E:Value->Shared->Prop}{s:Shared}{a:Addr}{led:Bool}{i n:Nat}{es:Array (Int×Value)}{d:Nat}{t:SetTable}{k:Int}{g:Tok}
def SB.sa(S:SB s.heap a led es d t){e:Nat}(h:(es.size+e)*5<t.mask*3):SA s.heap a led e es d t:=⟨S.at_,S.ents,S.tab,h⟩
def YI{order:Array Nat}(e:order.toList.Perm<|List.range es.size):(order.filterMap (es[·]?)).toList.Perm es.toList:=by rw[Array.toList_filterMap];exact(e.filterMap _).trans<|by rw[filterMap_getElem?_range]
def RM{Q:Unit->Shared->Prop}{e:Array (Int×Value)}{f:SetTable}(l:s.heap.get? a=some (DI es d t))(m:e.size<=sizeLine)(h:∀j,Heap.SameBut a s.heap j->j.get? a=some (DI e (d+1) f)->Q () {s with heap:=j}):wpAny (model c w) A (storeSet a e f) Q E s:=by refine wpAny_storeSet_of l rfl (h _ (Heap.SameBut.update s.heap a _) ?_) m;have:=Heap.get?_update_self (Obj.putSet e f) l (by rw[putSet_of e f rfl];rfl);rw[putSet_of e f rfl] at this;exact this
def GQ.perm{l f:List (Int×Value)}(h:GQ l)(p:f.Perm l):GQ f:=λe j=>h e<|p.mem_iff.mp j
def SB.relay{Q:Unit->Shared->Prop}(S:SB s.heap a led es d t){f:Nat}(H:f<=80)(J:es.size<=f) (h:∀q r B u,Heap.SameBut a s.heap q->SB q a led r B u->r.toList.Perm es.toList->u.mask=SetTable.sizeAbove f-1->Q () {s with heap:=q}):wpAny (model c w) A (setRelay a f) Q E s:=by
 obtain⟨K,p⟩:=YH ⟨f,D0 H⟩;simp only at K p;have X:∀x∈(es.map (·.1)).toList,SetTable.bits x<64:=λx G=>by rw[Array.toList_map] at G;obtain⟨e,T,rfl⟩:=B9.mp G;obtain⟨k,g,rfl,N⟩:=S.ents e T;exact RL N
 obtain⟨u,order,M,I,C,o,_,_⟩:=YA (finger:=t.finger) (moves:=t.movedTo<|SetTable.sizeAbove f-1) (led:=led) (hashes:=es.map (·.1)) K (by rw[Array.size_map];exact Nat.le_sub_one_of_lt<|AO J p) X;rw[Array.size_map] at I C;have l:=YI (es:=es) I;have j:(order.filterMap (es[·]?)).size=es.size:=by rw[<-CE,l.length_eq,CE]
 have L:t.relaid (es.map (·.1)) f=some (u,order):=by unfold SetTable.relaid;rw[S.tab.led,S.tab.plain];exact M
 have m:=O7 C;have v:es.size<=sizeLine:=AB (AB J H) (by decide);unfold setRelay;refine A7<|wpAny_setState_of S.at_ rfl S.tab.fits ?_;dsimp only;have y:¬SetTable.sizeAbove f>sizeLine:=by rw[o] at m;exact Nat.not_lt.mpr<|AB (Nat.le_add_of_sub_le m)<|by decide
 rw[A1 y];refine A7 ?_;wp_delta;rw[L];dsimp only;rw[show((order.filterMap (es[·]?)).size != es.size)=false from by rw[j];exact bne_self_eq_false _];simp only [Bool.false_eq_true,↓reduceIte];refine AR<|RM S.at_ (by rw[j];exact v) λq z O=>h q _ _ _ z ⟨O,S.ents.perm l,by rw[j];exact C⟩ l o
def SB.room{Q:Unit->Shared->Prop}(S:SB s.heap a led es d t){more:Nat}(y:es.size+more<=40) (h:∀m e f o,Heap.SameBut a s.heap m->SA m a led more e f o->e.toList.Perm es.toList->Q () {s with heap:=m}):wpAny (model c w) A (setRoomFor a more) Q E s:=by
 unfold setRoomFor;refine A7<|wpAny_setState_of S.at_ rfl S.tab.fits ?_;dsimp only;unfold SetTable.roomFor SetTable.fill;rw[S.tab.size,S.tab.dum];by_cases l:(es.size+0+more)*5≥t.mask*3;rw[A5<|by simpa using l];dsimp only;obtain⟨B,j⟩:=YH ⟨(es.size+more)*2,D0<|Nat.mul_le_mul_right 2 y⟩;simp only at B j;refine S.relay (Nat.mul_le_mul_right 2 y) (AB (BA _ _)<|Nat.le_mul_of_pos_right _<|by decide) λm e f o p v x u=>h m e f o p ⟨v.at_,v.ents,v.tab,?_⟩ x;have r:e.size=es.size:=by rw[<-CE,x.length_eq,CE]
 rw[r,u];have z:0<es.size+more:=Nat.pos_of_ne_zero λq=>by rw[Nat.add_zero,q] at l;exact absurd (AB (Nat.mul_le_mul_right 3 (Y5 S.tab.mask).1) l)<|by decide
 exact Be (Nat.mul_lt_mul_of_pos_left (show 5<2*3 by decide) z)<|AB (BB (Nat.mul_assoc _ 2 3).symm)<|Nat.mul_le_mul_right 3<|Nat.le_sub_one_of_lt j;rw[A1<|by simpa using l];dsimp only;exact AR<|h s.heap es d t (Heap.SameBut.refl a s.heap) (S.sa<|Nat.lt_of_not_le l)<|List.Perm.refl _
def YJ{M:Model}{u l:Type}(f:u->l->Sem (ForInStep l))(I:List u->l->Shared->Prop)(Q:l->Shared->Prop) (o:∀x e b s,I (x::e) b s->wpAny M A (f x b) (λr p=>match r with|.yield j=>I e j p|.done j=>Q j p) E s) (v:∀b s,I [] b s->Q b s) (m:List u):∀(b:l)(s:Shared),I m b s->wpAny M A (forIn m b f) Q E s:=by induction m with|nil=>exact λb s h=>AR (v b s h)|cons x m y=>intro b s h;rw[List.forIn_cons];refine A7<|wpAny_mono (o x m b s h) (λr p q=>?_) λ_ _ q=>q;cases r with|done j=>exact AR q|yield j=>exact y j p q
def mZ{M:Model}{m j:Type}(f:m->j->Sem (ForInStep j))(I:List m->j->Shared->Prop)(Q:j->Shared->Prop) (l:∀x e b s,I (x::e) b s->wpAny M A (f x b) (λr u=>match r with|.yield q=>I e q u|.done q=>Q q u) E s) (p:∀b s,I [] b s->Q b s) (o:Array m) (b:j) (h:I o.toList b s):wpAny M A (forIn o b f) Q E s:=by rw[<-Array.forIn_toList];exact YJ f I Q l p o.toList b s h
end
noncomputable def Bq(w:World):Bool:=!w.params.followText "set-order"
section
variable{f:Program}{w:World}{A:Around}{E:Value->Shared->Prop}{s:Shared}{d:Addr}{c:List (Int×Value)}
def ma(a:Bool):TabOk (.fresh 0 0 a) 0 a:=⟨rfl,rfl,rfl,rfl,rfl,List.Pairwise.nil,λ_ h=>absurd h Ax,Bm _⟩
def YK{h:Heap}{a:Addr}(g:Bool)(e:h.get? a=some (DI #[] 0 (.fresh 0 0 g))):SB h a g #[] 0 (.fresh 0 0 g):=⟨e,λ_ h=>absurd h Ax,ma g⟩
def mf(x:Value){Q₁:Value->Shared->Prop}(h:Q₁ (.ref s.heap.objs.size) {s with heap:=s.heap.push (DI #[] 0 (.fresh 0 0<|Bq w))}):codeAny (model f w) A (.call (.builtin "set.__new__") ⟨[.type "set",x],[]⟩) (PySem.wants Q₁ E) s:=by refine codeAny_of_tree ?_;show wpAny _ A.in1 (do checkBuiltinCall "set.__new__" ⟨[.type "set",x],[]⟩;again (.builtin "set.__new__" ⟨[.type "set",x],[]⟩)) _ _ s;refine A7<|wpAny_of_eq (F.newCall_set_1 x)<|AR ⟨plainId_quiet F.plain_set_new _,codeAny_builtin F.entry_set_new ?_⟩;rw[Around.under_plainId F.plain_set_new _];unfold Builtin.«set.__new__» Builtin.Frozenset.newClass;have a:=sub_set_self;obtain⟨j,g,d,e,i⟩:=s;dsimp only;wp_walk;refine wpAny_askSetting<|AR ?_;dsimp only;simp only [newObj];refine A7<|wpAny_alloc<|AR ?_;exact AR h
def mh{a:List DictEntry}{c:List (Int×Value)}(k:Pairs (intKind f w) a c):∀(i:Nat)(e:DictEntry),a[i]?=some e->∃g,c[i]?=some g/\(intKind f w).is g.1 e.key=true:=by induction k with|nil=>exact λ_ _ h=>nK h|@cons _ g _ _ l _ _ j=>intro i e h;cases i with|zero=>obtain rfl:=Option.some.inj h;exact⟨g,rfl,l⟩|succ i=>exact j i e h
inductive FI(s:Shared)(a:Addr)(led:Bool)(c:List (Int×Value))(l:List Nat)(s':Shared):Prop where
 |mk (i:Nat) (h':Heap) (es:Array (Int×Value)) (ep:Nat) (t:SetTable):i+l.length=c.length->l=List.range' i l.length->s'={s with heap:=h'}->Heap.SameBut a s.heap h'->SA h' a led l.length es ep t->(Bz es).Perm ((c.take i).map (·.1))->FI s a led c l s'
def mi{a:Addr}{Q:Unit->Shared->Prop}(ha:s.heap.get? a=some (DI #[] 0 (.fresh 0 0<|Bq w)))(hd:(d==sysModules)=false)(ab:a≠d)(hm:s.heap.DictOf (intKind f w) d c)(hn:c.length<=20)(hk:∀p∈c,0<=p.1/\p.1<64) (h:∀r y ep t,Heap.SameBut a s.heap r->SB r a (Bq w) y ep t->(Bz y).Perm (c.map (·.1))->Q () {s with heap:=r}):wpAny (model f w) A (Builtin.Frozenset.updateFrom "set.__init__" a (.ref d)) Q E s:=by
 obtain⟨o,J,ep,ho,a2,g,H,x,M⟩:=hm;have hT:s.TypeIs (.ref d) "dict":=⟨o,ho,a2.1⟩;have an:=F.sub_dict_set;have ap:=F.sub_dict_frozenset;unfold Builtin.Frozenset.updateFrom Builtin.Frozenset.isAnySet;wp_walk;rw[g];dsimp only;refine AR ?_;refine A7<|wpAny_dictEntries ho g ?_;have n:J.size=c.length:=by rw[<-x.length,CE]
 refine A7 (SB.room (YK _ ha) (more:=J.size) (by rw[n];show 0+_<=40;omega) λh1 Y al t1 v S1 a1=>?_);have C:∀{r:Heap},Heap.SameBut a s.heap r->r.get? d=some o:=λk=>(k.2 d<|Ne.symm ab).trans ho;refine A7<|wpAny_dictEntries (C v) g ?_;refine A7 ?_;rw[Std.Legacy.Range.forIn_eq_forIn_range'];refine YJ _ (λl _=>FI s a (Bq w) c l) _ (λi am b s' I=>?_) (λb s' I=>?_) _ _ _ ⟨0,h1,Y,al,t1,?_,?_,rfl,v,?_,?_⟩;obtain⟨j,r,y,Z,t,K,hr,rfl,k,S,hp⟩:=I;rw[CK] at K hr S;rw[List.range'_succ] at hr;injection hr with hi B;subst hi;have X:i<c.length:=Nat.lt_of_lt_of_eq (Nat.lt_add_of_pos_right<|Nat.succ_pos _) K;obtain⟨e,he⟩:∃e,J[i]?=some e:=⟨_,Array.getElem?_eq_getElem<|Nat.lt_of_lt_of_eq X n.symm⟩;refine A7<|wpAny_dictEntries (C k) g ?_;rw[he];dsimp only;obtain⟨z,G,T⟩:=mh x i e (by rw[Array.getElem?_toList];exact he);obtain⟨ar,a3⟩:=Oj T;have O:=hk z<|List.mem_of_getElem? G;have a4:e.hash=z.1:=by obtain⟨k',h1,h2⟩:=H e<|Array.mem_of_getElem? he;have:k'=z.1:=(intKind f w).inj _ _ _ h1 T;rw[h2,this];exact RK O
 rw[a3,a4];refine A7<|wpAny_holding<|S.add O λb h2 ad af t2 u S2 L=>?_;refine A7<|wpAny_dictEpoch (C<|k.trans u) g ?_;rw[show(ep != ep)=false from bne_self_eq_false _];simp only [Bool.false_eq_true,↓reduceIte];refine AR ⟨i+1,h2,ad,af,t2,(Nat.succ_add_eq_add_succ i _).trans K,B,rfl,k.trans u,S2,?_⟩;have N:z.1∉Bz y:=λq=>by
  have q':=hp.mem_iff.mp q;rw[List.map_take] at q';obtain⟨m,hm,e1⟩:=List.getElem_of_mem q';rw[List.length_take,A4] at hm;rw[List.getElem_take] at e1;have e2:(c.map (·.1))[i]'(by rw[A4];exact X)=z.1:=by rw[List.getElem_map];have:=(List.getElem?_eq_some_iff.mp G).2;rw[this]
  have:=(List.getElem_inj M).mp<|e1.trans e2.symm;exact absurd (Be hm<|Nat.min_le_left _ _)<|this▸Nat.lt_irrefl _
 have e3:GR (Bz y) z.1=Bz y++[z.1]:=by unfold GR;rw[A1<|by rw[Dp];exact N]
 rw[e3] at L;refine L.trans<|(hp.append_right _).trans<|List.Perm.of_eq ?_;rw[List.take_add_one,G,AF];rfl;obtain⟨j,r,y,Z,t,K,hr,rfl,k,S,hp⟩:=I;refine AR<|h r y Z t k ⟨S.at_,S.ents,S.tab⟩ ?_;rw[List.length_nil,Nat.add_zero] at K;rwa [K,List.take_length] at hp;rw[List.length_range',Std.Legacy.Range.size];simp [n];rw[List.length_range',Std.Legacy.Range.size];rw[List.length_range',Std.Legacy.Range.size];simpa using S1;show(Bz Y).Perm [];exact a1.map _
end
def PS(w:World)(h:Heap)(a:Addr)(c:List Int):Prop:=∃d e t,SB h a (Bq w) d e t/\(Bz d).Perm c/\c.Nodup
section
variable{g:Program}{w:World}{A:Around}{E:Value->Shared->Prop}{s:Shared}{d:Addr}{f:List (Int×Value)}
set_option maxHeartbeats 3200000 in
def mj{Q:Value->Shared->Prop}(hd:(d==sysModules)=false)(K:s.heap.DictOf (intKind g w) d f)(Z:f.length<=20)(hk:∀p∈f,0<=p.1/\p.1<64) (h:∀k y a,(∀b o,s.heap.get? b=some o->k.get? b=some o)->¬Al s.heap a->PS w k a (f.map (·.1))->Q (.ref a) {s with heap:=k,toks:=y}):wpAny (model g w) A (call (.type "set") [.ref d]) Q E s:=by
 have x:(f.map (·.1)).Nodup:=by obtain⟨_,_,_,_,_,_,_,_,q⟩:=K;exact q
 obtain⟨c,tl,T⟩:=F.called_set.mro;have I:=F.called_set.made;have O:=F.called_set.sub;refine wpAny_call<|codeAny_of_tree ?_;show wpAny _ _ (callAny (.type "set") _) _ _ _;refine AR ⟨Code.quiet_builtin _<|by decide +kernel,codeAny_builtin F.entry_type_call ?_⟩;rw[Around.under_plain (weight_type_call_type "set" [.ref d] []) rfl];have h1:=F.called_set.notType;have h2:=F.called_set.canCreate;have a2:=F.typeCall_set_1<|.ref d;repeat (any_goals (first|assumption|wp_step))
 refine codeAny_mono (mf (.ref d) (E:=E) (Q₁:=λv m=>v=.ref s.heap.objs.size/\m={s with heap:=s.heap.push (DI #[] 0 (.fresh 0 0<|Bq w))}) ⟨rfl,rfl⟩) λr m G=>?_;cases r with|error e=>exact G|ok fl=>
  cases fl with
  |ret v=>
   obtain⟨rfl,rfl⟩:=G;have X:(s.heap.push<|DI #[] 0 (.fresh 0 0<|Bq w)).get? s.heap.objs.size=some (DI #[] 0 (.fresh 0 0<|Bq w)):=De _ rfl;have hT:Shared.TypeIs {s with heap:=s.heap.push (DI #[] 0 (.fresh 0 0<|Bq w))} (.ref s.heap.objs.size) "set":=⟨_,X,rfl⟩;have a1:=F.called_set.init.lookup;have a3:=F.called_set.init.bind<|.ref s.heap.objs.size;repeat (any_goals (first|assumption|wp_step))
   refine codeAny_mono (codeAny_call_builtin (R:=PySem.wants (λr l=>r=.none/\∃k y,l={s with heap:=k,toks:=y}/\PS w k s.heap.objs.size (f.map (·.1))/\(∀b o,s.heap.get? b=some o->k.get? b=some o)) E) F.called_set.init.plain F.entry_set_init<|check_set_init_1 hT ?_) λu l i=>?_;have j:∀b o,s.heap.get? b=some o->(s.heap.push<|DI #[] 0 (.fresh 0 0<|Bq w)).get? b=some o:=λb o e=>E1 _ e;have J:(s.heap.push<|DI #[] 0 (.fresh 0 0<|Bq w)).DictOf (intKind g w) d f:=by obtain⟨o,z,B,q,r⟩:=K;exact⟨o,z,B,j _ _ q,r⟩
   have H:s.heap.objs.size≠d:=by obtain⟨o,z,B,q,r⟩:=K;exact(Nat.ne_of_lt<|Heap.lt_size q).symm
   unfold Builtin.«set.__init__» noKeywords;generalize N:Builtin.Frozenset.updateFrom=PI;wp_walk;subst N;refine mi X hd H J Z hk λk z B t C S Y=>?_;show wpAny _ _ (ret Value.none) _ _ _;exact AR ⟨rfl,k,s.toks,rfl,⟨z,B,t,S,Y,x⟩,λb o e=>(C.2 b<|Nat.ne_of_lt<|Heap.lt_size e).trans<|j b o e⟩;cases u with|error e=>exact i|ok n=>
    cases n with
    |ret r=>
     obtain⟨rfl,k,y,rfl,M,L⟩:=i;repeat (any_goals (first|assumption|wp_step))
     exact h _ _ _ L (Eu _) M
    |_=>exact i.elim
  |_=>exact G.elim
end
def YL{l:List Int}{k x:Int}:x∈GR l k↔x∈l\/x=k:=by unfold GR;split;rename_i h;exact⟨.inl,λq=>q.elim id λe=>e▸Dp.mp h⟩;rw[BE,Ao]
def YM{l:List Int}{k:Int}(h:l.Nodup):(GR l k).Nodup:=by unfold GR;split;exact h;rename_i c;exact List.nodup_append.mpr ⟨h,Bi.mpr ⟨Ax,List.nodup_nil⟩,λa f b d e=>c<|Dp.mpr<|by rw[Ao.mp d] at e;exact e▸f⟩
def mn{a:Type}{l:List a}{i:Nat}(h:i<l.length):(l[i]::l.eraseIdx i).Perm l:=by rw[List.eraseIdx_eq_take_drop_succ];refine List.perm_middle.symm.trans<|List.Perm.of_eq ?_;rw[List.getElem_cons_drop,List.take_append_drop]
def mq{f:Type}(next:Nat->Nat)(a:Nat):∀(k:Nat)(left:List f)(c:Array f),left.length=a->(pickOrder.go next a k left c).toList.Perm (c.toList++left):=by induction a with|zero=>intro k left c h;rw[List.length_eq_zero_iff.mp h,BJ];exact List.Perm.refl _|succ a g=>
 intro k left c h;have d:next k%left.length<left.length:=Nat.mod_lt _<|h▸Nat.succ_pos _;have e:pickOrder.go next (a+1) k left c=pickOrder.go next a (k+1) (left.eraseIdx<|next k%left.length) (c.push left[next k%left.length]):=by show(match left[next k%left.length]? with|some x=>pickOrder.go next a (k+1) (left.eraseIdx<|next k%left.length) (c.push x)|none=>c)=_;rw[Cv d]
 rw[e];refine(g (k+1) _ _<|by rw[List.length_eraseIdx,A5 d,h];rfl).trans ?_;rw[Array.toList_push,AD];exact(mn d).append_left c.toList
def YN{c:Type}(next:Nat->Nat)(a:Array c):(pickOrder next a).toList.Perm a.toList:=by have:=mq next a.size 0 a.toList #[] (by rw[CE]);exact this
section
variable{g:Program}{w:World}{A:Around}{E:Value->Shared->Prop}{s:Shared}{a b o:Addr}{p n:List Int}{c d:Array (Int×Value)}{m j:Nat}{t i:SetTable}
def mr{Q:Array (Int×Value)->Shared->Prop}(S:SB s.heap a (Bq w) c m t)(h:∀f,f.toList.Perm c.toList->Q f s):wpAny (model g w) A (setWalk a) Q E s:=by
 unfold setWalk setsByText;refine A7<|wpAny_setState_of S.at_ rfl S.tab.fits ?_;dsimp only;refine A7<|A7<|wpAny_askSetting<|AR ?_;dsimp only;refine wpAny_ite_split (λk=>?_) λk=>?_;exact A7<|wpAny_askSetting<|AR<|h _<|YN _ _;have l:t.led=true:=by rw[S.tab.led];unfold Bq;rw[show w.params.followText "set-order" = false from(Bool.not_eq_true _).mp k];rfl
 refine wpAny_ite_split (λe=>absurd (show(!t.plain&&decide (c.size>1))=true from e)<|by rw[S.tab.plain];simp) λ_=>?_;refine A7 ?_;wp_delta;refine wpAny_ite_split (λe=>absurd e<|by rw[l];simp) λ_=>AR<|AR<|h _<|List.Perm.refl _
def mu{Q:Array (Int×Value)->Shared->Prop}{k:List Addr}{f:Option Addr}(S:SB s.heap a (Bq w) c m t)(h:∀e,e.toList.Perm c.toList->Q e s):wpAny (model g w) A (setWalkUnseen a k f) Q E s:=by unfold setWalkUnseen setsByText;refine A7<|wpAny_setState_of S.at_ rfl S.tab.fits ?_;dsimp only;refine A7<|A7<|wpAny_askSetting<|AR ?_;dsimp only;refine wpAny_ite_split (λ_=>mr S h) λl=>absurd ?_ l;rw[S.tab.led,S.tab.plain];show(w.params.followText "set-order"||(Bq w&&true)||decide (c.size<=1))=true;unfold Bq;cases w.params.followText "set-order"<;>rfl
def YO{t i:SetTable}{r:SetTable.Road}(h:t.road i=r)(e:r≠.oneByOne):t.place.size=0/\True:=by
 unfold SetTable.road at h;split at h;exact absurd h.symm e;rename_i f;refine⟨?_,trivial⟩;have:t.fill=0:=by simpa using f
 exact Nat.eq_zero_of_add_eq_zero_right this
inductive MI(s:Shared)(a:Addr)(led:Bool)(K:Int->Prop)(l:List (Int×Value))(s':Shared):Prop where
 |mk (h':Heap) (es':Array (Int×Value)) (ep':Nat) (t':SetTable):s'={s with heap:=h'}->Heap.SameBut a s.heap h'->SA h' a led l.length es' ep' t'->(Bz es').Nodup->GQ l->(∀x,(x∈Bz es'\/x∈l.map (·.1))↔K x)->MI s a led K l s'
def YQ{L:Sem Unit}{Q:Unit->Shared->Prop}(T:a≠o)(S:SB s.heap a (Bq w) c m t)(f:SB s.heap o (Bq w) d j i)(hn:c.size<=20)(ab:d.size<=20)(nd:(Bz c).Nodup)(a1:(Bz d).Nodup) (am:∀(s':Shared)(Q':Unit->Shared->Prop),s'.heap.get? o=some (DI d j i)->Q' () s'->wpAny (model g w) A L Q' E s') (h:∀h' y K t',Heap.SameBut a s.heap h'->SB h' a (Bq w) y K t'->(Bz y).Nodup->(∀x,x∈Bz y↔x∈Bz c\/x∈Bz d)->Q () {s with heap:=h'}):wpAny (model g w) A (setMerge a o L) Q E s:=by
 unfold setMerge;refine wpAny_ite_split (λe=>absurd (beq_iff_eq.mp e) T) λ_=>?_;refine A7<|wpAny_setState_of f.at_ rfl f.tab.fits ?_;dsimp only;refine wpAny_ite_split (λhe=>?_) λhe=>?_;have:d=#[]:=Array.isEmpty_iff.mp he;refine AR<|h s.heap c m t (Heap.SameBut.refl a s.heap) S nd λx=>?_;rw[this];exact⟨.inl,λq=>q.elim id λq=>absurd q Ax⟩;refine A7 (S.room (by omega) λh1 Y b1 Z v z a3=>?_);have b4:Y.size=c.size:=by rw[<-CE,a3.length_eq,CE]
 have J:(Bz Y).Perm<|Bz c:=a3.map _;have b2:SB h1 o (Bq w) d j i:=⟨(v.2 o<|Ne.symm T).trans f.at_,f.ents,f.tab⟩;refine A7<|wpAny_setState_of z.at_ rfl z.tab.fits ?_;dsimp only;cases hr:Z.road i with
 |slotForSlot=>obtain⟨h0,al⟩:=YO hr (λq=>by cases q);have hz:=z.tab.size;rw[h0] at hz;have C:Bz c=[]:=List.Perm.eq_nil (J.symm.trans<|List.Perm.of_eq<|by unfold Bz;rw[Array.eq_empty_of_size_eq_zero hz.symm];rfl);dsimp only;refine RM z.at_ (AB ab<|by decide) λh2 r hg=>h h2 d _ _ (v.trans r) ⟨hg,f.ents,⟨f.tab.mask,f.tab.size,f.tab.dum,?_,?_,f.tab.rise,f.tab.low,f.tab.fill⟩⟩ a1 λx=>?_;show(Z.plain&&i.plain)=true;rw[z.tab.plain,f.tab.plain];rfl;show(Z.led&&i.led)=Bq w;rw[z.tab.led,f.tab.led,Bool.and_self];rw[C];exact⟨.inr,λq=>q.elim (λq=>absurd q Ax) id⟩|clean=>
  obtain⟨h0,_⟩:=YO hr (λq=>by cases q);have hz:=z.tab.size;rw[h0] at hz;have C:Bz c=[]:=List.Perm.eq_nil (J.symm.trans<|List.Perm.of_eq<|by unfold Bz;rw[Array.eq_empty_of_size_eq_zero hz.symm];rfl);have af:=z.room;have an:∀x∈(d.map (·.1)).toList,SetTable.bits x<64:=λx hx=>by rw[Array.toList_map] at hx;obtain⟨e,he,rfl⟩:=B9.mp hx;obtain⟨k,ad,rfl,hk⟩:=f.ents e he;exact RL hk
  obtain⟨t',order,hl,hp,T',al,_,_⟩:=YA (finger:=Z.finger) (moves:=Z.moves) (led:=Bq w) (hashes:=d.map (·.1)) z.tab.mask (by rw[Array.size_map];omega) an;rw[Array.size_map] at hp T';have B:=YI (es:=d) hp;have O:(order.filterMap (d[·]?)).size=d.size:=by rw[<-CE,B.length_eq,CE]
  dsimp only;rw[z.tab.led,f.tab.led,z.tab.plain,f.tab.plain,Bool.and_self,Bool.and_self,hl];refine A7 ?_;wp_delta;dsimp only;rw[show((order.filterMap (d[·]?)).size != d.size)=false from by rw[O];exact bne_self_eq_false _];simp only [Bool.false_eq_true,↓reduceIte];refine AR (RM z.at_ (by rw[O];exact AB ab<|by decide) λh2 r hg=>h h2 _ _ _ (v.trans r) ⟨hg,f.ents.perm B,by rw[O];exact T'⟩ ((B.map _).nodup_iff.mpr a1) λx=>?_);rw[C];exact⟨λq=>.inr<|(B.map _).mem_iff.mp q,λq=>q.elim (λq=>absurd q Ax) (B.map _).mem_iff.mpr⟩
 |oneByOne=>dsimp only;refine A7<|mu b2 λxs N=>?_;refine A7 ?_;refine mZ _ (λl _=>MI s a (Bq w) (λx=>x∈Bz c\/x∈Bz d) l) _ (λe b3 u s' I=>?_) (λu s' I=>?_) _ _ ⟨h1,Y,b1,Z,rfl,v,?_,J.nodup_iff.mpr nd,f.ents.perm N,λx=>?_⟩;obtain⟨h',y,K,t',rfl,H,S',M,X,G⟩:=I;obtain⟨k,ad,rfl,hk⟩:=X e AT;dsimp only;refine A7<|wpAny_holding<|S'.add hk λb' h2 ap ar t2 r S2 a2=>?_;have a4:h2.get? o=some (DI d j i):=((H.trans r).2 o<|Ne.symm T).trans f.at_;refine A7<|am _ _ a4 ?_;refine A7<|wpAny_setState_of a4 rfl f.tab.fits ?_;dsimp only;refine wpAny_ite_split (λq=>absurd q<|by rw[bne_self_eq_false];exact Cb) λ_=>?_;refine AR ⟨h2,ap,ar,t2,rfl,H.trans r,S2,a2.nodup_iff.mpr<|YM M,λe he=>X e<|Ah _ he,λx=>?_⟩;rw[<-G x,a2.mem_iff,YL,List.map_cons,An,or_assoc];obtain⟨h',y,K,t',rfl,H,S',M,X,G⟩:=I;exact AR (h h' y K t' H ⟨S'.at_,S'.ents,S'.tab⟩ M λx=>by rw[<-G x];exact⟨.inl,λq=>q.elim id λq=>absurd q Ax⟩);rw[N.length_eq,CE];exact z;rw[J.mem_iff,(N.map (·.1)).mem_iff];exact Iff.rfl
end
def mw:entryFor table "set.__or__" = some Builtin.«frozenset.__or__»:=entryFor_alias (id':="frozenset.__or__") (by kernel_rfl) rfl (by decide +kernel)<|by kernel_rfl
section
variable{g:Program}{w:World}{A:Around}{E:Value->Shared->Prop}{s:Shared}{a b:Addr}{d f:List Int}
theorem union_fold:∀(l c:List Int),c.Nodup->(l.foldl (λl x=>if l.contains x then l else l++[x]) c).Nodup/\∀x,x∈l.foldl (λl x=>if l.contains x then l else l++[x]) c↔x∈c\/x∈l|[],c,h=>⟨h,λx=>⟨.inl,λq=>q.elim id λq=>absurd q Ax⟩⟩|y::r,c,h=>by obtain⟨i,e⟩:=union_fold r (GR c y)<|YM h;refine⟨i,λx=>?_⟩;rw[List.foldl_cons];refine(e x).trans ?_;rw[YL,An,or_assoc]
def YR(d f:List Int):(IC d f).Nodup:=(union_fold (d++f) [] List.nodup_nil).1
def mx{d f:List Int}{x:Int}:x∈IC d f↔x∈d\/x∈f:=by refine((union_fold (d++f) [] List.nodup_nil).2 x).trans ?_;rw[BE];exact⟨λq=>q.elim (λq=>absurd q Ax) id,.inr⟩
def my{id:String}{r:Addr}{j k:Array (Int×Value)}{I y:Nat}{t u:SetTable}{Q:Unit->Shared->Prop}(n:r≠b)(S:SB s.heap r (Bq w) j I t)(i:SB s.heap b (Bq w) k y u)(G:j.size<=20)(m:k.size<=20)(z:(Bz j).Nodup)(l:(Bz k).Nodup) (h:∀o c p v,Heap.SameBut r s.heap o->SB o r (Bq w) c p v->(Bz c).Nodup->(∀x,x∈Bz c↔x∈Bz j\/x∈Bz k)->Q () {s with heap:=o}):wpAny (model g w) A (Builtin.Frozenset.updateFrom id r<|.ref b) Q E s:=by have H:s.TypeIs (.ref b) "set":=⟨_,i.at_,rfl⟩;have e:=sub_set_self;unfold Builtin.Frozenset.updateFrom Builtin.Frozenset.isAnySet;refine A7<|A7<|wpAny_isInstance H e ?_;dsimp only [toBool];refine AR ?_;rw[A5 rfl];refine A7<|AR ?_;unfold Builtin.Frozenset.merge;refine A7<|wpAny_setEpoch_of i.at_ rfl i.tab.fits ?_;refine YQ n S i G m z l (λJ K C B=>?_) h;unfold Builtin.Frozenset.unchanged;refine A7<|wpAny_setEpoch_of C rfl i.tab.fits ?_;refine wpAny_ite_split (λq=>absurd q<|by rw[bne_self_eq_false];exact Cb) λ_=>AR B
def union_ok{Q:Value->Shared->Prop}(M:a≠b)(ha:PS w s.heap a d)(hb:PS w s.heap b f)(h1:d.length<=20)(h2:f.length<=20) (h:∀O tk c,(∀b o,s.heap.get? b=some o->O.get? b=some o)->¬Al s.heap c->PS w O c (IC d f)->Q (.ref c) {s with heap:=O,toks:=tk}):wpAny (model g w) A (binaryOp .BitOr (.ref a)<|.ref b) Q E s:=by
 obtain⟨ea,pa,ta,k,l,p⟩:=ha;obtain⟨S,X,tb,j,n,B⟩:=hb;have z:s.TypeIs (.ref a) "set":=⟨_,k.at_,rfl⟩;have N:s.TypeIs (.ref b) "set":=⟨_,j.at_,rfl⟩;refine wpAny_binaryOp_same (T:="set") (id:="set.__or__") z N F.fills_set_or F.slot_set_or<|wpAny_call_entry F.slot_set_or z mw ?_<|F.args_set_or_2 _ _;have Z:=sub_set_self;have a2:s.heap.get? a=some {cls:=.type "set",dict:=none,data:=.set ea pa ta,slots:=#[]}:=k.at_;have a1:s.heap.get? b=some {cls:=.type "set",dict:=none,data:=.set S X tb,slots:=#[]}:=j.at_;unfold Builtin.«frozenset.__or__»;wp_walk;refine wpAny_askSetting<|AR ?_;dsimp only;simp only [newObj,↓reduceIte];refine A7<|wpAny_alloc<|AR ?_;refine A7<|AR ?_;have i:∀x o,s.heap.get? x=some o->(s.heap.push<|DI #[] 0 (.fresh 0 0<|Bq w)).get? x=some o:=λx o e=>E1 _ e;have hS:(s.heap.push<|DI #[] 0 (.fresh 0 0<|Bq w)).get? s.heap.objs.size=some (DI #[] 0 (.fresh 0 0<|Bq w)):=De _ rfl;have H:s.heap.objs.size≠a:=(Nat.ne_of_lt<|Heap.lt_size k.at_).symm;have v:s.heap.objs.size≠b:=(Nat.ne_of_lt<|Heap.lt_size j.at_).symm;have K:ea.size<=20:=by have:=l.length_eq;unfold Bz at this;rw[A4,CE] at this;omega
 have J:S.size<=20:=by have:=n.length_eq;unfold Bz at this;rw[A4,CE] at this;omega
 refine A7<|YQ (s:={s with heap:=s.heap.push (DI #[] 0 (.fresh 0 0<|Bq w))}) H (YK (Bq w) hS) ⟨i _ _ k.at_,k.ents,k.tab⟩ (Bm _) K List.nodup_nil (l.nodup_iff.mpr p) (λs' Q' _ hq=>AR hq) λh3 e3 p3 t3 m S3 r y=>?_;refine AR ?_;have L:e3.size<=20:=by
  have:(Bz e3).Perm d:=(List.perm_ext_iff_of_nodup r p).mpr λx=>by rw[y x,<-l.mem_iff];exact⟨λq=>q.elim (λq=>absurd q Ax) id,.inr⟩
  have:=this.length_eq;unfold Bz at this;rw[A4,CE] at this;omega
 have G:(Value.ref b != Value.ref a)=true:=by rw[bne_iff_ne];intro e;exact M (Value.ref.inj e).symm
 simp only [Bool.false_eq_true,↓reduceIte,G];have u:h3.get? b=some (DI S X tb):=(m.2 b<|Ne.symm v).trans<|i _ _ j.at_;refine A7<|AR ?_;refine A7<|wpAny_holding<|my (s:={s with heap:=h3}) v S3 ⟨u,j.ents,j.tab⟩ L J r (n.nodup_iff.mpr B) λh4 e4 p4 t4 t S4 C I=>?_;refine AR (AR ⟨_,rfl,(by intro q;cases q),?_⟩);refine h h4 s.toks s.heap.objs.size (λx o e=>?_) (Eu _) ⟨e4,p4,t4,S4,(List.perm_ext_iff_of_nodup C<|YR d f).mpr λx=>?_,YR d f⟩;have Y:x≠s.heap.objs.size:=Nat.ne_of_lt<|Heap.lt_size e;exact(t.2 x Y).trans<|(m.2 x Y).trans<|i _ _ e;rw[I x,y x,mx,<-l.mem_iff,<-n.mem_iff];exact⟨λq=>q.elim (λq=>.inl<|q.elim (λq=>absurd q Ax) id) .inr,λq=>q.elim (λq=>.inl<|.inr q) .inr⟩
end
def KB:Slot "set_iterator" "__next__" "set_iterator.__next__":=.of (owner:="set_iterator") (n:="__next__") (by rw[typeLookup_type,builtinLookup_eq_fast];kernel_rfl) (by decide +kernel) (by decide +kernel) (by decide +kernel) (by first|exact .inl (by decide +kernel)|exact .inr<|by decide +kernel)<|by rw[isSubtype_type];kernel_rfl
def YS:entryFor table "set_iterator.__next__" = some Builtin.«set_iterator.__next__»:=entryFor_of_tree<|by kernel_rfl
def YT:Manifest.owners.lookup (String.ofList ['r','o','t','a','r','e','t','i','_','t','e','s'].reverse)=some Manifest.sig_set_iterator:=by kernel_rfl
def YU(a:Value):argsOk "set_iterator.__next__" ⟨[a],[]⟩:=by unfold argsOk;rw[signature?_of (id:="set_iterator.__next__") (n:=['_','_','t','x','e','n','_','_']) (o:=['r','o','t','a','r','e','t','i','_','t','e','s']) (by kernel_rfl) YT];kernel_rfl
def YV:Slot "set_iterator" "__iter__" "set_iterator.__iter__":=.of (owner:="set_iterator") (n:="__iter__") (by rw[typeLookup_type,builtinLookup_eq_fast];kernel_rfl) (by decide +kernel) (by decide +kernel) (by decide +kernel) (by first|exact .inl (by decide +kernel)|exact .inr<|by decide +kernel)<|by rw[isSubtype_type];kernel_rfl
def mz:entryFor table "set_iterator.__iter__" = some Builtin.«dict_keyiterator.__iter__»:=entryFor_alias (id':="dict_keyiterator.__iter__") (by kernel_rfl) rfl (by decide +kernel)<|by kernel_rfl
def n6(a:Value):argsOk "set_iterator.__iter__" ⟨[a],[]⟩:=by unfold argsOk;rw[signature?_of (id:="set_iterator.__iter__") (n:=['_','_','r','e','t','i','_','_']) (o:=['r','o','t','a','r','e','t','i','_','t','e','s']) (by kernel_rfl) YT];kernel_rfl
def n7:entryFor table "set.__iter__" = some Builtin.«frozenset.__iter__»:=entryFor_alias (id':="frozenset.__iter__") (by kernel_rfl) rfl (by decide +kernel)<|by kernel_rfl
noncomputable def I4(c i:Nat)(a:Addr)(n d:Nat):Obj:={cls:=.type "set_iterator",dict:=none,data:=.fields #[.int c 0,.int i 0,.ref a,.int n 0,.int d 0],slots:=#[]}
def n8{a:Array Nat}(h:a.toList.Pairwise (· < ·)):SetTable.below a 0=0:=by have hs:=RH 0<|O5 h;by_cases q:SetTable.below a 0=0;exact q;exact absurd (hs.2.1 0<|Nat.pos_of_ne_zero q)<|Nat.not_lt_zero _
def n9{c:Array Nat}(h:c.toList.Pairwise (· < ·)){i j:Nat}(g:c[i]?=some j):SetTable.below c (j+1)=i+1:=by
 obtain⟨d,e⟩:=Array.getElem?_eq_some_iff.mp g;have f:c.getD i 0=j:=by simp [Array.getD,d,e]
 have hs:=RH (j+1)<|O5 h;have l:¬SetTable.below c (j+1)<=i:=λq=>absurd (f▸hs.2.2 i q d)<|Nat.not_succ_le_self j;have k:¬i+1<SetTable.below c (j+1):=λq=>by have a:=hs.2.1 (i+1) q;have b:=O5 h i (i+1) (CY _)<|Be q hs.1;exact absurd (Be b<|CF a)<|by rw[f];exact Nat.lt_irrefl _
 exact Nat.le_antisymm (Nat.not_lt.mp k)<|Nat.not_le.mp l
section
variable{d:Program}{w:World}{A:Around}{E:Value->Shared->Prop}{s:Shared}{a I:Addr}{es:Array (Int×Value)}{ep:Nat}{t:SetTable}{i c:Nat}
noncomputable def EY(w:World)(a:Addr)(ep:Nat)(es:Array<|Int×Value):Array<|Int×Value:=if w.params.followText "set-order" = true then pickOrder (w.params.setOrder a ep) es else es
def RN:(EY w a ep es).toList.Perm es.toList:=by unfold EY;split;exact YN _ _;exact List.Perm.refl _
def KD(w:World)(t:SetTable)(c i:Nat):Prop:=w.params.followText "set-order" = false->SetTable.below t.place c=i
def YW{Q:Option (Value×Nat)->Shared->Prop}(S:SB s.heap a (Bq w) es ep t)(g:KD w t c i)(h:∀r,(r.map (·.1))=((EY w a ep es)[i]?).map (·.2)->(∀x n,r=some (x,n)->KD w t n (i+1))->Q r s):wpAny (model d w) A (setNext a c i ep) Q E s:=by
 unfold setNext setsByText;refine A7<|wpAny_setState_of S.at_ rfl S.tab.fits ?_;dsimp only;refine A7<|A7<|wpAny_askSetting<|AR ?_;dsimp only;refine wpAny_ite_split (λf=>?_) λf=>?_;have f:w.params.followText "set-order" = true:=f;refine wpAny_ite_split (λq=>absurd q<|by rw[bne_self_eq_false];exact Cb) λ_=>?_;refine A7 ?_;unfold setWalk setsByText;refine A7<|wpAny_setState_of S.at_ rfl S.tab.fits ?_;dsimp only;refine A7<|A7<|wpAny_askSetting<|AR ?_;dsimp only;refine wpAny_ite_split (λ_=>?_) λq=>absurd f q;refine A7<|wpAny_askSetting<|AR<|AR<|h _ ?_ λx n _ q=>absurd (q.symm.trans f) Cb;unfold EY;rw[A5 f,Option.map_map];rfl;have f:w.params.followText "set-order" = false:=(Bool.not_eq_true _).mp f;have m:t.led=true:=by rw[S.tab.led];unfold Bq;rw[f];rfl
 refine wpAny_ite_split (λk=>absurd (show(!t.plain&&decide (es.size>1))=true from k)<|by rw[S.tab.plain];simp) λ_=>?_;refine A7 ?_;wp_delta;refine wpAny_ite_split (λk=>absurd k<|by rw[m];simp) λ_=>AR ?_;rw[g f];have l:EY w a ep es=es:=by unfold EY;rw[A1<|by rw[f];exact Cb]
 refine AR<|h _ ?_ λx n e _=>?_;rw[l];cases he:es[i]? with|none=>rfl|some e=>
  have:i<t.place.size:=by rw[S.tab.size];exact(Array.getElem?_eq_some_iff.mp he).1
  rw[Array.getElem?_eq_getElem this];rfl
 cases he:es[i]? with|none=>rw[he] at e;exact Ae e|some o=>rw[he] at e;cases hp:t.place[i]? with|none=>rw[hp] at e;exact Ae e|some j=>rw[hp] at e;obtain⟨rfl,rfl⟩:=Prod.mk.inj<|Option.some.inj e;exact n9 S.tab.rise hp
end
open PySem.W
section
variable{prog:Program}{w:World}{A:Around}{E:Value->Shared->Prop}{s:Shared}{a I:Addr}{d:Array (Int×Value)}{f:Nat}{t:SetTable}{i c n:Nat}
def J0(h:s.heap.get? I=some (I4 c i a n f)):s.TypeIs (.ref I) "set_iterator":=⟨_,h,rfl⟩
def nC{Q:Value->Shared->Prop}(h:s.heap.get? I=some (I4 c i a n f))(e:Q (.ref I) s):wpAny (model prog w) A (pyIter<|.ref I) Q E s:=by refine wpAny_pyIter_slot (J0 h) YV<|wpAny_call_entry YV (J0 h) mz ?_<|n6 _;show wpAny _ _ (ret<|.ref I) _ _ s;exact AR ⟨_,rfl,"set_iterator",_,J0 h,KB.lookup,e⟩
def nD{Q:Value->Shared->Prop}(S:SB s.heap a (Bq w) d f t)(g:Q (.ref s.heap.objs.size) {s with heap:=s.heap.push (I4 0 0 a d.size f)}):wpAny (model prog w) A (pyIter<|.ref a) Q E s:=by have e:s.TypeIs (.ref a) "set":=⟨_,S.at_,rfl⟩;refine wpAny_pyIter_slot e F.slot_set_iter<|wpAny_call_entry F.slot_set_iter e n7 ?_<|F.args_set_iter_1 _;unfold Builtin.«frozenset.__iter__» Builtin.Frozenset.slot0 Builtin.Frozenset.sizeOf setDrawn setsByText;refine A7<|A7<|AR<|AR ?_;dsimp only;refine A7<|A7<|wpAny_setEntries_of S.at_ rfl S.tab.fits<|AR ?_;refine A7<|A7 ?_;refine wpAny_setState_of S.at_ rfl S.tab.fits ?_;dsimp only;refine A7<|A7<|wpAny_askSetting<|AR ?_;refine AR ?_;refine wpAny_ite_split (λh=>absurd (show(!w.params.followText "set-order"&&(!t.plain&&decide (d.size>1)))=true from h)<|by rw[S.tab.plain];simp) λ_=>?_;refine A7<|AR ?_;refine A7<|wpAny_setEpoch_of S.at_ rfl S.tab.fits ?_;unfold newFields;refine A7<|wpAny_newObj_type<|AR ⟨_,rfl,"set_iterator",_,⟨_,De _ rfl,rfl⟩,KB.lookup,?_⟩;exact g
def nE{Q:Option Value->Shared->Prop}{x:Value}(h:s.heap.get? I=some (I4 c i a d.size f))(S:SB s.heap a (Bq w) d f t)(j:KD w t c i)(m:((EY w a f d)[i]?).map (·.2)=some x) (o:∀l n,Heap.SameBut I s.heap l->l.get? I=some (I4 n (i+1) a d.size f)->KD w t n (i+1)->Q (some x) {s with heap:=l}):wpAny (model prog w) A (pyNext<|.ref I) Q E s:=by unfold pyNext;refine A7<|wpAny_attempt<|wpAny_callSpecial?_slot (name:=Str.ofString "__next__") (J0 h) KB<|wpAny_call_entry KB (J0 h) YS ?_<|YU _;unfold Builtin.«set_iterator.__next__»;refine A7<|AR ?_;refine A7<|wpAny_fieldsOf h rfl ?_;dsimp only;refine A7<|wpAny_setEntries_of S.at_ rfl S.tab.fits ?_;refine wpAny_ite_split (λq=>absurd q<|by simp) λ_=>?_;simp only [Int.toNat_natCast];refine A7<|YW S j λr k u=>?_;rw[m] at k;cases r with|none=>exact Ae k|some p=>obtain⟨y,n⟩:=p;obtain rfl:=Option.some.inj k;dsimp only;refine A7 (wpAny_setField_rec h (by simp) λz C g=>?_);refine A7 (wpAny_setField_rec (s:={s with heap:=z}) C (by simp) λv B e=>?_);refine AR ⟨_,rfl,AR<|o v n (g.trans e) ?_<|u _ _ rfl⟩;exact B
def nF{Q:Option Value->Shared->Prop}(o:A.handled=none)(h:s.heap.get? I=some (I4 c i a d.size f))(S:SB s.heap a (Bq w) d f t)(e:KD w t c i)(k:((EY w a f d)[i]?).map (·.2)=none) (l:∀j,Heap.ExtBut I s.heap j->Q none {s with heap:=j}):wpAny (model prog w) A (pyNext<|.ref I) Q E s:=by unfold pyNext;refine A7<|wpAny_attempt<|wpAny_callSpecial?_slot (name:=Str.ofString "__next__") (J0 h) KB<|wpAny_call_entry KB (J0 h) YS ?_<|YU _;unfold Builtin.«set_iterator.__next__»;refine A7<|AR ?_;refine A7<|wpAny_fieldsOf h rfl ?_;dsimp only;refine A7<|wpAny_setEntries_of S.at_ rfl S.tab.fits ?_;refine wpAny_ite_split (λq=>absurd q<|by simp) λ_=>?_;simp only [Int.toNat_natCast];refine A7<|YW S e λr g u=>?_;rw[k] at g;cases r with|some p=>exact FO g|none=>dsimp only;refine A7 (wpAny_setField h rfl (by simp) ?_);show wpAny _ _ (newExc (.type "StopIteration") [] >>= _) _ _ _;refine A7 ?_;simp only [newExc,newTuple];refine A7 (wpAny_newObj_type ?_<|by size_fits);refine A7 (m:=firstArgMember _ _) (wpAny_of_eq (a:=Value.none) (by first|rfl|(simp only [firstArgMember];rfl)) ?_);refine wpAny_newObj_type ?_ (by size_fits);unfold raiseNew;refine A7<|wpAny_handled ?_;rw[show A.in1.handled=none from o];refine A7<|AR<|wpAny_throw ?_;refine A7<|wpAny_isInstance (T:="StopIteration") (b:=true) ⟨_,De _ rfl,rfl⟩ isSubtype_stop ?_;exact AR<|l _<|((Heap.SameBut.update ..).extBut.push _).push _
def PW(w:World)(a:Addr)(f:Nat)(d:Array<|Int×Value)(i:Nat)(v:Value):Prop:=((EY w a f d)[i]?).map (·.2)=some v
def YX(w:World)(I a:Addr)(d:Array<|Int×Value)(f:Nat)(t:SetTable)(i:Nat)(h:Heap):Prop:=∃c,h.get? I=some (I4 c i a d.size f)/\KD w t c i/\SB h a (Bq w) d f t
def RO:(EY w a f d).size=d.size:=by have:=(RN (w:=w) (a:=a) (ep:=f) (es:=d)).length_eq;rwa [CE,CE] at this
def nG(C:A.handled=none)(r:a≠I):Walks prog w A I [I,a] [I] d.size (PW w a f d) (YX w I a d f t) where
 sub:=λb k=>by simp at k;simp [k]
 frame:=λ_ _ _ h z=>h.imp λ_ q=>⟨z I (by simp) _ q.1,q.2.1,⟨z a (by simp) _ q.2.2.at_,q.2.2.ents,q.2.2.tab⟩⟩
 item:=λi s Q E B h p=>by
  obtain⟨c,g,j,S⟩:=h
  have u:i<(EY w a f d).size:=by rw[RO];exact B
  have y:((EY w a f d)[i]?).map (·.2)=some (EY w a f d)[i].2:=by rw[Array.getElem?_eq_getElem u];rfl
  refine nE g S j y λx n m G l=>?_
  exact p _ x s.toks y ⟨n,G,l,⟨(m.2 a r).trans S.at_,S.ents,S.tab⟩⟩ λb o k e=>(m.2 b λq=>k<|by simp [q]).trans e
 done:=λs Q E h p=>by
  obtain⟨c,g,j,S⟩:=h
  refine nF C g S j (by rw[Array.getElem?_eq_none<|by rw[RO];exact Au _];rfl) λx v=>p x s.toks λb o k e=>v b o (λq=>k<|by simp [q]) e
 self:=λ_ _ _ _ h p=>h.elim λ_ q=>nC q.1 p
def nH{Q:Bool->Shared->Prop}(j:s.TypeIs (.ref a) "set")(h:Q false s):wpAny (model prog w) A (Builtin.List.listLengthHint<|.ref a) Q E s:=by unfold Builtin.List.listLengthHint;refine A7<|wpAny_specialOf j PySem.F.slot_set_len.lookup ?_;generalize g:("set.__len__" : String)=id0;wp_delta;rw[show splitId id0=some ("set","__len__") from by subst g;decide +kernel];subst g;refine A7 (wpAny_isInstance (T:="set") (b:=true) j (by rw[isSubtype_type];kernel_rfl) ?_);refine wpAny_ite_split (λe=>absurd e<|by decide) λ_=>?_;refine wpAny_ite_split (λ_=>?_) (λe=>absurd (by decide +kernel) e);refine A7<|wpAny_typeOf j ?_;exact AR h
def src(S:SB s.heap a (Bq w) d f t):KdlSrc prog w "set" a a d.size (PW w a f d) (λh=>SB h a (Bq w) d f t) where
 type:=λ_ q=>⟨_,q.at_,rfl⟩
 there:=λ_ q=>⟨Heap.lt_size q.at_,Heap.lt_size q.at_⟩
 keep:=λ_ _ q j=>⟨j a (.inl rfl) _ q.at_,q.ents,q.tab⟩
 notList:=by decide
 notTuple:=by decide
 hint:=λ_ _ _ _ q e=>nH ⟨_,q.at_,rfl⟩ e
 iter:=λ_ g k q=>⟨I4 0 0 a d.size f,YX w g.heap.objs.size a d f t,(λ_ _ e=>nD q e),nG k<|Nat.ne_of_lt<|Heap.lt_size q.at_,⟨0,De _ rfl,λ_=>n8 q.tab.rise,⟨E1 _ q.at_,q.ents,q.tab⟩⟩⟩
def nI{Q:List Value->Shared->Prop}{H:List Int}(Y:A.handled=none)(O:PS w s.heap a H) (h:∀q u m G,(∀b o,s.heap.get? b=some o->q.get? b=some o)->IntsAre m G->G.Perm H->Q m {s with heap:=q,toks:=u}):wpAny (model prog w) A (collect<|.ref a) Q E s:=by
 obtain⟨d,f,t,S,X,nd⟩:=O;have K:=src (prog:=prog) S;have p:=Heap.lt_size S.at_;have z:d.size<=sizeLine:=by have:=S.tab.fill;have:=O7 S.tab;exact AB (AB S.tab.fill<|O7 S.tab)<|by decide
 refine Mine.collect_via (λZ=>kdl_extend (A:=A) (s:={s with heap:=s.heap.push (seqObj "list" #[] 0)}) K Y (K.keep _ _ S λb _ o e=>E1 _ e) _ (Nat.ne_of_gt p) (Nat.ne_of_gt p) _ 0 (De _ rfl) Z z) λq u m B T N=>?_;have y:m=(EY w a f d).toList.map (·.2):=by refine List.ext_getElem? λj=>?_;rw[CP];cases hj:m[j]? with|none=>rw[List.getElem?_eq_none<|by rw[CE,RO,<-T];exact List.getElem?_eq_none_iff.mp hj];rfl|some v=>exact((A3 (Option.map _) Array.getElem?_toList).trans<|N j v hj).symm
 have C:GQ (EY w a f d).toList:=S.ents.perm RN;have g:∀l:List<|Int×Value,GQ l->IntsAre (l.map (·.2)) (l.map (·.1)):=by intro l;induction l with|nil=>exact λ_=>.nil|cons e l L=>intro J;obtain⟨k,r,rfl,_⟩:=J e AT;exact .cons k r<|L λx M=>J x<|Ah _ M
 rw[y];exact h q u _ _ B (g _ C)<|(List.Perm.map (λx:Int×Value=>x.1) RN).trans X
end
def setG(a:Program)(w:World):SetG a w (PS w) where
 keep:=λq c=>by
  obtain⟨e,f,t,S,r⟩:=q
  exact⟨e,f,t,⟨c _ S.at_,S.ents,S.tab⟩,r⟩
 al:=λq=>by
  obtain⟨e,f,t,S,r⟩:=q
  exact⟨_,S.at_⟩
 make:=λ_ l j i c h=>mj l j i c h
 union:=λ_ d n m p o _ _ h=>union_ok d n m p o h
 coll:=λk g h=>nI k g h
end Mine.S
namespace Mine
open PySem PyProof.Rows PySem.Calls PySem.W Mine.U
noncomputable def YY(a:List Int):Iota:=⟨a.getD 0 0⟩
def nJ{I:Iota}{T:Sm}{c:List Int}{a:List Value}(h:IntsAre a c):EB I T (c.map .int) a:=by induction h with|nil=>rfl|cons n t _ d=>exact⟨_,_,rfl,⟨_,rfl⟩,d⟩
def nN{a:List Int}{c:List Value}{T:Sm}(h:IntsAre c a):EB (YY a) T (O4 a) c:=by cases h with|nil=>rfl|cons n t h=>exact⟨_,_,rfl,⟨_,A3 (λi=>Value.int i _) (Int.add_zero n).symm⟩,nJ h⟩
def nO{R:WRecords}{x:WData}(h:WShape.has R x .int=true):∃i,x=.int i:=by cases x with|int i=>exact⟨i,rfl⟩|_=>exact fK h
def nP{R:WRecords}{xs:List WData}:WShape.hasItems R xs .int=true->∃a:List Int,xs=a.map WData.int:=by induction xs with|nil=>exact λ_=>⟨[],rfl⟩|cons x xs c=>exact λh=>Aq (show(WShape.has R x .int&&WShape.hasItems R xs .int)=true from h) λe d=>by obtain⟨i,rfl⟩:=nO e;obtain⟨a,rfl⟩:=c d;exact⟨i::a,rfl⟩
def nQ{R:WRecords}{x:WData}(h:WShape.has R x (.list .int)=true):∃a:List Int,x=.list (a.map WData.int):=by cases x with|list xs=>obtain⟨a,rfl⟩:=nP (R:=R) (xs:=xs)<|(Bool.or_false _).symm.trans<|show(WShape.hasItems R xs .int||false)=true from h;exact⟨a,rfl⟩|_=>exact fK h
def nR{R:WRecords}{a:List WData}(h:WShape.hasAll R a [.list .int]=true):∃c:List Int,a=[.list<|c.map WData.int]:=by cases a with|nil=>exact fK h|cons x d=>refine Aq (show(WShape.has R x (.list .int)&&WShape.hasAll R d [])=true from h) λf e=>?_;obtain⟨c,rfl⟩:=nQ f;cases d with|nil=>exact⟨c,rfl⟩|cons _ _=>exact fK e
def nT{P:Params}{h:Heap}{v:Value}{i:Int}(w:Well P h v<|.int i):∃t,v=.int i t:=by cases w;exact⟨_,rfl⟩
def nU{P:Params}{h:Heap}{c:List Int}:∀{a:List Value},WellAll P h a (c.map WData.int)->IntsAre a c:=by induction c with|nil=>intro a w;cases w;exact .nil|cons i c g=>intro a w;obtain⟨v,f,rfl,e,d⟩:=wellAll_cons_inv w;obtain⟨t,rfl⟩:=nT e;exact .cons _ _<|g d
def nV{P:Params}{h:Heap}{v:Value}{a:List WData}(w:Well P h v<|.list a):∃l c,v=.ref l/\h.get? l=some {cls:=.type "list",data:=.seq (List.toArray c)}/\WellAll P h c a:=by cases w with|list e d=>exact⟨_,_,rfl,e,d⟩
def nW{a:List Int}(h:WTm.holds [] (.and (.not<|.lt (.lit<|.int 63)<|.len<|.arg 0)<|.lit<|.bool true) {args:=[WData.list<|a.map WData.int]}=true):a.length<=63:=by
 have e:∀b:Bool,Num.less? (WData.int 63) (WData.int ((a.map WData.int).length:Int))=some b->b=false:=λb c=>by cases b with|false=>rfl|true=>have h:(match (match (match (Num.less? (WData.int 63)<|WData.int ((a.map WData.int).length:Int)).map WData.bool with|some (.bool b)=>some (WData.bool !b)|_=>none) with|some (.bool false)=>some (WData.bool false)|some (.bool true)=>some (WData.bool true)|_=>none) with|some (.bool true)=>true|_=>false)=true:=h;rw[c] at h;exact fK h
 have:=e _ rfl;have:=of_decide_eq_false this;rw[A4] at this;exact Int.ofNat_le.mp<|Int.not_lt.mp this
def walk(hS:∀w,∃P,SetG pw w P):WalkO qv loose (λ_ _=>True) JV Challenge.rw_sx_r033_2.row.toRowW U4 [] λf vs=>PySem.call f vs:=by
 intro w E c G mb Gr Y a o pm cd a4 dV kV ho L A a3 j k O B as p I a2 i H;obtain⟨x,t⟩:=CN.mp p;obtain⟨s,rfl⟩:=nR (R:=[]) x;obtain⟨v,vn,rfl,wl,Z⟩:=wellAll_cons_inv i;cases Z;obtain⟨l,vs,rfl,J,X⟩:=nV wl;have hi:=nU X;have r:s.length<=63:=nW t;obtain⟨P,S⟩:=hS w;obtain⟨C,K,m,a1,Y⟩:=Y;obtain⟨HT,YC⟩:=Y<|YY s;have y:m=G:=(HT.g.eq_nsMap).trans (Gr.T.g.eq_nsMap).symm;obtain⟨M,fo,fd,h1,hf⟩:=HT.fns "law" DL rfl;have z:M=a:=by have N:m "law" = some (.ref M):=h1;have e2:G "law" = some (.ref a):=j;rw[y,e2] at N;cases N;rfl
 subst z;have e:=m0 s 10;refine wpAny_call ?_;refine(snd HT YC S 280).call (T:=⟨c,⟨Al c.heap,[],[]⟩⟩) (vs:=[.d<|.lst<|O4 s]) (σ:=[]) ⟨rfl,by decide,by decide⟩ e hf ⟨λ_ _ e=>e,λ_ e=>e,λ_ e=>e,λ_ _ q=>absurd q Ax,rfl,rfl,List.nodup_nil,λ_ _ e=>nomatch e⟩ (.one ⟨l,vs,rfl,⟨_,J⟩,⟨0,J⟩,by rw[R8];exact AB r<|by decide,nN hi⟩) λu T' Q rc=>?_;have hu:u=.bool true:=rc;subst hu;obtain⟨hh,tk,n⟩:=Q.ext.sh;refine⟨.inl ⟨.bool true,.bool true,[],rfl,λ_=>rfl,.bool true,?_,λ_=>⟨List.nodup_nil,λ_ h=>absurd h Ax⟩⟩,.of_keep λb o e=>Q.ext.keep b o e λq=>absurd q Ax,?_,.of_eq ?_⟩;kernel_rfl;rw[n];rw[n];exact k
end Mine
theorem PySem.Challenge.cw_sx_r033_2_holds : PySem.Challenge.rw_sx_r033_2.Holds :=
 Mine.head (Mine.walk fun w => ⟨_, Mine.S.setG _ w⟩)
