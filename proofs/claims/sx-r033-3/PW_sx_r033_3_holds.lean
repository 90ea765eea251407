import PyProof.Rows.All
import KE.KSortTup
import KE.KSorted
import KE.LcSums
import KE.KItemsList
import KE.KDictList
import PyProof.ListRange
import KE.KTurns
import KE.KForList
import PyProof.WalksPairs
import PyProof.RangeFor
import PyProof.EnumMake
import PyProof.DictWalks
import PyProof.CompFree
import OpenK.KWalk
import KE.KPop
import PyProof.DelItemList
import PyProof.RaisesDict
import PyProof.MeetsDictList
import PyProof.AssignAttr
import PyProof.CompUse
import PyProof.AttrMissHeap
import KE.KDictOf
import PyProof.Rows.Range3
import Open.Line
import PyProof.SetScanFacts
import PyProof.SetKind
import PyProof.Rows.SetFrom
import PyProof.FactsAll.subtypes_5
import PyProof.SetRoads
import PySem.Challenge.RW_sx_r033_3
set_option maxRecDepth 100000
set_option maxHeartbeats 4000000
set_option autoImplicit false
set_option linter.unusedVariables false
set_option linter.unusedSimpArgs false
set_option linter.defProp false
set_option Elab.async false
set_option genInjectivity false
set_option genSizeOf false
namespace Mine
open PySem
def A2:=@congrArg
def A3:=@if_neg
def A4:=@List.length_map
def A5:=@if_pos
def A6:=@PySem.wpAny_bind
def A9:=@Nat.le_trans
def AC:=@List.length_append
def AJ:=@List.append_assoc
def AK:=@List.map_append
def AM:=@PySem.wpAny_pure
def AN:=@Nat.lt_trans
def AZ:=@List.mem_cons_self
def Aa:=@Nat.lt_of_le_of_lt
def Ae:=@decide_eq_true
def Ai:=@List.map_map
def Aj:=@List.mem_cons_of_mem
def Am:=@Nat.le_refl
def Ar:=@List.mem_singleton
def As:=@List.append_nil
def Au:=@List.mem_cons
def B3:=@List.not_mem_nil
def BE:=@List.mem_append_right
def BH:=@Nat.le_of_lt
def BJ:=@Nat.le_add_right
def BK:=@Nat.zero_le
def BQ:=@Nat.le_of_eq
def BU:=@List.mem_map
def BZ:=@List.nodup_cons
def Bb:=@Bool.and_eq_true_iff
def Bm:=@Nat.le_of_lt_succ
def Bo:=@Array.length_toList
def Bp:=@Int.ofNat_lt
def Bv:=@List.mem_append
def Bw:=@List.prefix_refl
def C0:=@List.getElem?_map
def C1:=@Nat.lt_of_lt_of_le
def C2:=@Nat.not_lt
def C9:=@Nat.add_le_add_left
def CA:=@Nat.ne_of_lt
def CB:=@Nat.succ_lt_succ
def CC:=@Nat.succ_pos
def CE:=@List.mem_append_left
def CO:=@List.all_eq_true
def CT:=@Bool.false_ne_true
def CV:=@Nat.ne_of_gt
def Ca:=@List.nodup_nil
def Cb:=@Nat.le_succ
def Cc:=@Nat.lt_succ_self
def Co:=@PySem.Heap.lt_size
def D2:=@PySem.Heap.get?_push_size
def D3:=@List.getElem?_eq_getElem
def D4:=@List.pairwise_cons
def DD:=@List.length_cons
def DE:=@List.mem_singleton_self
def DF:=@Nat.add_le_add
def DG:=@Nat.add_right_comm
def DH:=@Nat.succ_le_succ
def DI:=@of_decide_eq_true
def DJ:=@PySem.wpAny_holding
def DZ:=@PySem.Heap.get?_push_of_some
def Da:=@List.contains_iff_mem
def Db:=@List.forall_mem_cons
def Dc:=@List.map_cons
def Dd:=@Nat.add_assoc
def De:=@Nat.zero_add
def Df:=@PySem.wpAny_ite_split
def Dg:=@PySem.wpAny_mono
def E1:=@Int.not_lt
def E2:=@Nat.lt_succ_of_le
def EO:=@List.map_take
def EP:=@Nat.add_le_add_right
def Eh:=@Nat.le_succ_of_le
def Ei:=@Nat.lt_add_of_pos_right
def F9:=@Int.toNat_natCast
def FB:=@List.filterMap_cons
def FC:=@List.getElem?_eq_some_iff
def FD:=@List.nodup_append
def FF:=@Nat.lt_irrefl
def FY:=@Bool.not_eq_true'
def FZ:=@Int.ofNat_le
def Fa:=@List.mem_of_getElem?
def Fb:=@List.size_toArray
def Fc:=@Nat.add_lt_add_right
def Fd:=@Nat.add_sub_cancel'
def Fe:=@Nat.le_antisymm
def Ff:=@Nat.le_of_succ_le_succ
def G6:=@Int.natCast_nonneg
def G7:=@Nat.le_add_left
def G8:=@PySem.wpAny_standAt
def Gc:=@List.filter_cons
def Gd:=@List.getElem?_concat_length
def Ge:=@Option.isNone_iff_eq_none
def Gf:=@PySem.wpAny_askSetting
def HW:=@List.filter_eq_self
def HX:=@List.getElem?_append_right
def HY:=@List.lookup_cons
def HZ:=@Nat.lt_of_succ_lt_succ
def I0:=@List.mem_of_mem_take
def I1:=@Nat.lt_of_le_of_ne
def I2:=@Nat.succ_add_eq_add_succ
def Iz:=@Bool.or_eq_true_iff
def J0:=@List.concat_eq_append
def J1:=@List.eq_nil_or_concat
def J2:=@List.getLast?_concat
def J3:=@Nat.add_lt_add_left
def J4:=@Option.isSome_iff_exists
def KG:=@List.getElem?_append_left
def LZ:=@Array.getElem?_eq_getElem
def La:=@List.getD_eq_getElem?_getD
set_option genInjectivity true in
inductive D where
 |none |bool (b:Bool) |int (i:Int) |key (k:Int) |str (s:Str) |tup (l:List D) |lst (l:List D)
set_option genInjectivity true in
inductive V where
 |d (x:D) |loc (n:Nat) |tup (l:List V)
inductive R where
 |val (v:V) |fresh (l:List V)
set_option genInjectivity true in
inductive Cell where
 |lst (l:List V) |froz (l:List D) |dct (b:Bool) (l:List (Int×V)) |fdct (b:Bool) (l:List (Int×V)) |inst (l:List (Str×V))
structure St where
 vars:List (Str×V)
 store:List Cell
inductive Fl where
 |next |ret (r:R)
structure Fn where
 params:List Str
 body:List Stmt
 names:List (Str×NameKind)
 hm:Bool
 sh:Bool
 mv:List Str
structure Gl where
 fns:List (Str×Fn)
 meths:List (Str×Fn)
 cls:Str
 init:Fn
 tabs:List (Str×D)
 flds:List Str
structure Ops where
 ev:Fn->Expr->St->Option (R×St)
 tt:Fn->Expr->St->Option (Bool×St)
 ex:Fn->List Stmt->St->Option (Fl×St)
 call:Fn->List V->List Cell->Option (R×List Cell)
noncomputable def Av{α β:Type}(x:Option α)(f:α->β)(b:β):β:=match x with
 |some a=>f a
 |.none=>b
noncomputable def AG{α:Type}(x:Str):List (Str×α)->Option α
 |[]=>.none
 |p::r=>if x=p.1 then some p.2 else AG x r
noncomputable def AS{α:Type}(x:Str)(v:α):List (Str×α)->List (Str×α)
 |[]=>[(x,v)]
 |p::r=>if x=p.1 then(x,v)::r else p::AS x v r
noncomputable def AP{α:Type}(k:Int):List (Int×α)->Option α
 |[]=>.none
 |p::r=>if k=p.1 then some p.2 else AP k r
noncomputable def BL{α:Type}(k:Int)(v:α):List (Int×α)->List (Int×α)
 |[]=>[(k,v)]
 |p::r=>if k=p.1 then(k,v)::r else p::BL k v r
noncomputable def CK{α:Type}(k:Int):List (Int×α)->List (Int×α)
 |[]=>[]
 |p::r=>if k=p.1 then r else p::CK k r
noncomputable def St.set(st:St)(x:Str)(v:V):St:=⟨AS x v st.vars,st.store⟩
noncomputable def St.put(st:St)(n:Nat)(c:Cell):St:=⟨st.vars,st.store.set n c⟩
noncomputable def St.add(st:St)(c:Cell):St:=⟨st.vars,st.store++[c]⟩
noncomputable def St.sto(st:St)(σ:List Cell):St:=⟨st.vars,σ⟩
noncomputable def lim:Nat:=1000000
noncomputable def Gg:V->Option D
 |.d x=>some x
 |_=>.none
noncomputable def C3:List V->Option (List D)
 |[]=>some []
 |v::r=>(Gg v).bind fun x=>(C3 r).map (x::·)
noncomputable def EQ(l:List V):V:=Av (C3 l) (fun ds=>.d (.tup ds)) (.tup l)
noncomputable def Wf:R->Option V
 |.val v=>some v
 |.fresh l=>(C3 l).map fun ds=>.d (.lst ds)
noncomputable def Nf(b:Bool)(r:R)(st:St):Option (V×St):=match r with
 |.val v=>some (v,st)
 |.fresh l=>cond b (some (.loc st.store.length,st.add (.lst l))) ((C3 l).map fun ds=>(.d (.lst ds),st))
noncomputable def Ej(o:Ops)(b:Bool)(fn:Fn)(e:Expr)(st:St):Option (V×St):=(o.ev fn e st).bind fun p=>Nf b p.1 p.2
noncomputable def DN(o:Ops)(fn:Fn):List Expr->St->Option (List V×St)
 |[],st=>some ([],st)
 |e::r,st=>(Ej o fn.hm fn e st).bind fun p=>(DN o fn r p.2).map fun q=>(p.1::q.1,q.2)
noncomputable def idx{α:Type}(l:List α)(i:Int):Option α:=(seqIndex? i l.length).bind fun j=>l[j]?
noncomputable def DK(n:Nat)(i:Int):Nat:=if 0<=i then min i.toNat n else(i+(n:Int)).toNat
noncomputable def E3(n:Nat):Option Int->Nat
 |some a=>DK n a
 |.none=>0
noncomputable def G9(n:Nat):Option Int->Nat
 |some b=>DK n b
 |.none=>n
noncomputable def slc{α:Type}(l:List α)(a b:Option Int):List α:=(l.take (G9 l.length b)).drop (E3 l.length a)
noncomputable def ER:Option Cell->Option (List V)
 |some (.lst l)=>some l
 |some (.froz l)=>some (l.map .d)
 |_=>.none
noncomputable def Wg:D->Option (List V)
 |.lst l=>some (l.map .d)
 |_=>.none
noncomputable def Wi(σ:List Cell):V->Option (List V)
 |.d x=>Wg x
 |.loc n=>ER σ[n]?
 |.tup _=>.none
noncomputable def CP(σ:List Cell):R->Option (List V)
 |.fresh l=>some l
 |.val v=>Wi σ v
noncomputable def Wj:D->Option (List V)
 |.tup l=>some (l.map .d)
 |_=>.none
noncomputable def Ha:V->Option (List V)
 |.d x=>Wj x
 |.tup l=>some l
 |.loc _=>.none
noncomputable def Hb:R->Option (List V)
 |.val v=>Ha v
 |.fresh _=>.none
noncomputable def Gh(σ:List Cell)(r:R):Option (List V):=Av (CP σ r) some (Hb r)
noncomputable def Dh:D->Option (Bool×Int)
 |.int i=>some (false,i)
 |.key k=>some (true,k)
 |_=>.none
noncomputable def Lb:V->Option (Bool×Int)
 |.d x=>Dh x
 |_=>.none
noncomputable def I3:R->Option (Bool×Int)
 |.val v=>Lb v
 |.fresh _=>.none
noncomputable def plain:Bool×Int->Option Int
 |(false,i)=>some i
 |(true,_)=>.none
noncomputable def I4(r:R):Option Int:=(I3 r).bind plain
noncomputable def DO:Bool×Int->D
 |(false,i)=>.int i
 |(true,k)=>.key k
noncomputable def Hc:Option Cell->Option (Bool×List (Int×V))
 |some (.dct b es)=>some (b,es)
 |some (.fdct b es)=>some (b,es)
 |_=>.none
noncomputable def Lc:V->Option Nat
 |.loc n=>some n
 |_=>.none
noncomputable def I5:R->Option Nat
 |.val v=>Lc v
 |.fresh _=>.none
noncomputable def Ek(σ:List Cell)(r:R):Option (Bool×List (Int×V)):=(I5 r).bind fun n=>Hc σ[n]?
noncomputable def I6(o:Ops)(fn:Fn)(e:Expr)(st:St):Option ((Bool×Int)×St):=(o.ev fn e st).bind fun p=>(I3 p.1).map fun q=>(q,p.2)
noncomputable def Fg(o:Ops)(fn:Fn)(e:Expr)(st:St):Option (Int×St):=(I6 o fn e st).bind fun p=>(plain p.1).map fun q=>(q,p.2)
noncomputable def I7(o:Ops)(fn:Fn)(e:Expr)(st:St):Option (Nat×St):=(o.ev fn e st).bind fun p=>(I5 p.1).map fun q=>(q,p.2)
mutual
noncomputable def CW:D->D->Option Bool
 |.none,b=>match b with
  |.none=>some true
  |_=>some false
 |.bool _,_=>.none
 |.int a,b=>match b with
  |.int b=>some (decide (a=b))
  |.key _=>.none
  |.bool _=>.none
  |_=>some false
 |.key a,b=>match b with
  |.key b=>some (decide (a=b))
  |.int _=>.none
  |.bool _=>.none
  |_=>some false
 |.str a,b=>match b with
  |.str b=>some (decide (a=b))
  |_=>some false
 |.tup a,b=>match b with
  |.tup b=>FG a b
  |_=>some false
 |.lst a,b=>match b with
  |.lst b=>FG a b
  |_=>some false
noncomputable def FG:List D->List D->Option Bool
 |[],b=>some b.isEmpty
 |a::as,b=>match b with
  |[]=>some false
  |b::bs=>(CW a b).bind fun c=>cond c (FG as bs) (some false)
end
mutual
noncomputable def Be:D->Nat->Bool
 |.none,_=>true
 |.bool _,_=>false
 |.int _,_=>true
 |.key _,_=>true
 |.str _,_=>true
 |.tup l,n=>match n with
  |0=>false
  |n+1=>Cp l n
 |.lst l,n=>match n with
  |0=>false
  |n+1=>Cp l n
noncomputable def Cp:List D->Nat->Bool
 |[],_=>true
 |d::r,n=>Be d n&&Cp r n
end
noncomputable def Wk:CmpOp->Int->Int->Option Bool
 |.Lt,a,b=>some (decide (a < b))
 |.LtE,a,b=>some (decide (a<=b))
 |.Gt,a,b=>some (decide (b < a))
 |.GtE,a,b=>some (decide (b<=a))
 |_,_,_=>.none
noncomputable def KH(op:CmpOp)(p q:Bool×Int):Option Bool:=if (p.1 == q.1)=true then Wk op p.2 q.2 else .none
noncomputable def Gi(a b:D):Option Bool:=if (Be a 30&&Be b 30)=true then CW a b else .none
noncomputable def Wl(op:CmpOp)(a b:D):Option Bool:=match op with
 |.Eq=>Gi a b
 |.NotEq=>(Gi a b).map not
 |op=>(Dh a).bind fun p=>(Dh b).bind fun q=>KH op p q
noncomputable def KJ(r:R):Option D:=(Wf r).bind Gg
noncomputable def Qk(n:Nat):Option Cell->R
 |some (.froz ds)=>.val (.d (.lst ds))
 |_=>.val (.loc n)
noncomputable def Ql(σ:List Cell):V->R
 |.loc n=>Qk n σ[n]?
 |v=>.val v
noncomputable def KK(σ:List Cell):R->R
 |.val v=>Ql σ v
 |.fresh l=>.fresh l
noncomputable def Di(op:CmpOp)(σ:List Cell)(a b:R):Option Bool:=(KJ (KK σ a)).bind fun x=>(KJ (KK σ b)).bind fun y=>Wl op x y
noncomputable def ES(b:Bool)(es:List (Int×V))(q:Bool×Int):Bool:=es.isEmpty||q.1 == b
noncomputable def E4(d:D):List D->Option Bool
 |[]=>some false
 |e::r=>(CW e d).bind fun b=>(E4 d r).map (b||·)
noncomputable def Qm(σ:List Cell)(x c:R):Option Bool:=(KJ (KK σ x)).bind fun d=>(Gh σ c).bind fun l=>(C3 l).bind fun ds=>if (Be d 30&&Cp ds 30)=true then E4 d ds else .none
noncomputable def Fh(σ:List Cell)(x c:R):Option Bool:=Av (Ek σ c) (fun d=>(I3 x).bind fun q=>if ES d.1 d.2 q=true then some (AP q.2 d.2).isSome else .none) (Qm σ x c)
noncomputable def Wm:D->Bool
 |.none=>true
 |_=>false
noncomputable def Ng:V->Bool
 |.d x=>Wm x
 |_=>false
noncomputable def isNone:R->Bool
 |.val v=>Ng v
 |.fresh _=>false
noncomputable def Wn:D->Option Bool
 |.none=>some false
 |.bool b=>some b
 |_=>.none
noncomputable def Qn:R->Option D
 |.val v=>Gg v
 |.fresh _=>.none
noncomputable def Ld(σ:List Cell)(r:R):Option Bool:=Av (Gh σ r) (fun l=>some !l.isEmpty) ((Qn r).bind Wn)
noncomputable def small(i:Int):Bool:=decide (i.natAbs<=4294967296)
noncomputable def Le(op:Operator)(j:Int):D->Option D
 |.int i=>match op with
  |.Add=>some (.int (i+j))
  |.Sub=>some (.int (i - j))
  |.Mult=>if (small i&&small j)=true then some (.int (i*j)) else .none
  |.Mod=>if 0 < j then some (.int (i%j)) else .none
  |_=>.none
 |.key k=>match op with
  |.Add=>some (.key (k+j))
  |.Sub=>some (.key (k - j))
  |_=>.none
 |_=>.none
noncomputable def Wo(σ:List Cell)(a b:R):Option R:=Av (CP σ a) (fun l=>(CP σ b).bind fun m=>if l.length+m.length<=lim then some (.fresh (l++m)) else .none)
 ((Hb a).bind fun l=>(Hb b).bind fun m=>if l.length+m.length<=lim then some (.val (EQ (l++m))) else .none)
noncomputable def Fi(σ:List Cell)(op:Operator)(a b:R):Option R:=Av (I4 b) (fun j=>(Qn a).bind fun x=>(Le op j x).map fun d=>.val (.d d)) (match op with
 |.Add=>Wo σ a b
 |_=>.none)
noncomputable def CL(σ:List Cell)(a i:R):Option V:=Av (Ek σ a) (fun d=>(I3 i).bind fun q=>if ES d.1 d.2 q=true then AP q.2 d.2 else .none)
 ((I4 i).bind fun j=>(Gh σ a).bind fun l=>idx l j)
noncomputable def GA(σ:List Cell)(a:R)(lo hi:Option Int):Option R:=Av (CP σ a) (fun l=>some (.fresh (slc l lo hi))) ((Hb a).map fun l=>.val (EQ (slc l lo hi)))
noncomputable def J5:D->Bool×Int
 |.int i=>(false,i)
 |.tup l=>(l.head?.bind Dh).getD (false,0)
 |_=>(false,0)
noncomputable def DP{α:Type}(k:α->Int)(x:α):List α->List α
 |[]=>[x]
 |y::r=>if k x<=k y then x::y::r else y::DP k x r
noncomputable def Bn{α:Type}(k:α->Int):List α->List α
 |[]=>[]
 |x::r=>DP k x (Bn k r)
noncomputable def KL:D->Bool
 |.int _=>true
 |_=>false
noncomputable def Hd(c:Bool):D->Bool
 |.tup l=>Av (l.head?.bind Dh) (fun p=>p.1 == c) false
 |_=>false
noncomputable def KM:List Int->Bool
 |[]=>true
 |x::r=>!r.contains x&&KM r
noncomputable def J6(l:List D)(c:Bool):Bool:=l.all (Hd c)&&KM (l.map fun d=>(J5 d).2)
noncomputable def Gj(l:List D):Bool:=decide (l.length < 64)&&(l.all KL||J6 l false||J6 l true)
noncomputable def ET(l:List D):Option (List D):=if Gj l=true then some (Bn (fun d=>(J5 d).2) l) else .none
noncomputable def GB:List D->Option (List Int)
 |[]=>some []
 |d::r=>(Dh d).bind fun q=>(plain q).bind fun i=>(GB r).map fun s=>i::s
noncomputable def El(lt:Int->Int->Bool)(l:List Int):Option Int:=l.find? fun m=>l.all fun a=>lt a m
noncomputable def I8(a m:Int):Bool:=decide (a<=m)
noncomputable def I9(a m:Int):Bool:=decide (m<=a)
noncomputable def Nh:D->Option ((Bool×Int)×D)
 |.tup [d,x]=>(Dh d).map fun q=>(q,x)
 |_=>.none
noncomputable def IA(c:Bool):List V->Option (List (Int×V))
 |[]=>some []
 |v::r=>(Gg v).bind fun d=>(Nh d).bind fun p=>if (p.1.1 == c)=true then(IA c r).map fun s=>(p.1.2,.d p.2)::s else .none
noncomputable def Dj:List V->Bool
 |v::_=>Av ((Gg v).bind Nh) (fun p=>p.1.1) false
 |[]=>false
noncomputable def Cq(l:List (Int×V)):List (Int×V):=l.foldl (fun es p=>BL p.1 p.2 es) []
noncomputable def IB(c:Bool):List (Int×V)->Option (List D)
 |[]=>some []
 |p::r=>(Gg p.2).bind fun x=>(IB c r).map fun s=>.tup [DO (c,p.1),x]::s
noncomputable def IC(a b:List Int):List Int:=(a++b).foldl (fun l x=>if l.contains x then l else l++[x]) []
noncomputable def ID(a b s:Int):List Int:=(List.range ((b - a+s - 1) / s).toNat).map fun (i:Nat)=>a+i*s
noncomputable def J7(a b s:Int):Bool:=decide (0 < s)&&small a&&small b&&small s&&decide (((b - a+s - 1) / s).toNat<=lim)
noncomputable def GC(σ:List Cell)(f:Str)(r:R):Option R:=
 if f ="len" then(Gh σ r).map fun l=>.val (.d (.int l.length))
 else if f ="list" then(Gh σ r).map .fresh
 else if f ="tuple" then(CP σ r).map fun l=>.val (EQ l)
 else if f ="sorted" then Av (Ek σ r) (fun d=>(ET (d.2.map fun p=>DO (d.1,p.1))).map fun l=>.fresh (l.map .d))
  ((CP σ r).bind fun l=>(C3 l).bind fun ds=>(ET ds).map fun l=>.fresh (l.map .d))
 else if f ="max" then(CP σ r).bind fun l=>(C3 l).bind fun ds=>(GB ds).bind fun is=>(El I8 is).map fun i=>.val (.d (.int i))
 else if f ="min" then(CP σ r).bind fun l=>(C3 l).bind fun ds=>(GB ds).bind fun is=>(El I9 is).map fun i=>.val (.d (.int i))
 else if f ="sum" then(CP σ r).bind fun l=>(C3 l).bind fun ds=>(GB ds).map fun is=>.val (.d (.int is.sum))
 else .none
noncomputable def IE(G:Gl)(fn:Fn)(x:Str)(st:St):Option (R×St):=match fn.names.lookup x with
 |some .local=>(AG x st.vars).map fun v=>(.val v,st)
 |some .cell=>(AG x st.vars).map fun v=>(.val v,st)
 |some .free=>(AG x st.vars).map fun v=>(.val v,st)
 |some .globalImplicit=>(AG x G.tabs).map fun d=>(.val (.d d),st)
 |_=>.none
noncomputable def DQ(G:Gl)(fn:Fn)(x:Str):Bool:=
 fn.names.lookup x == some .globalImplicit&&(AG x G.fns).isNone&&(AG x G.tabs).isNone&&!decide (x=G.cls)
noncomputable def IF(fn:Fn)(x:Str):Bool:=fn.names.lookup x == some .globalImplicit
noncomputable def IG(o:Ops)(fn:Fn):Option Expr->St->Option (Option Int×St)
 |.none,st=>some (.none,st)
 |some e,st=>(Fg o fn e st).map fun p=>(some p.1,p.2)
inductive Vw where
 |name (x:Str) |tup (es:List Expr) |sub (b i:Expr) |slc (a b:Option Expr) |call (f:Str) (as:List Expr) |no |lc |other
noncomputable def Dk:Expr->Vw
 |.Name x _=>.name x
 |.Tuple es _ _=>.tup es
 |.Subscript b i _=>.sub b i
 |.Slice a b c _=>match c with
  |.none=>.slc a b
  |some _=>.other
 |.Call f as ks _=>match ks with
  |[]=>match f with
   |.Name g _=>.call g as
   |_=>.other
  |_::_=>.other
 |.Constant c _ _=>match c with
  |.none=>.no
  |_=>.other
 |.ListComp _ _ _ _=>.lc
 |_=>.other
noncomputable def Vw.name?:Vw->Option Str
 |.name x=>some x
 |_=>.none
noncomputable def Vw.tup?:Vw->Option (List Expr)
 |.tup x=>some x
 |_=>.none
noncomputable def Vw.sub?:Vw->Option (Expr×Expr)
 |.sub b i=>some (b,i)
 |_=>.none
noncomputable def Vw.slc?:Vw->Option (Option Expr×Option Expr)
 |.slc a b=>some (a,b)
 |_=>.none
noncomputable def Vw.call?:Vw->Option (Str×List Expr)
 |.call f as=>some (f,as)
 |_=>.none
noncomputable def Vw.no?:Vw->Bool
 |.no=>true
 |_=>false
noncomputable def Vw.lc?:Vw->Bool
 |.lc=>true
 |_=>false
noncomputable def FH(e:Expr):Option Str:=(Dk e).name?
noncomputable def He(e:Expr):Option (List Expr):=(Dk e).tup?
noncomputable def Ni(e:Expr):Option (Expr×Expr):=(Dk e).sub?
noncomputable def Wp(e:Expr):Bool:=(Dk e).sub?.isSome
noncomputable def IH(e:Expr):Option (Option Expr×Option Expr):=(Dk e).slc?
noncomputable def II(e:Expr):Option (Str×List Expr):=(Dk e).call?
noncomputable def KO(e:Expr):Bool:=(Dk e).no?
noncomputable def Gk(e:Expr):Bool:=(Dk e).lc?
noncomputable def Qo(o:Ops)(fn:Fn)(v s:Expr)(st:St):Option (R×St):=Av (IH s) (fun ab=>(o.ev fn v st).bind fun p=>(IG o fn ab.1 p.2).bind fun q=>(IG o fn ab.2 q.2).bind fun t=>(GA t.2.store p.1 q.1 t.1).map fun r=>(r,t.2))
 ((o.ev fn v st).bind fun p=>(o.ev fn s p.2).bind fun q=>(CL q.2.store p.1 q.1).map fun w=>(.val w,q.2))
noncomputable def J8(σ:List Cell)(n:Nat):Option Cell->Option (List V×List Cell)
 |some (.lst l)=>(C3 l).map fun ds=>(l,σ.set n (.froz ds))
 |some (.froz l)=>some (l.map .d,σ)
 |_=>.none
noncomputable def KP(σ:List Cell)(r:R):Option (List V×List Cell):=Av (I5 r) (fun n=>J8 σ n σ[n]?) ((CP σ r).map fun l=>(l,σ))
noncomputable def Qp(σ:List Cell)(r:R):Option (List V×List Cell):=Av (Hb r) (fun l=>some (l,σ)) (KP σ r)
noncomputable def GD:Nat->List V->List V
 |_,[]=>[]
 |n,v::r=>.tup [.d (.int n),v]::GD (n+1) r
structure It where
 items:List V
 pr:Bool
noncomputable def Lf(l:List Int):It:=⟨l.map fun i=>.d (.int i),false⟩
noncomputable def one{α:Type}:List α->Option α
 |[x]=>some x
 |_=>.none
noncomputable def KQ(σ:List Cell)(n:Nat):Option Cell->Option (List V×List Cell)
 |some (.dct b es)=>some (es.map fun p=>.d (DO (b,p.1)),σ.set n (.fdct b es))
 |some (.fdct b es)=>some (es.map fun p=>.d (DO (b,p.1)),σ)
 |_=>.none
noncomputable def Lh(σ:List Cell)(r:R):Option (List V×List Cell):=Av ((I5 r).bind fun n=>KQ σ n σ[n]?) some (Qp σ r)
noncomputable def KY(o:Ops)(fn:Fn)(e:Expr)(st:St):Option (It×St):=
 (o.ev fn e st).bind fun p=>(Lh p.2.store p.1).map fun l=>(⟨l.1,false⟩,p.2.sto l.2)
noncomputable def Li(o:Ops)(fn:Fn)(as:List Expr)(st:St):Option (It×St):=(one as).bind fun a=>(Fg o fn a st).bind fun p=>
 if J7 0 p.1 1=true then some (Lf (ID 0 p.1 1),p.2) else .none
noncomputable def Lj(o:Ops)(fn:Fn)(as:List Expr)(st:St):Option (It×St):=(one as).bind fun a=>(o.ev fn a st).bind fun p=>
 (KP p.2.store p.1).map fun l=>(⟨GD 0 l.1,true⟩,p.2.sto l.2)
noncomputable def Qq(G:Gl)(o:Ops)(fn:Fn)(e:Expr)(st:St)(f:Str)(as:List Expr):Option (It×St):=
 if (decide (f ="range")&&DQ G fn f)=true then Li o fn as st
 else if (decide (f ="enumerate")&&DQ G fn f)=true then Lj o fn as st
 else KY o fn e st
noncomputable def FJ(G:Gl)(o:Ops)(fn:Fn)(e:Expr)(st:St):Option (It×St):=Av (II e) (fun fa=>Qq G o fn e st fa.1 fa.2) (KY o fn e st)
noncomputable def Cg(fn:Fn)(x:Str):Bool:=fn.names.lookup x == some .local||fn.names.lookup x == some .cell
inductive Tg where
 |one (x:Str) |two (x y:Str)
noncomputable def Hf{α:Type}:List α->Option (α×α)
 |[a,b]=>some (a,b)
 |_=>.none
noncomputable def Wq(es:List Expr):Option (Str×Str):=(Hf es).bind fun p=>(FH p.1).bind fun x=>(FH p.2).map fun y=>(x,y)
noncomputable def Dm(e:Expr):Option Tg:=Av (FH e) (fun x=>some (.one x)) ((He e).bind fun es=>(Wq es).map fun p=>.two p.1 p.2)
noncomputable def Cr(fn:Fn)(pr:Bool):Tg->Bool
 |.one x=>!pr&&Cg fn x
 |.two x y=>!decide (x=y)&&Cg fn x&&Cg fn y
noncomputable def Em(t:Tg)(v:V)(st:St):Option St:=match t with
 |.one x=>some (st.set x v)
 |.two x y=>(Ha v).bind fun l=>(Hf l).map fun p=>(st.set x p.1).set y p.2
noncomputable def Nj(o:Ops)(fn:Fn)(st:St):List Expr->Option (Bool×St)
 |[]=>some (true,st)
 |t::r=>if r.isEmpty=true then o.tt fn t st else .none
noncomputable def turns(f:V->St->Option (List V×St)):List V->St->Option (List V×St)
 |[],st=>some ([],st)
 |v::r,st=>(f v st).bind fun p=>(turns f r p.2).map fun q=>(p.1++q.1,q.2)
noncomputable def compTurn'(o:Ops)(fn:Fn)(t:Tg)(ifs:List Expr)(inner:St->Option (List V×St))(v:V)(st:St):Option (List V×St):=
 (Em t v st).bind fun st=>(Nj o fn st ifs).bind fun p=>cond p.1 (inner p.2) (some ([],p.2))
noncomputable def Wt:Expr->Bool
 |.Set _ _ _=>true
 |_=>false
noncomputable def GE(g:Comprehension):Bool:=decide (g.is_async=0)&&!Wt g.iter
noncomputable def Qr(G:Gl)(o:Ops)(fn fn':Fn)(g:Comprehension)(st:St):Option (Tg×It×St):=(FJ G o fn g.iter st).bind fun p=>(Dm g.target).bind fun t=>if Cr fn' p.1.pr t=true then some (t,p) else .none
noncomputable def IJ(G:Gl)(o:Ops)(fn:Fn)(elt:Expr):List Comprehension->St->Option (List V×St)
 |[],st=>(Ej o fn.hm fn elt st).map fun p=>([p.1],p.2)
 |g::gs,st=>(Qr G o fn fn g st).bind fun p=>turns (compTurn' o fn p.1 g.ifs (IJ G o fn elt gs)) p.2.1.items p.2.2
noncomputable def seen(names:List (Str×NameKind))(vars:List (Str×V)):List (Str×V):=vars.filter fun p=>names.lookup p.1 == some .free
noncomputable def Ll:List (Str×NameKind)->Bool
 |[]=>true
 |p::r=>(r.lookup p.1).isNone&&Ll r
noncomputable def Gm(fn:Fn)(sc:Scope):Bool:=
 sc.kind == .function&&sc.names.all (fun p=>(p.2 == .local||p.2 == .globalImplicit||(p.2 == .free&&(fn.names.lookup p.1 == some .cell||fn.names.lookup p.1 == some .free)))&&!decide (p.1 ="__debug__")&&!decide (p.1 ="__classdict__"))&&Ll sc.names
noncomputable def Fn.sc(fn:Fn)(ns:List (Str×NameKind)):Fn:=⟨fn.params,fn.body,ns,fn.hm,fn.sh,fn.mv⟩
noncomputable def Lm(G:Gl)(o:Ops)(fn:Fn)(elt:Expr)(gs:List Comprehension)(sc:Scope)(st:St):Option (R×St):=match gs with
 |g::gs=>if (Gm fn sc&&(g::gs).all GE)=true then(Qr G o fn (fn.sc sc.names) g st).bind fun p=>
  (turns (compTurn' o (fn.sc sc.names) p.1 g.ifs (IJ G o (fn.sc sc.names) elt gs)) p.2.1.items ⟨seen sc.names st.vars,p.2.2.store⟩).bind fun q=>
   if q.1.length<=lim then some (.fresh q.1,st.sto q.2.store) else .none
  else .none
 |[]=>.none
noncomputable def FK:Nat->List Cell->V->Option D
 |_,_,.d x=>some x
 |0,_,_=>.none
 |n+1,σ,.loc k=>(ER σ[k]?).bind fun l=>(l.mapM (FK n σ)).map .lst
 |n+1,σ,.tup l=>(l.mapM (FK n σ)).map .tup
noncomputable def J9(σ:List Cell):R->Option R
 |.val v=>(FK 8 σ v).map fun d=>.val (.d d)
 |.fresh l=>(l.mapM (FK 8 σ)).map fun ds=>.fresh (ds.map .d)
noncomputable def Qs(v:V)(σ:List Cell):Option (D×List Cell):=Av (Lc v) (fun n=>(J8 σ n σ[n]?).bind fun p=>(C3 p.1).map fun ds=>(.lst ds,p.2)) ((Gg v).map fun x=>(x,σ))
noncomputable def Ln:List V->List Cell->Option (List V×List Cell)
 |[],σ=>some ([],σ)
 |v::r,σ=>(Qs v σ).bind fun q=>(Ln r q.2).map fun p=>(.d q.1::p.1,p.2)
noncomputable def Lo(o:Ops)(f:Fn)(vs:List V)(st:St):Option (R×St):=cond f.sh ((o.call f vs st.store).map fun p=>(p.1,st.sto p.2))
 ((Ln vs st.store).bind fun q=>(o.call f q.1 []).bind fun p=>if p.2.isEmpty=true then some (p.1,st.sto q.2) else .none)
noncomputable def IK{α:Type}(l:List α)(i:Nat)(x:α):List α:=l.take i++x::l.drop i
noncomputable def Qt(σ:List Cell)(n:Nat)(l:List V)(x:V):Option (R×List Cell):=if l.length < lim then some (.val (.d .none),σ.set n (.lst (l++[x]))) else .none
noncomputable def Qu(σ:List Cell)(n:Nat)(l:List V)(p:V×V):Option (R×List Cell):=(I4 (.val p.1)).bind fun i=>
 if (decide (0<=i)&&small i&&decide (l.length < lim))=true then some (.val (.d .none),σ.set n (.lst (IK l (min i.toNat l.length) p.2))) else .none
noncomputable def Qv(σ:List Cell)(n:Nat)(l:List V)(v:V):Option (R×List Cell):=(Lc v).bind fun k=>(ER σ[k]?).bind fun e=>
 if (!decide (k=n)&&decide (l.length+e.length<=lim))=true then some (.val (.d .none),σ.set n (.lst (l++e))) else .none
noncomputable def Qw(σ:List Cell)(n:Nat)(l:List V):Option (R×List Cell):=l.getLast?.map fun x=>(.val x,σ.set n (.lst l.dropLast))
noncomputable def Qx(σ:List Cell)(n:Nat)(l:List V)(v:V):Option (R×List Cell):=(I4 (.val v)).bind fun i=>if i=0 then(match l with
 |x::r=>some (.val x,σ.set n (.lst r))
 |[]=>.none) else .none
noncomputable def JA(σ:List Cell)(n:Nat)(l:List V)(m:Str)(as:List V):Option (R×List Cell):=
 if m ="append" then(one as).bind (Qt σ n l)
 else if m ="insert" then(Hf as).bind (Qu σ n l)
 else if m ="extend" then(one as).bind (Qv σ n l)
 else if m ="pop" then(if as.isEmpty=true then Qw σ n l else(one as).bind (Qx σ n l))
 else .none
noncomputable def Nk(σ:List Cell)(b:Bool)(es:List (Int×V))(v:V):Option (R×List Cell):=(Lb v).bind fun q=>if ES b es q=true then some (.val ((AP q.2 es).getD (.d .none)),σ) else .none
noncomputable def Qy(σ:List Cell)(n:Nat)(b:Bool)(es:List (Int×V))(p:V×V):Option (R×List Cell):=(Lb p.1).bind fun q=>
 if (ES b es q&&Ng p.2)=true then some (.val ((AP q.2 es).getD (.d .none)),σ.set n (.dct q.1 (CK q.2 es))) else .none
noncomputable def Lq(σ:List Cell)(n:Nat)(b:Bool)(es:List (Int×V))(m:Str)(as:List V):Option (R×List Cell):=
 if m ="get" then(one as).bind (Nk σ b es)
 else if m ="pop" then(Hf as).bind (Qy σ n b es)
 else .none
noncomputable def Lr(e:Expr):Bool:=Av (II e) (fun p=>p.2.isEmpty) false
noncomputable def Dn(b:Expr)(apos pos:Pos)(k:Nat):Bool:=!Lr b&&(apos.endLine == pos.line)&&decide (k < 20)
noncomputable def KZ(G:Gl)(o:Ops)(n:Nat)(m:Str)(as:List V)(st:St):Option Cell->Option (R×St)
 |some (.lst l)=>(JA st.store n l m as).map fun r=>(r.1,st.sto r.2)
 |some (.dct b es)=>(Lq st.store n b es m as).map fun r=>(r.1,st.sto r.2)
 |some (.fdct b es)=>if m ="get" then((one as).bind (Nk st.store b es)).map fun r=>(r.1,st.sto r.2) else .none
 |some (.inst _)=>(AG m G.meths).bind fun f=>Lo o f (.loc n::as) st
 |_=>.none
noncomputable def JB(m:Str):Option Cell->Nat
 |some (.lst _)=>1
 |some (.dct _ _)=>2
 |some (.fdct _ _)=>2
 |some (.inst fs)=>if (AG m fs).isNone=true then 3 else 0
 |_=>0
noncomputable def Ka:Option Cell->Nat
 |some (.lst _)=>1
 |some (.dct _ _)=>2
 |some (.fdct _ _)=>2
 |some (.inst _)=>3
 |_=>4
noncomputable def Qz(G:Gl)(o:Ops)(fn:Fn)(b:Expr)(m:Str)(as:List Expr)(st:St):Option (R×St):=
 (I7 o fn b st).bind fun p=>(DN o fn as p.2).bind fun q=>if (JB m p.2.store[p.1]? == Ka q.2.store[p.1]?)=true then KZ G o p.1 m q.1 q.2 q.2.store[p.1]? else .none
noncomputable def Kb(d:Bool×List (Int×V)):Bool:=!d.1&&decide (d.2.length<=20)&&d.2.all (fun p=>decide (0<=p.1)&&decide (p.1 < 64))
noncomputable def R2(σ:List Cell)(r:R):Option (List Cell):=(CP σ r).bind fun l=>(IA (Dj l) l).map fun prs=>σ++[.dct (Dj l) (Cq prs)]
noncomputable def Nl(o:Ops)(fn:Fn)(e:Expr)(st:St):Option (R×St):=(o.ev fn e st).bind fun p=>(R2 p.2.store p.1).map fun σ=>(.val (.loc p.2.store.length),p.2.sto σ)
noncomputable def Kc(o:Ops)(fn:Fn)(f:Str)(e:Expr)(st:St):Option (R×St):=(o.ev fn e st).bind fun p=>(GC p.2.store f p.1).map fun r=>(r,p.2)
noncomputable def Nm(o:Ops)(fn:Fn)(b:Expr)(st:St):Option (R×St):=(o.ev fn b st).bind fun p=>(Ek p.2.store p.1).bind fun d=>(IB d.1 d.2).bind fun l=>(ET l).map fun l=>(.fresh (l.map .d),p.2)
noncomputable def Ls(d d':Bool×List (Int×V))(st:St):Option (R×St):=if (Kb d&&Kb d')=true then(ET ((IC (d.2.map (·.1)) (d'.2.map (·.1))).map .int)).map fun l=>(.fresh (l.map .d),st) else .none
noncomputable def Nn(o:Ops)(fn:Fn)(x y:Expr)(st:St):Option (R×St):=(o.ev fn x st).bind fun p=>(Ek p.2.store p.1).bind fun d=>(o.ev fn y p.2).bind fun q=>(Ek q.2.store q.1).bind fun d'=>Ls d d' q.2
inductive Form where
 |items (b:Expr) |union (x y:Expr) |plain
noncomputable def No(f:Str)(e:Expr):Option Expr:=(II e).bind fun p=>if p.1=f then one p.2 else .none
noncomputable def Wu(l r:Expr):Form:=Av (No "set" l) (fun x=>Av (No "set" r) (fun y=>.union x y) .plain) .plain
noncomputable def Wv(b:Expr)(m:Str)(apos:Pos)(as:List Expr)(pos:Pos):Form:=if (decide (m ="items")&&as.isEmpty&&Dn b apos pos 0)=true then .items b else .plain
noncomputable def R3(G:Gl)(fn:Fn):Expr->Form
 |.Call f as ks pos=>match ks with
  |[]=>match f with
   |.Attribute b m apos=>Wv b m apos as pos
   |_=>.plain
  |_=>.plain
 |.BinOp l op r _=>match op with
  |.BitOr=>if DQ G fn "set" = true then Wu l r else .plain
  |_=>.plain
 |_=>.plain
noncomputable def R4(o:Ops)(fn:Fn)(f:Str)(e:Expr)(st:St):Form->Option (R×St)
 |.items b=>if f ="sorted" then Nm o fn b st else .none
 |.union x y=>if f ="sorted" then Nn o fn x y st else .none
 |.plain=>if f ="dict" then Nl o fn e st else Kc o fn f e st
noncomputable def Np(o:Ops)(fn:Fn)(p:Expr×Expr)(st:St):Option (R×St):=(Fg o fn p.1 st).bind fun a=>(Fg o fn p.2 a.2).map fun b=>(.val (.d (.int (if a.1 < b.1 then b.1 else a.1))),b.2)
noncomputable def Ww(G:Gl)(o:Ops)(fn:Fn)(f:Str)(as:List Expr)(st:St):Option (R×St):=Av (Hf as) (fun p=>if f ="max" then Np o fn p st else .none) ((one as).bind fun e=>R4 o fn f e st (R3 G fn e))
noncomputable def R5:R->Bool
 |.val v=>Ng v
 |.fresh _=>false
noncomputable def R6(G:Gl)(o:Ops)(fn:Fn)(as:List Expr)(st:St):Option (R×St):=(DN o fn as st).bind fun p=>
 (o.call G.init (.loc p.2.store.length::p.1) (p.2.store++[.inst []])).bind fun q=>if R5 q.1=true then some (.val (.loc p.2.store.length),p.2.sto q.2) else .none
noncomputable def Fj(G:Gl)(o:Ops)(fn:Fn)(x:Str)(as:List Expr)(st:St):Option (R×St):=
 if IF fn x=true then
  if x=G.cls then R6 G o fn as st
  else Av (AG x G.fns) (fun g=>(DN o fn as st).bind fun p=>Lo o g p.1 p.2) (if DQ G fn x=true then Ww G o fn x as st else .none)
 else .none
noncomputable def Wx(G:Gl)(o:Ops)(fn:Fn)(f:Expr)(as:List Expr)(pos:Pos)(st:St):Option (R×St):=match f with
 |.Name x _=>Fj G o fn x as st
 |.Attribute b m apos=>if Dn b apos pos as.length=true then Qz G o fn b m as st else .none
 |_=>.none
noncomputable def IL:Option Cell->Option (List (Str×V))
 |some (.inst fs)=>some fs
 |_=>.none
noncomputable def R7(G:Gl)(o:Ops)(fn:Fn)(v:Expr)(a:Str)(st:St):Option (R×St):=if (G.flds.contains a&&!Lr v)=true then(I7 o fn v st).bind fun p=>(IL p.2.store[p.1]?).bind fun fs=>(AG a fs).map fun w=>(.val w,p.2) else .none
noncomputable def R8(st:St):Const->Option (R×St)
 |.none=>some (.val (.d .none),st)
 |.bool b=>some (.val (.d (.bool b)),st)
 |.int i=>some (.val (.d (.int i)),st)
 |.str s=>if PyData.strOk s=true then some (.val (.d (.str s)),st) else .none
 |_=>.none
noncomputable def R9(G:Gl)(o:Ops)(fn:Fn)(e:Expr)(st:St):Option (R×St):=match e with
 |.Constant c _ _=>R8 st c
 |.Name x _=>IE G fn x st
 |.UnaryOp op x _=>match op with
  |.USub=>(Fg o fn x st).map fun p=>(.val (.d (.int (-p.1))),p.2)
  |_=>.none
 |.BinOp l op r _=>(o.ev fn l st).bind fun p=>(o.ev fn r p.2).bind fun q=>(Fi q.2.store op p.1 q.1).map fun x=>(x,q.2)
 |.IfExp t b e _=>(o.tt fn t st).bind fun p=>cond p.1 (o.ev fn b p.2) (o.ev fn e p.2)
 |.List es _=>if es.length<=lim then(DN o fn es st).map fun p=>(.fresh p.1,p.2) else .none
 |.Tuple es _ _=>if es.length<=lim then(DN o fn es st).map fun p=>(.val (EQ p.1),p.2) else .none
 |.Dict ks vs _=>if (ks.isEmpty&&vs.isEmpty)=true then some (.val (.loc st.store.length),st.add (.dct false [])) else .none
 |.ListComp elt gs sc _=>Lm G o fn elt gs sc st
 |.Call f as ks pos=>match ks with
  |[]=>Wx G o fn f as pos st
  |_=>.none
 |.Attribute v a _=>R7 G o fn v a st
 |.Subscript v s _=>Qo o fn v s st
 |_=>.none
noncomputable def RA(l r:Expr):Option Expr:=(II l).bind fun p=>if (decide (p.1 ="type")&&decide (FH r=some "int"))=true then one p.2 else .none
noncomputable def RB(G:Gl)(o:Ops)(fn:Fn)(st:St)(e:Expr):Option (Bool×St):=if (DQ G fn "type"&&DQ G fn "int")=true then(Fg o fn e st).map fun p=>(true,p.2) else .none
noncomputable def RD(G:Gl)(o:Ops)(fn:Fn)(l:Expr)(op:CmpOp)(r:Expr)(st:St):Option (Bool×St):=match op with
 |.Is=>if KO r=true then(o.ev fn l st).map fun p=>(isNone p.1,p.2) else(RA l r).bind (RB G o fn st)
 |.IsNot=>if KO r=true then(o.ev fn l st).map fun p=>(!isNone p.1,p.2) else .none
 |.In=>(o.ev fn l st).bind fun p=>(o.ev fn r p.2).bind fun q=>(Fh q.2.store p.1 q.1).map fun b=>(b,q.2)
 |.NotIn=>(o.ev fn l st).bind fun p=>(o.ev fn r p.2).bind fun q=>(Fh q.2.store p.1 q.1).map fun b=>(!b,q.2)
 |op=>(o.ev fn l st).bind fun p=>(o.ev fn r p.2).bind fun q=>(Di op q.2.store p.1 q.1).map fun b=>(b,q.2)
noncomputable def RE:BoolOp->Bool
 |.And=>true
 |.Or=>false
noncomputable def En(o:Ops)(fn:Fn)(op:BoolOp):List Expr->St->Option (Bool×St)
 |[],st=>some (RE op,st)
 |t::r,st=>(o.tt fn t st).bind fun p=>if (p.1 == RE op)=true then En o fn op r p.2 else some p
noncomputable def RF:CmpOp->Bool
 |.Lt |.LtE |.Gt |.GtE=>true
 |_=>false
noncomputable def Wy(op':CmpOp)(b:Bool×Int)(t:(Bool×Int)×St):Option (Bool×St):=(KH op' b t.1).map fun c=>(c,t.2)
noncomputable def Wz(o:Ops)(fn:Fn)(op':CmpOp)(r:Expr)(q:(Bool×Int)×St)(c:Bool):Option (Bool×St):=cond c ((I6 o fn r q.2).bind (Wy op' q.1)) (some (false,q.2))
noncomputable def X0(o:Ops)(fn:Fn)(op op':CmpOp)(r:Expr)(a:Bool×Int)(q:(Bool×Int)×St):Option (Bool×St):=(KH op a q.1).bind (Wz o fn op' r q)
noncomputable def X2(o:Ops)(fn:Fn)(op op':CmpOp)(m r:Expr)(p:(Bool×Int)×St):Option (Bool×St):=(I6 o fn m p.2).bind (X0 o fn op op' r p.1)
noncomputable def Nq(o:Ops)(fn:Fn)(l:Expr)(p q:CmpOp×Expr)(st:St):Option (Bool×St):=if RF q.1=true then(I6 o fn l st).bind (X2 o fn p.1 q.1 p.2 q.2) else .none
noncomputable def X3(G:Gl)(o:Ops)(fn:Fn)(l:Expr)(st:St)(Ba:List CmpOp)(rs:List Expr):Option (Bool×St):=
 Av (one Ba) (fun op=>(one rs).bind fun r=>RD G o fn l op r st) ((Hf Ba).bind fun p=>(Hf rs).bind fun q=>Nq o fn l (p.1,q.1) (p.2,q.2) st)
noncomputable def Lu(o:Ops)(fn:Fn)(e:Expr)(st:St):Option (Bool×St):=(o.ev fn e st).bind fun p=>(Ld p.2.store p.1).map fun b=>(b,p.2)
noncomputable def RH(G:Gl)(o:Ops)(fn:Fn)(e:Expr)(st:St):Option (Bool×St):=match e with
 |.UnaryOp op x _=>match op with
  |.Not=>(o.tt fn x st).map fun p=>(!p.1,p.2)
  |_=>Lu o fn e st
 |.BoolOp op vs _=>En o fn op vs st
 |.Compare l Ba rs _=>X3 G o fn l st Ba rs
 |.IfExp ..=>.none
 |e=>Lu o fn e st
noncomputable def Nr(σ:List Cell)(n:Nat)(q:Bool×Int)(v:V):Option Cell->Option (List Cell)
 |some (.lst l)=>(plain q).bind fun i=>if (decide (0<=i)&&decide (i.toNat < l.length))=true then some (σ.set n (.lst (l.set i.toNat v))) else .none
 |some (.dct b es)=>if (ES b es q&&decide (es.length < lim))=true then some (σ.set n (.dct q.1 (BL q.2 v es))) else .none
 |_=>.none
noncomputable def Lw(σ:List Cell)(n:Nat)(q:Bool×Int):Option Cell->Option (List Cell)
 |some (.lst l)=>(plain q).bind fun i=>(seqIndex? i l.length).map fun k=>σ.set n (.lst (l.eraseIdx k))
 |some (.dct b es)=>if (ES b es q&&(AP q.2 es).isSome)=true then some (σ.set n (.dct q.1 (CK q.2 es))) else .none
 |_=>.none
noncomputable def X4(G:Gl)(a:Str)(v:V)(p:Nat×St):Option St:=(IL p.2.store[p.1]?).bind fun fs=>if (G.flds.contains a&&decide (fs.length < 8))=true then some (p.2.put p.1 (.inst (AS a v fs))) else .none
noncomputable def X5(v:V)(n:Nat)(q:(Bool×Int)×St):Option St:=(Nr q.2.store n q.1 v q.2.store[n]?).map fun σ=>q.2.sto σ
noncomputable def Gn(G:Gl)(o:Ops)(fn:Fn)(t:Expr)(v:V)(st:St):Option St:=match t with
 |.Name x _=>if Cg fn x=true then some (st.set x v) else .none
 |.Attribute b a _=>(I7 o fn b st).bind (X4 G a v)
 |.Subscript b i _=>(I7 o fn b st).bind fun p=>(I6 o fn i p.2).bind (X5 v p.1)
 |_=>.none
noncomputable def GF(G:Gl)(o:Ops)(fn:Fn):List Expr->List V->St->Option St
 |[],vs,st=>if vs.isEmpty=true then some st else .none
 |t::ts,vs,st=>match vs with
  |v::vs=>(Gn G o fn t v st).bind fun st=>GF G o fn ts vs st
  |[]=>.none
noncomputable def Lx(G:Gl)(o:Ops)(fn:Fn)(v:V):List Expr->St->Option St
 |[],st=>some st
 |t::ts,st=>(Gn G o fn t v st).bind fun st=>Lx G o fn v ts st
noncomputable def wants(fn:Fn)(e:Expr):Bool:=Av (FH e) (fun x=>fn.hm||fn.mv.contains x) fn.hm
noncomputable def Kd(o:Ops)(fn:Fn):List Expr->List Expr->St->Option (List V×St)
 |[],es,st=>if es.isEmpty=true then some ([],st) else .none
 |t::ts,es,st=>match es with
  |e::r=>(Ej o (wants fn t) fn e st).bind fun p=>(Kd o fn ts r p.2).map fun q=>(p.1::q.1,q.2)
  |[]=>.none
noncomputable def JC:List Expr->Option (List Str)
 |[]=>some []
 |t::r=>(FH t).bind fun x=>(JC r).map (x::·)
noncomputable def Ly:List Str->Bool
 |[]=>true
 |x::r=>!r.contains x&&Ly r
noncomputable def JD(ts:List Expr):Bool:=decide (ts.length<=8)&&Av (JC ts) Ly (ts.all Wp)
noncomputable def X6(G:Gl)(o:Ops)(fn:Fn)(us:List Expr)(e:Expr)(st:St):Option St:=if JD us=true then Av (He e) (fun es=>cond (es.all (constantsAlone 8)) .none ((Kd o fn us es st).bind fun p=>GF G o fn us p.1 p.2))
 ((Ej o false fn e st).bind fun p=>(Ha p.1).bind fun l=>GF G o fn us l p.2) else .none
noncomputable def X7(G:Gl)(o:Ops)(fn:Fn)(t e:Expr)(st:St):Option St:=Av (He t) (fun us=>X6 G o fn us e st) ((Ej o (wants fn t) fn e st).bind fun p=>Gn G o fn t p.1 p.2)
noncomputable def RI(G:Gl)(o:Ops)(fn:Fn)(ts:List Expr)(e:Expr)(st:St):Option St:=Av (one ts) (fun t=>X7 G o fn t e st) (if (JD ts&&(JC ts).isSome)=true then(Ej o false fn e st).bind fun p=>Lx G o fn p.1 ts p.2 else .none)
noncomputable def X8(n:Nat)(q:(Bool×Int)×St):Option St:=(Lw q.2.store n q.1 q.2.store[n]?).map fun σ=>q.2.sto σ
noncomputable def Ke(o:Ops)(fn:Fn):List Expr->St->Option St
 |[],st=>some st
 |t::r,st=>(Ni t).bind fun p=>(I7 o fn p.1 st).bind fun b=>(I6 o fn p.2 b.2).bind fun q=>(X8 b.1 q).bind fun st=>Ke o fn r st
noncomputable def JE:Fl->Bool
 |.next=>true
 |.ret _=>false
noncomputable def forLoop'(o:Ops)(fn:Fn)(t:Tg)(body:List Stmt):List V->St->Option St
 |[],st=>some st
 |v::r,st=>(Em t v st).bind fun st=>(o.ex fn body st).bind fun p=>if JE p.1=true then forLoop' o fn t body r p.2 else .none
noncomputable def whileLoop'(o:Ops)(fn:Fn)(t:Expr)(body:List Stmt):Nat->St->Option St
 |0,_=>.none
 |k+1,st=>(o.tt fn t st).bind fun p=>cond p.1 ((o.ex fn body p.2).bind fun q=>if JE q.1=true then whileLoop' o fn t body k q.2 else .none) (some p.2)
noncomputable def next(st:St):Fl×St:=(.next,st)
noncomputable def RJ(o:Ops)(fn:Fn)(x:Str)(e:Expr)(st:St):Option St:=if Cg fn x=true then(AG x st.vars).bind fun v=>(I4 (.val v)).bind fun i=>(Fg o fn e st).map fun p=>p.2.set x (.d (.int (i+p.1))) else .none
noncomputable def Nt(G:Gl)(o:Ops)(fn:Fn)(s:Stmt)(st:St):Option (Fl×St):=match s with
 |.Assign ts e _=>(RI G o fn ts e st).map next
 |.AugAssign t op e _=>match op with
  |.Add=>(FH t).bind fun x=>(RJ o fn x e st).map next
  |_=>.none
 |.If t b e _=>(o.tt fn t st).bind fun p=>cond p.1 (o.ex fn b p.2) (o.ex fn e p.2)
 |.For t it body els _=>match els with
  |[]=>(FJ G o fn it st).bind fun p=>(Dm t).bind fun t=>if Cr fn p.1.pr t=true then(forLoop' o fn t body p.1.items p.2).map next else .none
  |_=>.none
 |.While t body els _=>match els with
  |[]=>(whileLoop' o fn t body 1000 st).map next
  |_=>.none
 |.Return e _=>match e with
  |some e=>(o.ev fn e st).map fun p=>(.ret p.1,p.2)
  |.none=>some (.ret (.val (.d .none)),st)
 |.Expr e _=>if Gk e=true then .none else(o.ev fn e st).map fun p=>next p.2
 |.Delete ts _=>(Ke o fn ts st).map next
 |_=>.none
noncomputable def RK(G:Gl)(o:Ops)(fn:Fn)(ss:List Stmt)(st:St):Option (Fl×St):=match ss with
 |[]=>some (next st)
 |s::r=>(Nt G o fn s st).bind fun p=>match p.1 with
  |.next=>o.ex fn r p.2
  |.ret x=>some (.ret x,p.2)
noncomputable def Lz:Fl->R
 |.next=>.val (.d .none)
 |.ret r=>r
noncomputable def RL(o:Ops)(f:Fn)(vs:List V)(σ:List Cell):Option (R×List Cell):=
 if vs.length=f.params.length then cond f.sh ((o.ex f f.body ⟨f.params.zip vs,σ⟩).map fun p=>(Lz p.1,p.2.store))
  (if σ.isEmpty=true then(o.ex f f.body ⟨f.params.zip vs,[]⟩).bind fun p=>(J9 p.2.store (Lz p.1)).map fun r=>(r,[]) else .none)
 else .none
noncomputable def AU(G:Gl):Nat->Ops
 |0=>⟨fun _ _ _=>.none,fun _ _ _=>.none,fun _ _ _=>.none,fun _ _ _=>.none⟩
 |n+1=>⟨R9 G (AU G n),RH G (AU G n),RK G (AU G n),RL (AU G n)⟩
open PySem PyProof.Rows
structure Iota where
 base:Int
noncomputable def Iota.f(I:Iota):Bool->Int->Int
 |false,i=>i
 |true,k=>I.base+k
structure Mm where
 F:Addr->Prop
 ad:List Addr
 gp:List (List Addr)
structure Sm where
 s:Shared
 M:Mm
noncomputable def Sm.seq(T:Sm)(ty:String)(a:Addr)(us:List Value):Prop:=∃n,T.s.heap.get? a=some (seqObj ty (List.toArray us) n)
section
variable(I:Iota)(T:Sm)
mutual
noncomputable def AR:D->Value->Prop
 |.none,v=>v=.none
 |.bool b,v=>v=.bool b
 |.int i,v=>∃t,v=.int i t
 |.key k,v=>∃t,v=.int (I.f true k) t
 |.str s,v=>∃t,v=.str s t/\PyData.strOk s=true
 |.tup l,v=>∃a us,v=.ref a/\T.M.F a/\T.seq "tuple" a us/\l.length<=lim/\Do l us
 |.lst l,v=>∃a us,v=.ref a/\T.M.F a/\T.seq "list" a us/\l.length<=lim/\Do l us
noncomputable def Do:List D->List Value->Prop
 |[],us=>us=[]
 |d::r,us=>∃u ws,us=u::ws/\AR d u/\Do r ws
end
mutual
noncomputable def AA:V->Value->Prop
 |.d x,v=>AR I T x v
 |.loc n,v=>∃a,T.M.ad[n]?=some a/\v=.ref a
 |.tup l,v=>∃a us,v=.ref a/\T.M.F a/\T.seq "tuple" a us/\l.length<=lim/\Kf l us
noncomputable def Kf:List V->List Value->Prop
 |[],us=>us=[]
 |d::r,us=>∃u ws,us=u::ws/\AA d u/\Kf r ws
end
end
noncomputable def A7{α:Type}(P:α->Value->Prop):List α->List Value->Prop
 |[],us=>us=[]
 |d::r,us=>∃u ws,us=u::ws/\P d u/\A7 P r ws
section
variable{α β:Type}{P P':α->Value->Prop}{l m:List α}{us ws:List Value}{x:α}{u:Value}
theorem A7.k0{C:List Value->Prop}(h:A7 P [] us)(k:C []):C us:=by
 cases h;exact k
theorem A7.k1{C:List Value->Prop}(h:A7 P [x] us)(k:∀u,P x u->C [u]):C us:=by
 obtain⟨u,ws,rfl,a,rfl⟩:=h
 exact k u a
theorem A7.k2{C:List Value->Prop}{y:α}(h:A7 P [x,y] us)(k:∀u w,P x u->P y w->C [u,w]):C us:=by
 obtain⟨u,ws,rfl,a,w,zs,rfl,b,rfl⟩:=h
 exact k u w a b
theorem A7.cons(a:P x u)(b:A7 P l us):A7 P (x::l) (u::us):=⟨u,us,rfl,a,b⟩
theorem A7.one(a:P x u):A7 P [x] [u]:=.cons a rfl
theorem A7.imp(f:∀a u,P a u->P' a u):∀{l:List α} {us:List Value},A7 P l us->A7 P' l us:=by
 intro l
 induction l with
 |nil=>exact id
 |cons x l ih=>exact Exists.imp fun u=>Exists.imp fun ws=>And.imp_right (And.imp (f x u) ih)
theorem A7.length:∀{us:List Value},A7 P l us->us.length=l.length:=by
 induction l with
 |nil=>intro us h;cases h;rfl
 |cons x l ih=>intro us h;obtain⟨u,ws,rfl,a,b⟩:=h;exact A2 (·+1) (ih b)
theorem A7.append:∀{us:List Value},A7 P l us->A7 P m ws->A7 P (l++m) (us++ws):=by
 induction l with
 |nil=>intro us h g;cases h;exact g
 |cons x l ih=>intro us h g;obtain⟨u,vs,rfl,a,b⟩:=h;exact⟨u,vs++ws,rfl,a,ih b g⟩
theorem A7.get:∀{us:List Value} {i:Nat},A7 P l us->l[i]?=some x->∃u,us[i]?=some u/\P x u:=by
 induction l with
 |nil=>exact fun _ e=>by cases e
 |cons y l ih=>
  intro us i h e
  obtain⟨u,vs,rfl,a,b⟩:=h
  cases i with
  |zero=>cases e;exact⟨u,rfl,a⟩
  |succ i=>have q:=ih b e;exact q
theorem A7.take:∀{us:List Value} (n:Nat),A7 P l us->A7 P (l.take n) (us.take n):=by
 induction l with
 |nil=>intro us n h;cases h;cases n <;> exact rfl
 |cons y l ih=>
  intro us n h
  obtain⟨u,vs,rfl,a,b⟩:=h
  cases n with
  |zero=>exact rfl
  |succ n=>exact⟨u,vs.take n,rfl,a,ih n b⟩
theorem A7.drop:∀{us:List Value} (n:Nat),A7 P l us->A7 P (l.drop n) (us.drop n):=by
 induction l with
 |nil=>intro us n h;cases h;cases n <;> exact rfl
 |cons y l ih=>
  intro us n h
  cases n with
  |zero=>exact h
  |succ n=>obtain⟨u,vs,rfl,a,b⟩:=h;exact ih n b
theorem A7.set(a:P x u):∀{us:List Value} (n:Nat),A7 P l us->A7 P (l.set n x) (us.set n u):=by
 induction l with
 |nil=>intro us n h;cases h;exact rfl
 |cons y l ih=>
  intro us n h
  obtain⟨w,vs,rfl,c,b⟩:=h
  cases n with
  |zero=>exact⟨u,vs,rfl,a,b⟩
  |succ n=>exact⟨w,vs.set n u,rfl,c,ih n b⟩
theorem A7.erase:∀{us:List Value} (n:Nat),A7 P l us->A7 P (l.eraseIdx n) (us.eraseIdx n):=by
 induction l with
 |nil=>intro us n h;cases h;exact rfl
 |cons y l ih=>
  intro us n h
  obtain⟨w,vs,rfl,c,b⟩:=h
  cases n with
  |zero=>exact b
  |succ n=>exact⟨w,vs.eraseIdx n,rfl,c,ih n b⟩
theorem A7.map{f:β->α}:∀{l:List β} {us:List Value},A7 P (l.map f) us↔A7 (fun b u=>P (f b) u) l us:=by
 intro l
 induction l with
 |nil=>exact Iff.rfl
 |cons b l ih=>exact exists_congr fun u=>exists_congr fun ws=>and_congr_right fun _=>and_congr_right fun _=>ih
theorem A7.ext:∀{us:List Value},us.length=l.length->(∀(j:Nat) d u,l[j]?=some d->us[j]?=some u->P d u)->A7 P l us:=by
 induction l with
 |nil=>exact fun e _=>List.length_eq_zero_iff.mp e
 |cons y l ih=>
  intro us e k
  cases us with
  |nil=>cases e
  |cons u us=>exact⟨u,us,rfl,k 0 y u rfl rfl,ih (Nat.succ.inj e) fun j=>k (j+1)⟩
end
structure MonoF(T T':Sm):Prop where
 F:∀a,T.M.F a->T'.M.F a
 keep:∀a o,T.M.F a->T.s.heap.get? a=some o->T'.s.heap.get? a=some o
theorem MonoF.seq{T T':Sm}(m:MonoF T T'){ty:String}{a:Addr}{us:List Value}(f:T.M.F a)(h:T.seq ty a us):T'.seq ty a us:=h.imp fun n e=>m.keep a _ f e
structure Mono(T T':Sm):Prop where
 F:∀a,T.M.F a->T'.M.F a
 keep:∀a o,T.M.F a->T.s.heap.get? a=some o->T'.s.heap.get? a=some o
 ad:T.M.ad <+: T'.M.ad
theorem Mono.refl(T:Sm):Mono T T:=⟨fun _ f=>f,fun _ _ _ e=>e,Bw _⟩
theorem Mono.trans{T T' T'':Sm}(a:Mono T T')(b:Mono T' T''):Mono T T'':=⟨fun x f=>b.F x (a.F x f),fun x o f e=>b.keep x o (a.F x f) (a.keep x o f e),a.ad.trans b.ad⟩
theorem Mono.seq{T T':Sm}(m:Mono T T'){ty:String}{a:Addr}{us:List Value}(f:T.M.F a)(h:T.seq ty a us):T'.seq ty a us:=h.imp fun n e=>m.keep a _ f e
theorem Mono.loc{T T':Sm}(m:Mono T T'){n:Nat}{a:Addr}(h:T.M.ad[n]?=some a):T'.M.ad[n]?=some a:=by
 obtain⟨t,e⟩:=m.ad
 rw[<-e]
 exact(KG (FC.mp h).1).trans h
section
variable{I:Iota}{T T':Sm}{u:Value}
theorem Go:∀{l:List D} {us:List Value},Do I T l us↔A7 (AR I T) l us:=by
 intro l
 induction l with
 |nil=>exact Iff.rfl
 |cons d l ih=>exact exists_congr fun u=>exists_congr fun ws=>and_congr_right fun _=>and_congr_right fun _=>ih
theorem RM:∀{l:List V} {us:List Value},Kf I T l us↔A7 (AA I T) l us:=by
 intro l
 induction l with
 |nil=>exact Iff.rfl
 |cons d l ih=>exact exists_congr fun u=>exists_congr fun ws=>and_congr_right fun _=>and_congr_right fun _=>ih
theorem AR.num_k{q:Bool×Int}{P:Value->Prop}(h:AR I T (DO q) u)(k:∀t,P (.int (I.f q.1 q.2) t)):P u:=by
 obtain⟨b,i⟩:=q
 cases b <;> (obtain⟨t,rfl⟩:=h;exact k t)
theorem AR.num(q:Bool×Int)(t:Tok):AR I T (DO q) (.int (I.f q.1 q.2) t):=by
 obtain⟨b,i⟩:=q
 cases b <;> exact⟨t,rfl⟩
theorem AR.tup_k{l:List D}{P:Value->Prop}(h:AR I T (.tup l) u)(k:∀a us,T.M.F a->T.seq "tuple" a us->l.length<=lim->A7 (AR I T) l us->P (.ref a)):P u:=by
 obtain⟨a,us,rfl,f,e,z,r⟩:=h
 exact k a us f e z (Go.mp r)
theorem AR.lst_k{l:List D}{P:Value->Prop}(h:AR I T (.lst l) u)(k:∀a us,T.M.F a->T.seq "list" a us->l.length<=lim->A7 (AR I T) l us->P (.ref a)):P u:=by
 obtain⟨a,us,rfl,f,e,z,r⟩:=h
 exact k a us f e z (Go.mp r)
theorem AA.tup_k{l:List V}{P:Value->Prop}(h:AA I T (.tup l) u)(k:∀a us,T.M.F a->T.seq "tuple" a us->l.length<=lim->A7 (AA I T) l us->P (.ref a)):P u:=by
 obtain⟨a,us,rfl,f,e,z,r⟩:=h
 exact k a us f e z (RM.mp r)
theorem AA.loc_k{n:Nat}{P:Value->Prop}(h:AA I T (.loc n) u)(k:∀a,T.M.ad[n]?=some a->P (.ref a)):P u:=by
 obtain⟨a,e,rfl⟩:=h
 exact k a e
theorem AR.monoF(m:MonoF T T'){d:D}{v:Value}:AR I T d v->AR I T' d v:=
 D.rec (motive_1:=fun d=>∀v,AR I T d v->AR I T' d v) (motive_2:=fun l=>∀us,Do I T l us->Do I T' l us) (fun _=>id) (fun _ _=>id) (fun _ _=>id) (fun _ _=>id) (fun _ _=>id)
  (fun _ ih _=>Exists.imp fun a=>Exists.imp fun us=>And.imp_right fun h=>⟨m.F a h.1,m.seq h.1 h.2.1,h.2.2.1,ih us h.2.2.2⟩)
  (fun _ ih _=>Exists.imp fun a=>Exists.imp fun us=>And.imp_right fun h=>⟨m.F a h.1,m.seq h.1 h.2.1,h.2.2.1,ih us h.2.2.2⟩)
  (fun _=>id) (fun _ _ p q _=>Exists.imp fun u=>Exists.imp fun ws=>And.imp_right (And.imp (p u) (q ws))) d v
theorem AR.mono(m:Mono T T'){d:D}{v:Value}(h:AR I T d v):AR I T' d v:=h.monoF ⟨m.F,m.keep⟩
theorem AA.mono(m:Mono T T'){d:V}{v:Value}:AA I T d v->AA I T' d v:=
 V.rec (motive_1:=fun d=>∀v,AA I T d v->AA I T' d v) (motive_2:=fun l=>∀us,Kf I T l us->Kf I T' l us) (fun _ _=>AR.mono m) (fun _ _=>Exists.imp fun _=>And.imp_left m.loc)
  (fun _ ih _=>Exists.imp fun a=>Exists.imp fun us=>And.imp_right fun h=>⟨m.F a h.1,m.seq h.1 h.2.1,h.2.2.1,ih us h.2.2.2⟩)
  (fun _=>id) (fun _ _ p q _=>Exists.imp fun u=>Exists.imp fun ws=>And.imp_right (And.imp (p u) (q ws))) d v
theorem A7.mono(m:Mono T T'){l:List V}{us:List Value}(h:A7 (AA I T) l us):A7 (AA I T') l us:=h.imp fun _ _=>AA.mono m
theorem A7.monoD(m:Mono T T'){l:List D}{us:List Value}(h:A7 (AR I T) l us):A7 (AR I T') l us:=h.imp fun _ _=>AR.mono m
theorem JF{v:V}{d:D}{P:V->Prop}(h:Gg v=some d)(k:P (.d d)):P v:=by
 cases v <;> cases h
 exact k
theorem Gp{l:List V}{ds:List D}{P:List V->Prop}(h:C3 l=some ds)(k:P (ds.map V.d)):P l:=by
 have:l=ds.map V.d:=by
  induction l generalizing ds P with
  |nil=>cases h;rfl
  |cons v l ih=>
   cases v with
   |d x=>
    cases e:C3 l with
    |none=>
     have h':(C3 l).map (x::·)=some ds:=h
     rw[e] at h';cases h'
    |some es=>
     have h':(C3 l).map (x::·)=some ds:=h
     rw[e] at h'
     cases h'
     exact A2 (V.d x::·) (ih (P:=fun _=>True) e trivial)
   |_=>cases h
 rw[this];exact k
end
open PySem PyProof.Rows
noncomputable def Mm.W(M:Mm)(a:Addr):Prop:=a∈M.gp.flatten
noncomputable def Al(h:Heap)(a:Addr):Prop:=∃o,h.get? a=some o
noncomputable def FA(env:Env)(a:Addr):Prop:=a=env.locals\/∃x,env.cells.lookup x=some a
theorem Al.lt{h:Heap}{a:Addr}(x:Al h a):a < h.objs.size:=x.elim fun _ e=>Co e
theorem EU(h:Heap):¬Al h h.objs.size:=fun x=>FF _ x.lt
structure Cx where
 prog:Program
 w:World
 C:Addr
 hB:Heap
 I:Iota
 G:Gl
 mg:Str->Option Value
 mb:Str->Option Value
structure Fx where
 fn:Fn
 env:Env
noncomputable def BC(I:Iota)(T:Sm)(b:Bool):List (Int×V)->List (Int×Value)->Prop
 |[],vs=>vs=[]
 |p::r,vs=>∃v ws,vs=(I.f b p.1,v)::ws/\AA I T p.2 v/\BC I T b r ws
noncomputable def DR(P:Params)(I:Iota)(T:Sm):List (Str×V)->List DictEntry->Prop
 |[],es=>es=[]
 |p::r,es=>∃t v es',es=⟨PyData.keyHash P p.1,.str p.1 t,v⟩::es'/\AA I T p.2 v/\DR P I T r es'
structure InsAt(X:Cx)(T:Sm)(a dx:Addr)(fs:List (Str×V))(es:List DictEntry)(n:Nat):Prop where
 obj:T.s.heap.get? a=some { cls:=.ref X.C,dict:=some dx,data:=.plain }
 dict:T.s.heap.get? dx=some { cls:=.type "dict",data:=.dict (List.toArray es) n }
 rep:DR X.w.params X.I T fs es
 nod:(fs.map (·.1)).Nodup
 len:fs.length<=8
noncomputable def E5(X:Cx)(T:Sm)(a:Addr)(g:List Addr):Cell->Prop
 |.lst l=>g=[a]/\∃us,T.seq "list" a us/\A7 (AA X.I T) l us/\l.length<=lim
 |.froz l=>g=[]/\AR X.I T (.lst l) (.ref a)
 |.dct b es=>g=[a]/\∃kvs,T.s.heap.DictOf (intKind X.prog X.w) a kvs/\BC X.I T b es kvs/\es.length<=lim
 |.fdct b es=>g=[]/\T.M.F a/\(a == sysModules)=false/\∃kvs,T.s.heap.DictOf (intKind X.prog X.w) a kvs/\BC X.I T b es kvs/\es.length<=lim
 |.inst fs=>∃dx es n,g=[a,dx]/\InsAt X T a dx fs es n
structure Mid(X:Cx)(σ:List Cell)(T:Sm):Prop where
 top:∀b o,X.hB.get? b=some o->T.s.heap.get? b=some o
 base:∀a,Al X.hB a->T.M.F a
 fal:∀a,T.M.F a->Al T.s.heap a
 fw:∀a,T.M.F a->¬T.M.W a
 la:T.M.ad.length=σ.length
 lg:T.M.gp.length=σ.length
 nod:T.M.gp.flatten.Nodup
 cell:∀(l:Nat) (c:Cell),σ[l]?=some c->∃a g,T.M.ad[l]?=some a/\T.M.gp[l]?=some g/\E5 X T a g c
inductive Has(I:Iota)(F:Fx)(vars:List (Str×V))(T:Sm):Prop where
 |mk (m cm:Str->Option Value):T.s.heap.Ns F.env.locals m->(∀x c,F.env.cells.lookup x=some c->T.s.heap.IsCell c (cm x))->(∀x v,AG x vars=some v->∃u,AA I T v u/\((F.env.kindOf x=some .local/\m x=some u)\/((F.env.kindOf x=some .cell\/F.env.kindOf x=some .free)/\cm x=some u)))->Has I F vars T
structure Frm(I:Iota)(F:Fx)(vars:List (Str×V))(T:Sm):Prop where
 kind:F.env.scope.kind=.function
 dbg:F.fn.names.lookup ("__debug__" : Str)=.none/\F.fn.names.lookup ("__classdict__" : Str)=.none
 loc:∀x,F.fn.names.lookup x=some .local->F.env.kindOf x=some .local
 cel:∀x,F.fn.names.lookup x=some .cell->F.env.kindOf x=some .cell
 fre:∀x,F.fn.names.lookup x=some .free->F.env.kindOf x=some .cell\/F.env.kindOf x=some .free
 glo:∀x,F.fn.names.lookup x=some .globalImplicit->F.env.kindOf x=some .globalImplicit
 glb:F.env.globals=mainGlobals
 blt:F.env.builtins=builtinsNs
 cells:∀x,(F.env.kindOf x=some .cell\/F.env.kindOf x=some .free)->∃c,F.env.cells.lookup x=some c
 apart:∀x y c,F.env.cells.lookup x=some c->F.env.cells.lookup y=some c->x=y
 above:∀x c,F.env.cells.lookup x=some c->c≠F.env.locals
 has:Has I F vars T
structure Inv(X:Cx)(F:Fx)(st:St)(T:Sm):Prop where
 mid:Mid X st.store T
 ffa:∀a,FA F.env a->¬T.M.F a/\¬T.M.W a
 frm:Frm X.I F st.vars T
structure Ext(Z:Addr->Prop)(T T':Sm):Prop where
 sh:∃h' tk,T'.s={ T.s with heap:=h',toks:=tk }
 keep:∀a o,T.s.heap.get? a=some o->¬Z a->T'.s.heap.get? a=some o
 al:∀a,Al T.s.heap a->Al T'.s.heap a
 F:∀a,T.M.F a->T'.M.F a
 fnew:∀a,T'.M.F a->T.M.F a\/T.M.W a\/¬Al T.s.heap a
 wnew:∀a,T'.M.W a->T.M.W a\/¬Al T.s.heap a
 ad:T.M.ad <+: T'.M.ad
noncomputable def Wa(F:Fx)(T:Sm)(a:Addr):Prop:=T.M.W a\/FA F.env a
noncomputable def FS(F:Fx)(a:Addr):Prop:=a=F.env.locals\/∃x,F.fn.names.lookup x=some .cell/\F.env.cells.lookup x=some a
noncomputable def Wr(F:Fx)(T:Sm)(a:Addr):Prop:=T.M.W a\/FS F a
structure AE(X:Cx)(F:Fx)(T:Sm)(st:St)(T':Sm):Prop where
 ext:Ext T.M.W T T'
 mono:Mono T T'
 inv:Inv X F st T'
structure AftS(X:Cx)(F:Fx)(T:Sm)(st:St)(T':Sm):Prop where
 ext:Ext (Wr F T) T T'
 mono:Mono T T'
 inv:Inv X F st T'
noncomputable def Sm.hp(T:Sm)(h:Heap)(tk:Nat):Sm:=⟨{ T.s with heap:=h,toks:=tk },T.M⟩
noncomputable def Sm.mm(T:Sm)(M:Mm):Sm:=⟨T.s,M⟩
section
variable{X:Cx}{F:Fx}{T T' T'':Sm}{st st':St}{σ:List Cell}{Z Z':Addr->Prop}{I:Iota}{h:Heap}{tk:Nat}{P:Params}
theorem FS.fa{a:Addr}(h:FS F a):FA F.env a:=h.imp_right fun q=>q.imp fun _ q=>q.2
theorem Wr.wa{a:Addr}(h:Wr F T a):Wa F T a:=h.imp_right FS.fa
theorem BC.mono(m:Mono T T'){b:Bool}:∀{es:List (Int×V)} {kvs:List (Int×Value)},BC I T b es kvs->BC I T' b es kvs:=by
 intro es
 induction es with
 |nil=>exact id
 |cons p es ih=>exact Exists.imp fun v=>Exists.imp fun ws=>And.imp_right (And.imp (AA.mono m) ih)
theorem DR.mono(m:Mono T T'):∀{es:List (Str×V)} {kvs:List DictEntry},DR P I T es kvs->DR P I T' es kvs:=by
 intro es
 induction es with
 |nil=>exact id
 |cons p es ih=>exact Exists.imp fun t=>Exists.imp fun v=>Exists.imp fun ws=>And.imp_right (And.imp (AA.mono m) ih)
theorem InsAt.mono{a dx:Addr}{fs:List (Str×V)}{es:List DictEntry}{n:Nat}(m:Mono T T')(hk:∀b o,b=a\/b=dx->T.s.heap.get? b=some o->T'.s.heap.get? b=some o)(x:InsAt X T a dx fs es n):InsAt X T' a dx fs es n:=
 ⟨hk _ _ (.inl rfl) x.obj,hk _ _ (.inr rfl) x.dict,x.rep.mono m,x.nod,x.len⟩
theorem E5.mono{a:Addr}{g:List Addr}(m:Mono T T')(hk:∀b o,b∈g->T.s.heap.get? b=some o->T'.s.heap.get? b=some o):∀{c:Cell},E5 X T a g c->E5 X T' a g c:=by
 intro c
 cases c with
 |lst l=>rintro⟨e,us,⟨n,o⟩,r,z⟩;exact⟨e,us,⟨n,hk _ _ (by rw[e];exact DE a) o⟩,r.mono m,z⟩
 |froz l=>exact And.imp_right (AR.mono m)
 |dct b es=>rintro⟨e,kvs,d,r,z⟩;exact⟨e,kvs,d.at fun o=>hk _ o (by rw[e];exact DE a),r.mono m,z⟩
 |fdct b es=>rintro⟨e,f,ns,kvs,d,r,z⟩;exact⟨e,m.F _ f,ns,kvs,d.at fun o=>m.keep _ o f,r.mono m,z⟩
 |inst fs=>rintro⟨dx,es,n,e,r⟩;exact⟨dx,es,n,e,r.mono m fun b o q=>hk b o (by rw[e];exact Au.mpr (q.imp_right Ar.mpr))⟩
theorem E5.al{a b:Addr}{g:List Addr}(hb:b∈g):∀{c:Cell},E5 X T a g c->Al T.s.heap b:=by
 intro c
 cases c with
 |lst l=>rintro⟨rfl,us,⟨n,o⟩,_⟩;rw[Ar.mp hb];exact⟨_,o⟩
 |froz l=>rintro⟨rfl,_⟩;cases hb
 |dct _ es=>rintro⟨rfl,kvs,⟨o,_,_,e,_⟩,_⟩;rw[Ar.mp hb];exact⟨o,e⟩
 |fdct _ es=>rintro⟨rfl,_⟩;cases hb
 |inst fs=>rintro⟨dx,es,n,rfl,r⟩;exact(Au.mp hb).elim (fun q=>q▸⟨_,r.obj⟩) fun q=>Ar.mp q▸⟨_,r.dict⟩
theorem Mm.W_of{M:Mm}{l:Nat}{g:List Addr}{a:Addr}(hg:M.gp[l]?=some g)(ha:a∈g):M.W a:=List.mem_flatten.mpr ⟨g,Fa hg,ha⟩
theorem Mid.wal(x:Mid X σ T){a:Addr}(ha:T.M.W a):Al T.s.heap a:=by
 obtain⟨g,hg,hm⟩:=List.mem_flatten.mp ha
 obtain⟨l,hl,e⟩:=List.getElem_of_mem hg
 obtain⟨b,g',_,e2,c⟩:=x.cell l _ (D3 (x.lg▸hl))
 cases (D3 hl).symm.trans e2
 exact c.al (e▸hm)
theorem Inv.wal(x:Inv X F st T){a:Addr}(ha:T.M.W a):Al T.s.heap a:=x.mid.wal ha
theorem Inv.faal(x:Inv X F st T){a:Addr}(ha:FA F.env a):Al T.s.heap a:=by
 obtain⟨m,cm,⟨o,es,ep,hn,_⟩,hc,_⟩:=x.frm.has
 cases ha with
 |inl e=>exact e▸⟨o,hn⟩
 |inr q=>exact q.elim fun y hy=>(hc y a hy).elim fun o q=>⟨o,q.1⟩
theorem Inv.fr(x:Inv X F st T){a:Addr}(f:T.M.F a):¬Wa F T a:=fun q=>q.elim (x.mid.fw a f) fun q=>(x.ffa a q).1 f
theorem Ext.trans(x:Ext Z T T')(y:Ext Z' T' T'')(hY:∀a,Z' a->Z a\/¬Al T.s.heap a):Ext Z T T'' where
 sh:=by
  obtain⟨h,t,e⟩:=x.sh
  obtain⟨h',t',e'⟩:=y.sh
  exact⟨h',t',by rw[e',e]⟩
 keep a o e n:=y.keep a o (x.keep a o e n) fun q=>(hY a q).elim n fun k=>k ⟨o,e⟩
 al a e:=y.al a (x.al a e)
 F a e:=y.F a (x.F a e)
 fnew a e:=(y.fnew a e).elim (x.fnew a) fun q=>.inr (q.elim (x.wnew a) fun q=>.inr fun k=>q (x.al a k))
 wnew a e:=(y.wnew a e).elim (x.wnew a) fun q=>.inr fun k=>q (x.al a k)
 ad:=x.ad.trans y.ad
theorem Ext.weaken(x:Ext Z T T')(h:∀a,Z a->Z' a\/¬Al T.s.heap a):Ext Z' T T':=
 ⟨x.sh,fun a o e n=>x.keep a o e fun q=>(h a q).elim n fun k=>k ⟨o,e⟩,x.al,x.F,x.fnew,x.wnew,x.ad⟩
theorem Ext.mono(x:Ext Z T T')(hX:∀a,T.M.F a->¬Z a):Mono T T':=⟨x.F,fun a o f e=>x.keep a o e (hX a f),x.ad⟩
theorem AE.trans(a:AE X F T st T')(b:AE X F T' st' T''):AE X F T st' T'':=
 ⟨a.ext.trans b.ext a.ext.wnew,a.mono.trans b.mono,b.inv⟩
theorem AE.s(a:AE X F T st T'):AftS X F T st T':=⟨a.ext.weaken fun _ q=>.inl (.inl q),a.mono,a.inv⟩
theorem AftS.trans(a:AftS X F T st T')(b:AftS X F T' st' T''):AftS X F T st' T'':=
 ⟨a.ext.trans b.ext fun x q=>q.elim (fun q=>(a.ext.wnew x q).imp_left .inl) fun q=>.inl (.inr q),a.mono.trans b.mono,b.inv⟩
theorem Ext.hp(Z:Addr->Prop)(hk:∀b o,¬Z b->T.s.heap.get? b=some o->h.get? b=some o)(hal:∀b,Z b->Al T.s.heap b->Al h b):Ext Z T (T.hp h tk):=
 ⟨⟨h,tk,rfl⟩,fun a o e n=>hk a o n e,fun a q=>(Classical.em (Z a)).elim (fun z=>hal a z q) fun z=>q.imp fun o e=>hk a o z e,fun _ f=>f,fun _ f=>.inl f,fun _ f=>.inl f,Bw _⟩
theorem Frm.mono{vars:List (Str×V)}(x:Frm I F vars T)(m:Mono T T')(hk:∀b o,FA F.env b->T.s.heap.get? b=some o->T'.s.heap.get? b=some o):Frm I F vars T':=
 { x with has:=by obtain⟨m',cm,q1,q2,q3⟩:=x.has;exact⟨m',cm,q1.at' fun o e=>hk _ o (.inl rfl) e,fun y c hy=>(q2 y c hy).imp fun o e=>⟨hk _ o (.inr ⟨y,hy⟩) e.1,e.2⟩,fun y v hy=>(q3 y v hy).imp fun u r=>⟨r.1.mono m,r.2⟩⟩ }
theorem Mid.hp(x:Mid X σ T)(hk:∀b o,T.M.F b\/T.M.W b->T.s.heap.get? b=some o->h.get? b=some o):Mid X σ (T.hp h tk) where
 top b o e:=hk b o (.inl (x.base b ⟨o,e⟩)) (x.top b o e)
 base:=x.base
 fal a f:=(x.fal a f).imp fun o e=>hk a o (.inl f) e
 fw:=x.fw
 la:=x.la
 lg:=x.lg
 nod:=x.nod
 cell l c e:=(x.cell l c e).imp fun a q=>q.imp fun g q=>⟨q.1,q.2.1,E5.mono (T:=T) (T':=T.hp h tk) ⟨fun _ f=>f,fun a o f=>hk a o (.inl f),Bw _⟩ (fun b o m=>hk b o (.inr (Mm.W_of q.2.1 m))) q.2.2⟩
theorem Inv.hp(x:Inv X F st T)(hk:∀b o,T.M.F b\/T.M.W b\/FA F.env b->T.s.heap.get? b=some o->h.get? b=some o):Inv X F st (T.hp h tk):=
 ⟨x.mid.hp fun b o q=>hk b o (q.imp_right .inl),x.ffa,x.frm.mono ⟨fun _ f=>f,fun a o f=>hk a o (.inl f),Bw _⟩ fun b o q=>hk b o (.inr (.inr q))⟩
theorem AE.refl(x:Inv X F st T):AE X F T st T:=⟨⟨⟨_,_,rfl⟩,fun _ _ e _=>e,fun _ e=>e,fun _ e=>e,fun _ e=>.inl e,fun _ e=>.inl e,Bw _⟩,.refl T,x⟩
theorem AE.grow(x:Inv X F st T)(hk:∀b o,T.s.heap.get? b=some o->h.get? b=some o):AE X F T st (T.hp h tk):=
 ⟨.hp _ (fun b o _=>hk b o) fun b _ q=>q.imp fun o=>hk b o,⟨fun _ f=>f,fun a o _=>hk a o,Bw _⟩,x.hp fun b o _=>hk b o⟩
theorem AE.tok(x:Inv X F st T)(tk:Nat):AE X F T st (T.hp T.s.heap tk):=.grow x fun _ _ e=>e
noncomputable def Mm.frz(M:Mm)(P:Addr->Prop):Mm:={ M with F:=fun a=>M.F a\/P a }
theorem Mono.frz(P:Addr->Prop):Mono T (T.mm (T.M.frz P)):=⟨fun _ f=>.inl f,fun _ _ _ e=>e,Bw _⟩
theorem Inv.frz(x:Inv X F st T){P:Addr->Prop}(hP:∀a,P a->Al T.s.heap a/\¬Wa F T a):Inv X F st (T.mm (T.M.frz P)) where
 mid:={ x.mid with
  base:=fun a f=>.inl (x.mid.base a f)
  fal:=fun a f=>f.elim (x.mid.fal a) fun p=>(hP a p).1
  fw:=fun a f=>f.elim (x.mid.fw a) fun p q=>(hP a p).2 (.inl q)
  cell:=fun l c e=>(x.mid.cell l c e).imp fun a q=>q.imp fun g q=>⟨q.1,q.2.1,q.2.2.mono (.frz P) fun b o _ e=>e⟩ }
 ffa a f:=⟨fun q=>q.elim (x.ffa a f).1 fun p=>(hP a p).2 (.inr f),(x.ffa a f).2⟩
 frm:=x.frm.mono (.frz P) fun b o _ e=>e
theorem AE.frz(x:AE X F T st T'){P:Addr->Prop}(hP:∀a,P a->Al T'.s.heap a/\¬Wa F T' a/\¬Al T.s.heap a):AE X F T st (T'.mm (T'.M.frz P)):=
 ⟨⟨x.ext.sh,x.ext.keep,x.ext.al,fun a f=>.inl (x.ext.F a f),fun a f=>f.elim (x.ext.fnew a) fun p=>.inr (.inr (hP a p).2.2),x.ext.wnew,x.ext.ad⟩,x.mono.trans (.frz P),x.inv.frz fun a p=>⟨(hP a p).1,(hP a p).2.1⟩⟩
noncomputable def Mm.new(M:Mm)(a:Addr)(g:List Addr):Mm:={ M with ad:=M.ad++[a],gp:=M.gp++[g] }
theorem Mm.new_W{M:Mm}{a b:Addr}{g:List Addr}:(M.new a g).W b↔M.W b\/b∈g:=by simp only [Mm.W,Mm.new,List.flatten_append,List.flatten_cons,List.flatten_nil,As,Bv]
theorem Mono.new(a:Addr)(g:List Addr):Mono T (T.mm (T.M.new a g)):=⟨fun _ f=>f,fun _ _ _ e=>e,List.prefix_append _ _⟩
theorem getElem?_snoc{α:Type}{l:List α}{x y:α}{n k:Nat}(hk:l.length=k)(h:(l++[x])[n]?=some y):(n < k/\l[n]?=some y)\/(n=k/\x=y):=by
 subst hk
 by_cases hn:n < l.length
 ·exact .inl ⟨hn,(KG hn).symm.trans h⟩
 ·rw[HX (C2.mp hn)] at h
  cases e:n - l.length with
  |zero=>rw[e] at h;cases h;exact .inr ⟨Fe (Nat.sub_eq_zero_iff_le.mp e) (C2.mp hn),rfl⟩
  |succ m=>rw[e] at h;cases h
theorem Mid.new(x:Mid X σ T){a:Addr}{g:List Addr}{c:Cell}(hg:∀b∈g,¬T.M.F b/\¬T.M.W b)(hn:g.Nodup)(hc:E5 X (T.mm (T.M.new a g)) a g c):Mid X (σ++[c]) (T.mm (T.M.new a g)) where
 top:=x.top
 base:=x.base
 fal:=x.fal
 fw b f q:=(Mm.new_W.mp q).elim (x.fw b f) fun q=>(hg b q).1 f
 la:=by show(T.M.ad++[a]).length=_;rw[AC,AC,x.la];rfl
 lg:=by show(T.M.gp++[g]).length=_;rw[AC,AC,x.lg];rfl
 nod:=by
  show(T.M.gp++[g]).flatten.Nodup
  rw[List.flatten_append,List.flatten_cons,List.flatten_nil,As]
  exact FD.mpr ⟨x.nod,hn,fun b hb b' hb' e=>(hg b' hb').2 (e▸hb)⟩
 cell l c' e:=(getElem?_snoc rfl e).elim
  (fun w=>(x.cell l c' w.2).imp fun a' q=>q.imp fun g' q=>⟨(KG (x.la▸w.1)).trans q.1,(KG (x.lg▸w.1)).trans q.2.1,q.2.2.mono (.new a g) fun b o _ e=>e⟩)
  fun w=>⟨a,g,by rw[w.1,<-x.la];exact Gd,by rw[w.1,<-x.lg];exact Gd,w.2▸hc⟩
theorem Ext.new(x:Ext Z T T'){a:Addr}{g:List Addr}(h:∀b∈g,¬Al T.s.heap b):Ext Z T (T'.mm (T'.M.new a g)):=
 ⟨x.sh,x.keep,x.al,x.F,x.fnew,fun b f=>(Mm.new_W.mp f).elim (x.wnew b) fun q=>.inr (h b q),x.ad.trans (List.prefix_append _ _)⟩
theorem AE.new(x:AE X F T st T'){a:Addr}{g:List Addr}{c:Cell}(hg:∀b∈g,¬T'.M.F b/\¬Wa F T' b/\¬Al T.s.heap b)(hn:g.Nodup)(hc:E5 X (T'.mm (T'.M.new a g)) a g c):AE X F T (st.add c) (T'.mm (T'.M.new a g)) where
 ext:=x.ext.new fun b q=>(hg b q).2.2
 mono:=x.mono.trans (.new a g)
 inv:=⟨x.inv.mid.new (fun b q=>⟨(hg b q).1,fun w=>(hg b q).2.1 (.inl w)⟩) hn hc,fun b f=>⟨(x.inv.ffa b f).1,fun q=>(Mm.new_W.mp q).elim (x.inv.ffa b f).2 fun q=>(hg b q).2.1 (.inr f)⟩,x.inv.frm.mono (.new a g) fun b o _ e=>e⟩
theorem X9:∀{gs:List (List Addr)} {l k:Nat} {g e:List Addr} {a:Addr},gs.flatten.Nodup->gs[l]?=some g->gs[k]?=some e->a∈g->a∈e->l=k:=by
 intro gs
 induction gs with
 |nil=>exact fun _ h=>by cases h
 |cons q gs ih=>
  intro l k g e a hn hl hk ha hb
  obtain⟨_,h2,h3⟩:=FD.mp (List.flatten_cons▸hn)
  cases l with
  |zero=>
   cases k with
   |zero=>rfl
   |succ k=>cases hl;exact absurd rfl (h3 a ha a (List.mem_flatten.mpr ⟨e,Fa hk,hb⟩))
  |succ l=>
   cases k with
   |zero=>cases hk;exact absurd rfl (h3 a hb a (List.mem_flatten.mpr ⟨g,Fa hl,ha⟩))
   |succ k=>exact A2 (·+1) (ih h2 hl hk ha hb)
theorem getElem?_set_some{α:Type}{l:List α}{x y:α}{n k:Nat}(h:(l.set n x)[k]?=some y):(n=k/\x=y)\/(n≠k/\l[k]?=some y):=by
 by_cases e:n=k
 ·subst e
  have:=(FC.mp h).1
  rw[List.getElem?_set_self (List.length_set▸this)] at h
  exact .inl ⟨rfl,Option.some.inj h⟩
 ·exact .inr ⟨e,(List.getElem?_set_ne e).symm.trans h⟩
theorem Mid.upd(x:Mid X σ T){l:Nat}{a:Addr}{g:List Addr}{c:Cell}(hg:T.M.gp[l]?=some g)(ha:T.M.ad[l]?=some a)
 (hk:∀b o,b∉g->T.s.heap.get? b=some o->h.get? b=some o) (hc:E5 X (T.hp h tk) a g c):Mid X (σ.set l c) (T.hp h tk) where
 top b o e:=hk b o (fun q=>x.fw b (x.base b ⟨o,e⟩) (Mm.W_of hg q)) (x.top b o e)
 base:=x.base
 fal b f:=(x.fal b f).imp fun o e=>hk b o (fun q=>x.fw b f (Mm.W_of hg q)) e
 fw:=x.fw
 la:=x.la.trans List.length_set.symm
 lg:=x.lg.trans List.length_set.symm
 nod:=x.nod
 cell k c' e:=(getElem?_set_some e).elim (fun w=>⟨a,g,w.1▸ha,w.1▸hg,w.2▸hc⟩) fun w=>(x.cell k c' w.2).imp fun a' q=>q.imp fun g' q=>
  ⟨q.1,q.2.1,E5.mono (T:=T) (T':=T.hp h tk) ⟨fun _ f=>f,fun b o f=>hk b o fun q=>x.fw b f (Mm.W_of hg q),Bw _⟩ (fun b o m=>hk b o fun q'=>w.1 (X9 x.nod hg q.2.1 q' m)) q.2.2⟩
theorem AE.upd(x:Inv X F st T){l:Nat}{a:Addr}{g:List Addr}{c:Cell}(hg:T.M.gp[l]?=some g)(ha:T.M.ad[l]?=some a)
 (hk:∀b o,b∉g->T.s.heap.get? b=some o->h.get? b=some o) (hal:∀b∈g,Al h b) (hc:E5 X (T.hp h tk) a g c):AE X F T (st.put l c) (T.hp h tk) where
 ext:=⟨⟨h,tk,rfl⟩,fun b o e n=>hk b o (fun q=>n (Mm.W_of hg q)) e,fun b q=>(Classical.em (b∈g)).elim (hal b) fun z=>q.imp fun o e=>hk b o z e,fun _ f=>f,fun _ f=>.inl f,fun _ f=>.inl f,Bw _⟩
 mono:=⟨fun _ f=>f,fun b o f=>hk b o fun q=>x.mid.fw b f (Mm.W_of hg q),Bw _⟩
 inv:=⟨x.mid.upd hg ha hk hc,x.ffa,x.frm.mono ⟨fun _ f=>f,fun b o f=>hk b o fun q=>x.mid.fw b f (Mm.W_of hg q),Bw _⟩ fun b o f=>hk b o fun q=>(x.ffa b f).2 (Mm.W_of hg q)⟩
theorem RN{α:Type}{x y:Str}{v:α}(l:List (Str×α)):AG y (AS x v l)=if y=x then some v else AG y l:=by
 induction l with
 |nil=>rfl
 |cons p l ih=>
  show AG y (if x=p.1 then(x,v)::l else p::AS x v l)=if y=x then some v else if y=p.1 then some p.2 else AG y l
  by_cases h:x=p.1
  ·rw[A5 h]
   show(if y=x then some v else AG y l)=_
   by_cases hy:y=x
   ·rw[A5 hy,A5 hy]
   ·rw[A3 hy,A3 hy,A3 (h▸hy)]
  ·rw[A3 h]
   show(if y=p.1 then some p.2 else AG y (AS x v l))=_
   by_cases hy:y=p.1
   ·rw[A5 hy,A3 (hy▸Ne.symm h),A5 hy]
   ·rw[A3 hy,A3 hy,ih]
theorem XA{L:Addr}{m m':Str->Option Value}(a:h.Ns L m)(b:h.Ns L m'):m=m':=by
 obtain⟨o1,es1,ep1,a1,a2,a3,a4⟩:=a
 obtain⟨o2,es2,ep2,b1,b2,b3,b4⟩:=b
 cases a1.symm.trans b1
 cases a2.symm.trans b2
 exact funext fun z=>(a4 z).symm.trans (b4 z)
theorem AftS.name(x:Inv X F st T){c:Addr}(hcs:FS F c)(hs:Heap.SameBut c T.s.heap h)(hal:Al h c){y:Str}{v:V}(hf:Frm X.I F (AS y v st.vars) (T.hp h tk)):AftS X F T (st.set y v) (T.hp h tk):=by
 have hc:=hcs.fa
 have hne:∀b,T.M.F b\/T.M.W b->b≠c:=fun b f q=>f.elim (x.ffa c hc |>.1 <|q▸·) (x.ffa c hc |>.2 <|q▸·)
 have hk:∀b o,T.M.F b\/T.M.W b->T.s.heap.get? b=some o->h.get? b=some o:=fun b o q e=>(hs.2 b (hne b q)).trans e
 exact⟨⟨⟨h,tk,rfl⟩,fun b o e n=>(hs.2 b fun q=>n (.inr (q▸hcs))).trans e,fun b q=>(Classical.em (b=c)).elim (fun z=>z▸hal) fun z=>q.imp fun o e=>(hs.2 b z).trans e,fun _ f=>f,fun _ f=>.inl f,fun _ f=>.inl f,Bw _⟩,
  ⟨fun _ f=>f,fun b o f=>hk b o (.inl f),Bw _⟩,⟨x.mid.hp hk,x.ffa,hf⟩⟩
theorem Frm.set{m cm m' cm':Str->Option Value}(x:Inv X F st T){y:Str}{v:V}{u:Value}{c:Addr}(hc:FA F.env c)(hs:Heap.SameBut c T.s.heap h)(hv:AA X.I T v u)
 (hn:h.Ns F.env.locals m') (hcs:∀z d,F.env.cells.lookup z=some d->h.IsCell d (cm' z))
 (hy:(F.env.kindOf y=some .local/\m' y=some u)\/((F.env.kindOf y=some .cell\/F.env.kindOf y=some .free)/\cm' y=some u)) (hm:∀z,z≠y->m' z=m z/\cm' z=cm z)
 (old:∀z v,AG z st.vars=some v->∃u,AA X.I T v u/\((F.env.kindOf z=some .local/\m z=some u)\/((F.env.kindOf z=some .cell\/F.env.kindOf z=some .free)/\cm z=some u))):Frm X.I F (AS y v st.vars) (T.hp h tk):=by
 have mo:Mono T (T.hp h tk):=⟨fun _ f=>f,fun b o f e=>(hs.2 b fun q=>(x.ffa c hc).1 (q▸f)).trans e,Bw _⟩
 refine { x.frm with has:=⟨m',cm',hn,hcs,fun z w hz=>?_⟩ }
 rw[RN] at hz
 by_cases e:z=y
 ·rw[A5 e] at hz
  cases hz
  exact⟨u,hv.mono mo,e▸hy⟩
 ·rw[A3 e] at hz
  rw[(hm z e).1,(hm z e).2]
  exact(old z w hz).imp fun u q=>⟨q.1.mono mo,q.2⟩
theorem AftS.setLocal(x:Inv X F st T){y:Str}{v:V}{u:Value}{m:Str->Option Value}(hl:F.fn.names.lookup y=some .local)
 (hm:T.s.heap.Ns F.env.locals m) (hn:h.Ns F.env.locals (fun z=>if z=y then some u else m z)) (hs:Heap.SameBut F.env.locals T.s.heap h) (hv:AA X.I T v u):AftS X F T (st.set y v) (T.hp h tk):=by
 obtain⟨m',cm,hn',hc,old⟩:=x.frm.has
 cases XA hn' hm
 exact .name x (.inl rfl) hs (hn.imp fun o q=>q.elim fun _ q=>q.elim fun _ q=>q.1) (Frm.set (m:=m) (cm:=cm) x (.inl rfl) hs hv hn (fun z c hz=>(hc z c hz).sameBut hs (x.frm.above z c hz)) (.inl ⟨x.frm.loc y hl,A5 rfl⟩) (fun z hz=>⟨A3 hz,rfl⟩) old)
theorem AftS.setCell(x:Inv X F st T){y:Str}{v:V}{u:Value}{c:Addr}(hy:F.fn.names.lookup y=some .cell)
 (hc:F.env.cells.lookup y=some c) (hn:h.IsCell c (some u)) (hs:Heap.SameBut c T.s.heap h) (hv:AA X.I T v u):AftS X F T (st.set y v) (T.hp h tk):=by
 obtain⟨m,cm,hn',hcs,old⟩:=x.frm.has
 refine .name x (.inr ⟨y,hy,hc⟩) hs (hn.imp fun o q=>q.1) (Frm.set (m:=m) (cm:=cm) (m':=m) (cm':=fun z=>if z=y then some u else cm z) x (.inr ⟨y,hc⟩) hs hv (hn'.sameBut hs (Ne.symm (x.frm.above y c hc))) (fun z d hz=>?_) (.inr ⟨.inl (x.frm.cel y hy),A5 rfl⟩) (fun z hz=>⟨rfl,A3 hz⟩) old)
 by_cases e:z=y
 ·cases e
  cases hc.symm.trans hz
  rw[A5 rfl]
  exact hn
 ·rw[A3 e]
  exact(hcs z d hz).sameBut hs fun q=>e (x.frm.apart z y d hz (q▸hc))
end
open PySem PyProof.Rows
section
variable{I:Iota}{b:Bool}{i j:Int}
theorem Iota.lt(h:i < j):I.f b i < I.f b j:=by
 cases b with
 |false=>exact h
 |true=>exact Int.add_lt_add_left h _
theorem Iota.lt_iff:I.f b i < I.f b j↔i < j:=
 ⟨fun h=>Int.not_le.mp fun q=>(Int.le_iff_lt_or_eq.mp q).elim (fun q=>Int.lt_asymm h (Iota.lt q)) fun q=>Int.lt_irrefl _ (q▸h),Iota.lt⟩
theorem Iota.le_iff:I.f b i<=I.f b j↔i<=j:=by rw[<-E1,<-E1,Iota.lt_iff]
theorem Iota.inj(h:I.f b i=I.f b j):i=j:=Int.le_antisymm ((Iota.le_iff).mp (Int.le_of_eq h)) ((Iota.le_iff).mp (Int.le_of_eq h.symm))
end
mutual
noncomputable def E9(I:Iota):D->PyData
 |.none=>.none
 |.bool b=>.bool b
 |.int i=>.int i
 |.key k=>.int (I.f true k)
 |.str s=>.str s
 |.tup l=>.tuple (EV I l)
 |.lst l=>.list (EV I l)
noncomputable def EV(I:Iota):List D->List PyData
 |[]=>[]
 |d::r=>E9 I d::EV I r
end
structure Lk(h:Heap)(v:Value)(p:PyData)(n:Nat):Prop where
 reads:∃as,Reads h v p as
 lay:p.canLay0=true
 dep:p.depth<=n
structure Lks(h:Heap)(v:List Value)(p:List PyData)(n:Nat):Prop where
 reads:∃as,ReadsAll h v p as
 lay:PyData.canLayAll0 p=true
 dep:PyData.depthAll p<=n
section
variable{I:Iota}{T:Sm}
theorem RO{l:List D}{d:D}{n:Nat}{vs:List Value}(p:∀v,AR I T d v->Be d n=true->Lk T.s.heap v (E9 I d) n)(q:∀ws,Do I T l ws->Cp l n=true->Lks T.s.heap ws (EV I l) n)(x:Do I T (d::l) vs)(h:Cp (d::l) n=true):Lks T.s.heap vs (EV I (d::l)) n:=by
 obtain⟨v,ws,rfl,x,r⟩:=x
 have hh:=Bb.mp (show(Be d n&&Cp l n)=true from h)
 have p:=p v x hh.1
 have q:=q ws r hh.2
 exact⟨p.reads.elim fun as x=>q.reads.elim fun bs y=>⟨_,.cons x y⟩,Bb.mpr ⟨p.lay,q.lay⟩,Nat.max_le.mpr ⟨p.dep,q.dep⟩⟩
theorem AR.lk{d:D}{v:Value}{n:Nat}(x:AR I T d v)(h:Be d n=true):Lk T.s.heap v (E9 I d) n:=by
 refine D.rec (motive_1:=fun d=>∀n v,AR I T d v->Be d n=true->Lk T.s.heap v (E9 I d) n) (motive_2:=fun l=>∀n vs,Do I T l vs->Cp l n=true->Lks T.s.heap vs (EV I l) n) ?_ ?_ ?_ ?_ ?_ ?_ ?_ ?_ ?_ d n v x h <;> clear x h
 ·intro n v e _;cases e;exact⟨⟨_,.none⟩,rfl,BK _⟩
 ·intro _ n v _ h;cases h
 ·intro i n v e _;obtain⟨t,rfl⟩:=e;exact⟨⟨_,.int _ t⟩,rfl,BK _⟩
 ·intro i n v e _;obtain⟨t,rfl⟩:=e;exact⟨⟨_,.int _ t⟩,rfl,BK _⟩
 ·intro i n v e _;obtain⟨t,rfl,k⟩:=e;exact⟨⟨_,.str _ t⟩,k,BK _⟩
 ·intro l ih n v e h
  cases n with
  |zero=>cases h
  |succ n=>
   obtain⟨a,us,rfl,_,⟨m,o⟩,_,r⟩:=e
   have q:=ih n us r h
   exact⟨q.reads.elim fun as x=>⟨as,reads_tuple_at o rfl rfl x⟩,q.lay,by show PyData.depthAll _+1<=n+1;exact DH q.dep⟩
 ·intro l ih n v e h
  cases n with
  |zero=>cases h
  |succ n=>
   obtain⟨a,us,rfl,_,⟨m,o⟩,_,r⟩:=e
   have q:=ih n us r h
   exact⟨q.reads.elim fun as x=>⟨_,reads_list_at o rfl rfl x⟩,q.lay,by show PyData.depthAll _+1<=n+1;exact DH q.dep⟩
 ·intro n vs e _;cases e;exact⟨⟨_,.nil⟩,rfl,BK _⟩
 ·exact fun d l p q n vs=>RO (p n) (q n)
theorem Do.lks{l:List D}{vs:List Value}{n:Nat}:Do I T l vs->Cp l n=true->Lks T.s.heap vs (EV I l) n:=by
 induction l generalizing vs with
 |nil=>intro e _;cases e;exact⟨⟨_,.nil⟩,rfl,BK _⟩
 |cons d l ih=>exact RO (fun v=>AR.lk) (fun ws=>ih)
end
theorem Lk.shaped{h:Heap}{v:Value}{p:PyData}(k:Lk h v p 30):SeqAt.shaped p=true:=
 Bb.mpr ⟨k.lay,Ae (A9 k.dep (by decide))⟩
theorem RP{I:Iota}{a b:D}{c:Bool}(h:CW a b=some c):PyData.eqv (E9 I a) (E9 I b)=c:=by
 refine D.rec (motive_1:=fun a=>∀b c,CW a b=some c->PyData.eqv (E9 I a) (E9 I b)=c) (motive_2:=fun a=>∀b c,FG a b=some c->PyData.eqvAll (EV I a) (EV I b)=c) ?_ ?_ ?_ ?_ ?_ ?_ ?_ ?_ ?_ a b c h <;> clear h
 ·intro b c h;cases b <;> cases h <;> rfl
 ·intro _ b c h;cases h
 ·intro i b c h;cases b <;> cases h <;> rfl
 ·intro i b c h
  cases b with
  |key j=>
   cases h
   show decide (I.f true i=I.f true j)=decide (i=j)
   exact decide_eq_decide.mpr ⟨Iota.inj,A2 _⟩
  |_=>cases h <;> rfl
 ·intro i b c h
  cases b with
  |str j=>cases h;show(i == j)=decide (i=j);exact Bool.eq_iff_iff.mpr (by rw[beq_iff_eq,decide_eq_true_eq])
  |_=>cases h <;> rfl
 ·intro l ih b c h
  cases b with
  |tup k=>exact ih k c h
  |_=>cases h <;> rfl
 ·intro l ih b c h
  cases b with
  |lst k=>exact ih k c h
  |_=>cases h <;> rfl
 ·intro b c h;cases b <;> cases h <;> rfl
 ·intro d l p q b c h
  cases b with
  |nil=>cases h;rfl
  |cons e k=>
   cases x:CW d e with
   |none=>have h':=(A2 (Option.bind · _) x).symm.trans h;cases h'
   |some b=>
    have h':=(A2 (Option.bind · _) x).symm.trans h
    show(PyData.eqv (E9 I d) (E9 I e)&&PyData.eqvAll (EV I l) (EV I k))=c
    rw[p e b x]
    cases b with
    |true=>exact q k c h'
    |false=>exact Option.some.inj h'
open PySem PyProof.Rows PySem.Calls
section
variable{α β:Type}{x:Option α}{y:β}{P:Prop}{C:β->Prop}
theorem nK(h:(Option.none:Option β)=some y):P:=by cases h
theorem Eo{α:Type}{a:α}(h:a∈([]:List α)):P:=absurd h B3
theorem bK{f:α->Option β}(h:x.bind f=some y)(k:∀a,x=some a->f a=some y->P):P:=by
 cases x with
 |none=>cases h
 |some a=>exact k a rfl h
theorem mQ{f:α->β}(h:x.map f=some y)(k:C y)(c:∀a,x=some a->C (f a)->P):P:=by
 cases x with
 |none=>cases h
 |some a=>cases h;exact c a rfl k
theorem mK{f:α->β}(h:x.map f=some y)(c:∀a,x=some a->C (f a)):C y:=by
 cases x with
 |none=>cases h
 |some a=>cases h;exact c a rfl
theorem sQ{z:β}(h:some z=some y)(k:C y):C z:=by
 cases h;exact k
theorem iK{b:Bool}{z:Option β}(h:(if b=true then z else .none)=some y)(k:b=true->z=some y->P):P:=by
 cases b with
 |true=>exact k rfl h
 |false=>cases h
theorem pK{c:Prop}[Decidable c]{z:Option β}(h:(if c then z else .none)=some y)(k:c->z=some y->P):P:=
 (Decidable.em c).elim (fun hc=>k hc ((A5 hc).symm.trans h)) fun hc=>nK ((A3 hc).symm.trans h)
theorem eK{c:Prop}[Decidable c]{z z':Option β}(h:(if c then z else z')=some y)(k:c->z=some y->P)(k':z'=some y->P):P:=
 (Decidable.em c).elim (fun hc=>k hc ((A5 hc).symm.trans h)) fun hc=>k' ((A3 hc).symm.trans h)
theorem oK{f:α->Option β}{b:Option β}(h:Av x f b=some y)(k:∀a,x=some a->f a=some y->P)(k':x=.none->b=some y->P):P:=by
 cases x with
 |none=>exact k' rfl h
 |some a=>exact k a rfl h
theorem cK{b:Bool}{z z':Option β}(h:cond b z z'=some y)(k:b=true->z=some y->P)(k':b=false->z'=some y->P):P:=by
 cases b with
 |true=>exact k rfl h
 |false=>exact k' rfl h
theorem Ad{a b:Bool}(h:(a&&b)=true)(k:a=true->b=true->P):P:=k (Bb.mp h).1 (Bb.mp h).2
theorem BP{c:Prop}[Decidable c](h:decide c=true):c:=DI h
end
noncomputable def JG:List (Str×Value):=[("len",.builtin "len"),("list",.type "list"),("tuple",.type "tuple"),("sorted",.builtin "sorted"),
 ("max",.builtin "max"),("min",.builtin "min"),("sum",.builtin "sum"),("type",.type "type"),("int",.type "int"),("dict",.type "dict"),("range",.type "range"),("enumerate",.type "enumerate"),("set",.type "set")]
structure FnAt(h:Heap)(a:Addr)(f:Fn)(o:Obj)(fd:FuncData):Prop where
 at_:h.get? a=some o
 dat:o.data=.func fd
 body:fd.body=.stmts f.body
 names:fd.scope.names=f.names
 kind:fd.scope.kind=.function
 dbg:f.names.lookup ("__debug__" : Str)=.none/\f.names.lookup ("__classdict__" : Str)=.none
 co:fd.scope.isCoroutine=false
 gen:fd.scope.isGenerator=false
 clo:fd.closure=[]
 glb:fd.globals=mainGlobals
 blt:fd.builtins=builtinsNs
 code:h.CodeRec fd.code fd.qualname
 bind:∀vs:List Value,vs.length=f.params.length->bindArgs fd ⟨vs,[]⟩=pure (f.params.zip vs)
 kinds:f.params.all (fun x=>f.names.lookup x == some .local||f.names.lookup x == some .cell)=true
 cells:(f.names.map (·.1)).Nodup
 free:f.names.all (fun x=>!(x.2 == .free))=true
 pnod:f.params.Nodup
structure Top(X:Cx):Prop where
 nolim:X.hB.NoLimit
 g:X.hB.Ns mainGlobals X.mg
 b:X.hB.Ns builtinsNs X.mb
 tabs:∀x d,AG x X.G.tabs=some d->∃v,X.mg x=some v/\∀{T:Sm},(∀b o,X.hB.get? b=some o->T.s.heap.get? b=some o)->(∀a,Al X.hB a->T.M.F a)->AR X.I T d v
 fns:∀x f,AG x X.G.fns=some f->∃a o fd,X.mg x=some (.ref a)/\FnAt X.hB a f o fd
 blt:∀x v,JG.lookup x=some v->AG x X.G.fns=.none->AG x X.G.tabs=.none->x≠X.G.cls->X.mg x=.none/\X.mb x=some v
 sysm:Al X.hB sysModules
structure AO(A:Around)(n:Nat):Prop where
 h:A.handled=.none
 d:A.depth+n < recursionLimit
 u:A.units+8*n+300 < cLine
theorem AO.less{A:Around}{n m:Nat}(h:AO A n)(hm:m<=n):AO A m:=⟨h.h,Aa (C9 hm _) h.d,Aa (EP (C9 (Nat.mul_le_mul_left 8 hm) _) _) h.u⟩
structure Own(X:Cx)(F:Fx)(T T':Sm)(a:Addr)(l:List V)(us:List Value):Prop where
 new:¬Al T.s.heap a
 nf:¬T'.M.F a
 nw:¬Wa F T' a
 obj:T'.seq "list" a us
 rep:A7 (AA X.I T') l us
 len:l.length<=lim
noncomputable def RR(X:Cx)(F:Fx)(T T':Sm):R->Value->Prop
 |.val v,u=>AA X.I T' v u
 |.fresh l,u=>∃a us,u=.ref a/\Own X F T T' a l us
noncomputable def KR(X:Cx)(F:Fx)(T:Sm)(Q:Value->Shared->Prop)(p:R×St):Prop:=∀u T',AE X F T p.2 T'->RR X F T T' p.1 u->Q u T'.s
noncomputable def KV(X:Cx)(F:Fx)(T:Sm)(Q:Value->Shared->Prop)(p:V×St):Prop:=∀u T',AE X F T p.2 T'->AA X.I T' p.1 u->Q u T'.s
noncomputable def KT(X:Cx)(F:Fx)(T:Sm)(Q:Bool->Shared->Prop)(p:Bool×St):Prop:=∀T',AE X F T p.2 T'->Q p.1 T'.s
noncomputable def KU(X:Cx)(F:Fx)(T:Sm)(Q:Unit->Shared->Prop)(st:St):Prop:=∀T',AftS X F T st T'->Q () T'.s
noncomputable def RQ(X:Cx)(F:Fx)(T T':Sm):Fl->Flow->Prop
 |.next,f=>f=.next
 |.ret r,f=>∃u,f=.ret u/\RR X F T T' r u
noncomputable def KX(X:Cx)(F:Fx)(T:Sm)(Q:Flow->Shared->Prop)(p:Fl×St):Prop:=∀fl T',AftS X F T p.2 T'->RQ X F T T' p.1 fl->Q fl T'.s
noncomputable def WP(X:Cx)(A:Around){α:Type}(c:Sem α)(Q:α->Shared->Prop)(E:Value->Shared->Prop)(T:Sm):Prop:=wpAny (model X.prog X.w) A c Q E T.s
structure OwnC(X:Cx)(T T':Sm)(a:Addr)(l:List V)(us:List Value):Prop where
 new:¬Al T.s.heap a
 nf:¬T'.M.F a
 nw:¬T'.M.W a
 obj:T'.seq "list" a us
 rep:A7 (AA X.I T') l us
 len:l.length<=lim
noncomputable def RC(X:Cx)(T T':Sm):R->Value->Prop
 |.val v,u=>AA X.I T' v u
 |.fresh l,u=>∃a us,u=.ref a/\OwnC X T T' a l us
structure AftC(X:Cx)(T:Sm)(σ:List Cell)(T':Sm):Prop where
 ext:Ext T.M.W T T'
 mid:Mid X σ T'
noncomputable def KC(X:Cx)(T:Sm)(Q:Result->Shared->Prop)(p:R×List Cell):Prop:=∀u T',AftC X T p.2 T'->RC X T T' p.1 u->Q (.ok (.ret u)) T'.s
noncomputable def XB(X:Cx)(o:Ops)(n:Nat):Prop:=∀{F:Fx} {e:Expr} {st:St} {p:R×St} {A:Around} {T:Sm} {Q:Value->Shared->Prop} {E:Value->Shared->Prop},
 AO A n->o.ev F.fn e st=some p->Inv X F st T->KR X F T Q p->WP X A (eval e F.env) Q E T
noncomputable def XC(X:Cx)(o:Ops)(n:Nat):Prop:=∀{F:Fx} {e:Expr} {st:St} {p:Bool×St} {A:Around} {T:Sm} {Q:Bool->Shared->Prop} {E:Value->Shared->Prop},
 AO A n->o.tt F.fn e st=some p->Inv X F st T->KT X F T Q p->WP X A (isTrue e F.env (eval e F.env)) Q E T
noncomputable def XD(X:Cx)(o:Ops)(n:Nat):Prop:=∀{F:Fx} {ss:List Stmt} {st:St} {p:Fl×St} {A:Around} {T:Sm} {Q:Flow->Shared->Prop} {E:Value->Shared->Prop},
 AO A n->o.ex F.fn ss st=some p->Inv X F st T->KX X F T Q p->WP X A (execs ss F.env) Q E T
noncomputable def XE(X:Cx)(o:Ops)(n:Nat):Prop:=∀{f:Fn} {fa:Addr} {fo:Obj} {fd:FuncData} {vs:List V} {us:List Value} {σ:List Cell} {p:R×List Cell} {A:Around} {T:Sm} {Q:Result->Shared->Prop},
 AO A n->o.call f vs σ=some p->FnAt T.s.heap fa f fo fd->Mid X σ T->A7 (AA X.I T) vs us->KC X T Q p->codeAny (model X.prog X.w) A (.call (.ref fa) ⟨us,[]⟩) Q T.s
structure Snd(X:Cx)(o:Ops)(n:Nat):Prop where
 star:∀fn v p st,o.ev fn (.Starred v p) st=.none
 set:∀fn es k p st,o.ev fn (.Set es k p) st=.none
 setc:∀fn e gs sc p st,o.ev fn (.SetComp e gs sc p) st=.none
 dctc:∀fn e f gs sc p st,o.ev fn (.DictComp e f gs sc p) st=.none
 ev:XB X o n
 tt:XC X o n
 ex:XD X o n
 call:XE X o n
section
variable{X:Cx}{F:Fx}{o:Ops}{n:Nat}{st st':St}{A:Around}{T T' T'':Sm}{Q:Value->Shared->Prop}{E:Value->Shared->Prop}{e:Expr}{r:R}{u:Value}{v:V}
theorem RR.mono(x:RR X F T T' r u)(a:AE X F T' st T''):RR X F T T'' r u:=by
 cases r with
 |val v=>exact AA.mono a.mono x
 |fresh l=>
  exact x.imp fun b q=>q.imp fun us q=>⟨q.1,q.2.new,fun f=>(a.ext.fnew b f).elim q.2.nf fun f=>f.elim (fun f=>q.2.nw (.inl f)) fun f=>f (q.2.obj.elim fun _ e=>⟨_,e⟩),
   fun f=>f.elim (fun f=>(a.ext.wnew b f).elim (fun f=>q.2.nw (.inl f)) fun f=>f (q.2.obj.elim fun _ e=>⟨_,e⟩)) fun f=>q.2.nw (.inr f),q.2.obj.imp fun n e=>a.ext.keep b _ e fun q'=>q.2.nw (.inl q'),q.2.rep.mono a.mono,q.2.len⟩
theorem RR.older(x:RR X F T' T'' r u)(a:∀b,Al T.s.heap b->Al T'.s.heap b):RR X F T T'' r u:=by
 cases r with
 |val v=>exact x
 |fresh l=>exact x.imp fun b q=>q.imp fun us q=>⟨q.1,{ q.2 with new:=fun f=>q.2.new (a b f) }⟩
theorem KR.then{p:R×St}(k:KR X F T Q p)(a:AE X F T st T'):KR X F T' Q p:=fun u T'' b q=>k u T'' (a.trans b) (q.older a.ext.al)
theorem KT.then{p:Bool×St}{Q:Bool->Shared->Prop}(k:KT X F T Q p)(a:AE X F T st T'):KT X F T' Q p:=fun T'' b=>k T'' (a.trans b)
theorem KU.then{Q:Unit->Shared->Prop}(k:KU X F T Q st')(a:AftS X F T st T'):KU X F T' Q st':=fun T'' b=>k T'' (a.trans b)
theorem KX.then{p:Fl×St}{Q:Flow->Shared->Prop}(k:KX X F T Q p)(a:AftS X F T st T'):KX X F T' Q p:=fun f T'' b q=>k f T'' (a.trans b) (by
 cases p with
 |mk p st=>
  cases p with
  |next=>exact q
  |ret r=>exact q.imp fun u q=>⟨q.1,q.2.older a.ext.al⟩)
theorem AE.own_frz(x:AE X F T st T'){a:Addr}{ds:List D}{us:List Value}(q:Own X F T T' a (ds.map .d) us):AE X F T st (T'.mm (T'.M.frz (·=a)))/\AA X.I (T'.mm (T'.M.frz (·=a))) (.d (.lst ds)) (.ref a):=
 ⟨x.frz fun b e=>e▸⟨q.obj.elim fun _ e=>⟨_,e⟩,q.nw,q.new⟩,a,us,rfl,.inr rfl,q.obj,(A4 (as:=ds) V.d)▸q.len,Go.mpr (A7.map (f:=V.d) (P:=AA X.I (T'.mm (T'.M.frz (·=a)))) |>.mp (q.rep.mono (.frz _)))⟩
theorem AE.own_new(x:AE X F T st T'){a:Addr}{l:List V}{us:List Value}(q:Own X F T T' a l us):AE X F T (st.add (.lst l)) (T'.mm (T'.M.new a [a]))/\AA X.I (T'.mm (T'.M.new a [a])) (.loc st.store.length) (.ref a):=
 ⟨x.new (fun b e=>Ar.mp e▸⟨q.nf,q.nw,q.new⟩) (BZ.mpr ⟨B3,Ca⟩) ⟨rfl,us,q.obj,q.rep.mono (.new _ _),q.len⟩,a,by rw[<-x.inv.mid.la];exact Gd,rfl⟩
theorem RS{b:Bool}{p:R×St}{q:V×St}{P:Prop}(a:AE X F T p.2 T')(hr:RR X F T T' p.1 u)(he:Nf b p.1 p.2=some q)(k:∀T'',T''.s=T'.s->(∀c,u≠.ref c->(T''.M.F c->T'.M.F c)/\(T''.M.W c->T'.M.W c))->AE X F T q.2 T''->AA X.I T'' q.1 u->P):P:=by
 obtain⟨r,st⟩:=p
 cases r with
 |val v=>cases he;exact k T' rfl (fun _ _=>⟨id,id⟩) a hr
 |fresh l=>
  obtain⟨c,us,rfl,hr⟩:=hr
  refine cK he (fun _ he=>?_) fun _ he=>?_
  ·cases he
   exact k (T'.mm (T'.M.new c [c])) rfl (fun d hd=>⟨id,fun q=>(Mm.new_W.mp q).elim id fun q=>absurd (by rw[Ar.mp q]) hd⟩) (a.own_new hr).1 (a.own_new hr).2
  ·refine mQ (C:=fun q=>∀T'',T''.s=T'.s->(∀d,Value.ref c≠.ref d->(T''.M.F d->T'.M.F d)/\(T''.M.W d->T'.M.W d))->AE X F T q.2 T''->AA X.I T'' q.1 (.ref c)->P) he k fun ds hd k=>?_
   refine Gp (P:=fun l=>Own X F T T' c l us->P) hd (fun hr=>?_) hr
   exact k (T'.mm (T'.M.frz (·=c))) rfl (fun d hd=>⟨fun q=>q.elim id fun q=>absurd (by rw[show d=c from q]) hd,id⟩) (a.own_frz hr).1 (a.own_frz hr).2
theorem FL{β:Type}{f:R×St->Option β}{y:β}(H:Snd X o n)(hA:AO A n)(i:Inv X F st T)(he:(o.ev F.fn e st).bind f=some y)
 (k:∀p u T',AE X F T p.2 T'->RR X F T T' p.1 u->f p=some y->Q u T'.s):WP X A (eval e F.env) Q E T:=
 bK he fun p h1 he=>H.ev hA h1 i fun u T' a q=>k p u T' a q he
theorem JH{b:Bool}{p:V×St}(H:Snd X o n)(hA:AO A n)(i:Inv X F st T)(he:Ej o b F.fn e st=some p)(k:KV X F T Q p):WP X A (eval e F.env) Q E T:=
 FL H hA i he fun p u T' a q he=>RS a q he fun T'' e _ a q=>e▸k u T'' a q
theorem JI{q:Bool×Int}{P:V->Prop}(h:Lb v=some q)(k:P (.d (DO q))):P v:=by
 cases v with
 |d x=>cases x <;> first |(cases h;exact k) |cases h
 |_=>cases h
theorem XF{q:Bool×Int}{P:R->Prop}(h:I3 r=some q)(k:P (.val (.d (DO q)))):P r:=by
 cases r with
 |val v=>exact JI (P:=fun v=>P (.val v)) h k
 |_=>cases h
theorem RR.num_k{q:Bool×Int}{P:Value->Prop}(hr:RR X F T T' r u)(h:I3 r=some q)(k:∀t,P (.int (X.I.f q.1 q.2) t)):P u:=
 XF (P:=fun r=>RR X F T T' r u->P u) h (fun hr=>AR.num_k hr k) hr
theorem JJ{β:Type}{f:(Bool×Int)×St->Option β}{y:β}(H:Snd X o n)(hA:AO A n)(i:Inv X F st T)(he:(I6 o F.fn e st).bind f=some y)
 (k:∀q t T',AE X F T q.2 T'->f q=some y->Q (.int (X.I.f q.1.1 q.1.2) t) T'.s):WP X A (eval e F.env) Q E T:=
 bK he fun q h1 he=>FL H hA i h1 fun p u T' a r h2=>mQ (C:=fun q=>(∀t T',AE X F T q.2 T'->f q=some y->Q (.int (X.I.f q.1.1 q.1.2) t) T'.s)/\f q=some y) h2 ⟨k q,he⟩ fun c hc k=>r.num_k (P:=fun u=>Q u T'.s) hc fun t=>k.1 t T' a k.2
theorem Gq{q:Bool×Int}{j:Int}{P:Bool×Int->Prop}(h:plain q=some j)(k:P (false,j)):P q:=by
 obtain⟨b,i⟩:=q
 cases b <;> cases h
 exact k
theorem Kg{β:Type}{f:Int×St->Option β}{y:β}(H:Snd X o n)(hA:AO A n)(i:Inv X F st T)(he:(Fg o F.fn e st).bind f=some y)
 (k:∀q t T',AE X F T q.2 T'->f q=some y->Q (.int q.1 t) T'.s):WP X A (eval e F.env) Q E T:=
 bK he fun q h1 he=>JJ H hA i h1 fun p t T' a h2=>mQ (C:=fun q=>(∀t T',AE X F T q.2 T'->f q=some y->Q (.int q.1 t) T'.s)/\f q=some y) h2 ⟨k q,he⟩ fun c hc k=>
  Gq (P:=fun q=>Q (.int (X.I.f q.1 q.2) t) T'.s) hc (k.1 t T' a k.2)
theorem Nu{β:Type}{f:Int×St->β}{y:β}(H:Snd X o n)(hA:AO A n)(i:Inv X F st T)(he:(Fg o F.fn e st).map f=some y){C:β->Prop}(c:C y)
 (k:∀q t T',AE X F T q.2 T'->C (f q)->Q (.int q.1 t) T'.s):WP X A (eval e F.env) Q E T:=
 mQ he c fun q h1 c=>Kg H hA i (f:=some) (y:=q) (A2 (Option.bind · some) h1) fun q' t T' a e=>by cases e;exact k q t T' a c
noncomputable def Vw.Is(e:Expr):Vw->Prop
 |.name x=>∃p,e=.Name x p
 |.tup es=>∃c p,e=.Tuple es c p
 |.sub b i=>∃p,e=.Subscript b i p
 |.slc a b=>∃p,e=.Slice a b .none p
 |.call f as=>∃p q,e=.Call (.Name f p) as [] q
 |.no=>∃k p,e=.Constant .none k p
 |.lc=>∃a b c d,e=.ListComp a b c d
 |.other=>True
theorem IM(e:Expr):(Dk e).Is e:=by
 cases e with
 |Name x p=>exact⟨p,rfl⟩
 |Tuple es c p=>exact⟨c,p,rfl⟩
 |Subscript b i p=>exact⟨p,rfl⟩
 |Slice a b c p=>cases c with
  |none=>exact⟨p,rfl⟩
  |some _=>exact trivial
 |Call f as ks q=>cases ks with
  |nil=>cases f with
   |Name g p=>exact⟨p,q,rfl⟩
   |_=>exact trivial
  |cons _ _=>exact trivial
 |Constant c k p=>cases c with
  |none=>exact⟨k,p,rfl⟩
  |_=>exact trivial
 |ListComp a b c d=>exact⟨a,b,c,d,rfl⟩
 |_=>exact trivial
theorem XG{ab:Option Expr×Option Expr}{C:Expr->Prop}(h:IH e=some ab)(k:∀p,C (.Slice ab.1 ab.2 .none p)):C e:=by
 have q:=IM e
 revert h q
 unfold IH
 generalize Dk e=z
 intro h q
 cases z <;> first |exact nK h |cases h
 obtain⟨p,rfl⟩:=q
 exact k p
theorem Nv{fa:Str×List Expr}{C:Expr->Prop}(h:II e=some fa)(k:∀p q,C (.Call (.Name fa.1 p) fa.2 [] q)):C e:=by
 have q:=IM e
 revert h q
 unfold II
 generalize Dk e=z
 intro h q
 cases z <;> first |exact nK h |cases h
 obtain⟨p,q,rfl⟩:=q
 exact k p q
theorem JK{x:Str}{C:Expr->Prop}(h:FH e=some x)(k:∀p,C (.Name x p)):C e:=by
 have q:=IM e
 revert h q
 unfold FH
 generalize Dk e=z
 intro h q
 cases z <;> first |exact nK h |cases h
 obtain⟨p,rfl⟩:=q
 exact k p
theorem Nw{es:List Expr}{C:Expr->Prop}(h:He e=some es)(k:∀c p,C (.Tuple es c p)):C e:=by
 have q:=IM e
 revert h q
 unfold He
 generalize Dk e=z
 intro h q
 cases z <;> first |exact nK h |cases h
 obtain⟨c,p,rfl⟩:=q
 exact k c p
theorem XH{b:Expr×Expr}{C:Expr->Prop}(h:Ni e=some b)(k:∀p,C (.Subscript b.1 b.2 p)):C e:=by
 have q:=IM e
 revert h q
 unfold Ni
 generalize Dk e=z
 intro h q
 cases z <;> first |exact nK h |cases h
 obtain⟨p,rfl⟩:=q
 exact k p
theorem XI{C:Expr->Prop}(h:KO e=true)(k:∀c p,C (.Constant .none c p)):C e:=by
 have q:=IM e
 revert h q
 unfold KO
 generalize Dk e=z
 intro h q
 cases z <;> cases h
 obtain⟨c,p,rfl⟩:=q
 exact k c p
theorem XJ{C:Expr->Prop}(h:Gk e=true)(k:∀a b c d,C (.ListComp a b c d)):C e:=by
 have q:=IM e
 revert h q
 unfold Gk
 generalize Dk e=z
 intro h q
 cases z <;> cases h
 obtain⟨a,b,c,d,rfl⟩:=q
 exact k a b c d
theorem Ep{α:Type}{l:List α}{x:α}{C:List α->Prop}(h:one l=some x)(k:C [x]):C l:=by
 cases l with
 |nil=>cases h
 |cons y l=>cases l <;> cases h;exact k
theorem IN{α:Type}{l:List α}{x:α×α}{C:List α->Prop}(h:Hf l=some x)(k:C [x.1,x.2]):C l:=by
 cases l with
 |nil=>cases h
 |cons y l=>
  cases l with
  |nil=>cases h
  |cons z l=>cases l <;> cases h;exact k
theorem Gs{α:Type}{l:List α}{C:List α->Prop}(h:l.isEmpty=true)(k:C []):C l:=by
 cases l with
 |nil=>exact k
 |cons _ _=>cases h
theorem Nx{l:Nat}{P:V->Prop}(h:Lc v=some l)(k:P (.loc l)):P v:=by
 cases v <;> cases h
 exact k
theorem XK{l:Nat}{P:R->Prop}(h:I5 r=some l)(k:P (.val (.loc l))):P r:=by
 cases r with
 |val v=>exact Nx (P:=fun v=>P (.val v)) h k
 |_=>cases h
theorem RR.loc_k{l:Nat}{P:Value->Prop}(hr:RR X F T T' r u)(h:I5 r=some l)(k:∀a,T'.M.ad[l]?=some a->P (.ref a)):P u:=
 XK (P:=fun r=>RR X F T T' r u->P u) h (fun hr=>AA.loc_k (I:=X.I) hr k) hr
theorem Kh{β:Type}{f:Nat×St->Option β}{y:β}(H:Snd X o n)(hA:AO A n)(i:Inv X F st T)(he:(I7 o F.fn e st).bind f=some y)
 (k:∀q a T',AE X F T q.2 T'->T'.M.ad[q.1]?=some a->f q=some y->Q (.ref a) T'.s):WP X A (eval e F.env) Q E T:=
 bK he fun q h1 he=>FL H hA i h1 fun p u T' a r h2=>mQ (C:=fun q=>(∀b T',AE X F T q.2 T'->T'.M.ad[q.1]?=some b->f q=some y->Q (.ref b) T'.s)/\f q=some y) h2 ⟨k q,he⟩ fun c hc k=>r.loc_k (P:=fun u=>Q u T'.s) hc fun b e=>k.1 b T' a e k.2
theorem GG(H:Snd X o n){p:R×St}{pos:Pos}{es:List Expr}{env:Env}{fn:Fn}(h:o.ev fn e st=some p):backTo pos (starEach (e::es) env)=(false,eval e env)::backTo pos (starEach es env):=by
 cases e with
 |Starred v p=>exact nK ((H.star _ _ _ _).symm.trans h)
 |_=>rfl
noncomputable def JL(X:Cx)(F:Fx)(T:Sm)(Q:List Value->Shared->Prop)(p:List V×St):Prop:=∀us T',AE X F T p.2 T'->A7 (AA X.I T') p.1 us->Q us T'.s
theorem Ny(H:Snd X o n){pos:Pos}(hA:AO A n){es:List Expr}:∀{st:St} {T:Sm} {p:List V×St} {Q:List Value->Shared->Prop},DN o F.fn es st=some p->Inv X F st T->JL X F T Q p->WP X A (spliced (backTo pos (starEach es F.env))) Q E T:=by
 induction es with
 |nil=>exact fun he i k=>spliced_nil (sQ (C:=JL X F _ _) he k [] _ (.refl i) rfl)
 |cons e es ih=>
  intro st T p Q he i k
  refine bK he fun a h1 he=>?_
  have hb:backTo pos (starEach (e::es) F.env)=(false,eval e F.env)::backTo pos (starEach es F.env):=bK h1 fun _ h _=>GG H h
  unfold WP
  rw[hb]
  exact spliced_cons (JH H hA i h1 fun u T₁ a₁ q₁=>mQ he k fun b h2 k=>ih h2 a₁.inv fun us T₂ a₂ q₂=>k (u::us) T₂ (a₁.trans a₂) (.cons (q₁.mono a₂.mono) q₂))
theorem RT{fn:Fn}{es:List Expr}:∀{st:St} {p:List V×St},DN o fn es st=some p->p.1.length=es.length:=by
 induction es with
 |nil=>intro st p he;cases he;rfl
 |cons e es ih=>exact fun he=>bK he fun a _ he=>mK (C:=fun p=>p.1.length=es.length+1) he fun b hb=>A2 (·+1) (ih hb)
end
open PySem PyProof.Rows PySem.Calls
section
variable{X:Cx}{F:Fx}{o:Ops}{n:Nat}{st st':St}{A:Around}{T T' T'':Sm}{Q:Value->Shared->Prop}{E:Value->Shared->Prop}{e:Expr}{r:R}{u:Value}{v:V}{σ:List Cell}{a:Addr}{l:List V}{us:List Value}{P:Prop}
theorem JM:lim<=sizeLine:=by decide
theorem M0:(lim:Int) < 2 ^ 63:=by decide
theorem DS(h:Heap)(o:Obj):∀b x,h.get? b=some x->(h.push o).get? b=some x:=fun _ _ e=>DZ _ e
theorem A7.lim{P:V->Value->Prop}(h:A7 P l us)(z:l.length<=lim):us.length<=sizeLine:=h.length▸A9 z JM
theorem M1(f:T.M.F a)(o:T.seq "tuple" a us)(r:A7 (AA X.I T) l us)(z:l.length<=lim):AA X.I T (EQ l) (.ref a):=by
 unfold EQ
 cases e:C3 l with
 |none=>exact⟨a,us,rfl,f,o,z,RM.mpr r⟩
 |some ds=>exact Gp (P:=fun l=>A7 (AA X.I T) l us->l.length<=lim->AA X.I T (.d (.tup ds)) (.ref a)) e (fun r z=>⟨a,us,rfl,f,o,(A4 (as:=ds) V.d)▸z,Go.mpr (A7.map (f:=V.d) (P:=AA X.I T) |>.mp r)⟩) r z
noncomputable def Sm.new(T:Sm)(h:Heap)(tk:Nat)(a:Addr):Sm:=(T.hp h tk).mm (T.M.frz (·=a))
theorem RU(i:Inv X F st T)(hr:A7 (AA X.I T) l us)(hl:l.length<=lim)(tk:Nat) :
 AE X F T st (T.new (T.s.heap.push (seqObj "tuple" us.toArray 0)) tk T.s.heap.objs.size)/\AA X.I (T.new (T.s.heap.push (seqObj "tuple" us.toArray 0)) tk T.s.heap.objs.size) (EQ l) (.ref T.s.heap.objs.size):=by
 have a:AE X F T st (T.new (T.s.heap.push (seqObj "tuple" us.toArray 0)) tk T.s.heap.objs.size):=
  (AE.grow i (tk:=tk) (DS _ _)).frz fun b e=>e▸⟨⟨_,D2 _ rfl⟩,fun q=>EU _ (q.elim i.wal i.faal),EU _⟩
 exact⟨a,M1 (.inr rfl) ⟨0,D2 _ rfl⟩ (hr.mono a.mono) hl⟩
theorem Nz(i:Inv X F st T)(hr:A7 (AA X.I T) l us)(hl:l.length<=lim){h:Heap}{tk m:Nat}(ha:¬Al T.s.heap a)(hs:h.get? a=some (seqObj "list" us.toArray m))(hk:∀b x,T.s.heap.get? b=some x->h.get? b=some x) :
 AE X F T st (T.hp h tk)/\RR X F T (T.hp h tk) (.fresh l) (.ref a):=
 have x:AE X F T st (T.hp h tk):=.grow i hk
 ⟨x,a,us,rfl,ha,fun f=>ha (i.mid.fal _ f),fun q=>ha (q.elim i.wal i.faal),⟨m,hs⟩,hr.mono x.mono,hl⟩
theorem push_lst'(i:Inv X F st T)(hr:A7 (AA X.I T) l us)(hl:l.length<=lim)(k:KR X F T Q (.fresh l,st)):Q (.ref T.s.heap.objs.size) { T.s with heap:=T.s.heap.push (seqObj "list" us.toArray 0) }:=
 have x:=Nz i hr hl (tk:=T.s.toks) (m:=0) (EU _) (D2 _ rfl) (DS T.s.heap (seqObj "list" us.toArray 0))
 k _ _ x.1 x.2
theorem push_tup'(i:Inv X F st T)(hr:A7 (AA X.I T) l us)(hl:l.length<=lim)(k:KR X F T Q (.val (EQ l),st)):Q (.ref T.s.heap.objs.size) { T.s with heap:=T.s.heap.push (seqObj "tuple" us.toArray 0) }:=
 k _ _ (RU i hr hl T.s.toks).1 (RU i hr hl T.s.toks).2
theorem Mid.cell_k(m:Mid X σ T){j:Nat}{c:Cell}(ha:T.M.ad[j]?=some a)(hc:σ[j]?=some c)(k:∀g,T.M.gp[j]?=some g->E5 X T a g c->P):P:=by
 obtain⟨b,g,p,q,r⟩:=m.cell j c hc
 cases ha.symm.trans p
 exact k g q r
theorem O0(m:Mid X σ T){j:Nat}(ha:T.M.ad[j]?=some a)(h:ER σ[j]?=some l)(k:∀us,T.seq "list" a us->A7 (AA X.I T) l us->l.length<=lim->P):P:=by
 cases hc:σ[j]? with
 |none=>rw[hc] at h;cases h
 |some c=>
  rw[hc] at h
  cases c with
  |lst l=>cases h;exact m.cell_k ha hc fun g _ q=>q.2.elim fun us q=>k us q.1 q.2.1 q.2.2
  |froz ds=>cases h;exact m.cell_k ha hc fun g _ q=>AR.lst_k (P:=fun u=>u=.ref a->P) q.2 (fun b us f o z r e=>by cases e;exact k us o (A7.map.mpr r) (A4 (as:=ds) V.d▸z)) rfl
  |_=>cases h
theorem lst_k{C:Value->Prop}(m:Mid X σ T')(hr:RR X F T T' r u)(h:CP σ r=some l)(k:∀a us,T'.seq "list" a us->A7 (AA X.I T') l us->l.length<=lim->C (.ref a)):C u:=by
 cases r with
 |fresh l=>cases h;obtain⟨a,us,rfl,q⟩:=hr;exact k a us q.obj q.rep q.len
 |val v=>
  cases v with
  |d x=>
   cases x with
   |lst ds=>cases h;exact AR.lst_k hr fun a us f o z r=>k a us o (A7.map.mpr r) (A4 (as:=ds) V.d▸z)
   |_=>cases h
  |loc j=>exact AA.loc_k (I:=X.I) hr fun a ha=>O0 m ha h (k a)
  |tup _=>cases h
theorem O1{C:Value->Prop}(hr:AA X.I T v u)(h:Ha v=some l)(k:∀a us,T.M.F a->T.seq "tuple" a us->A7 (AA X.I T) l us->l.length<=lim->C (.ref a)):C u:=by
 cases v with
 |d x=>
  cases x with
  |tup ds=>cases h;exact AR.tup_k hr fun a us f o z r=>k a us f o (A7.map.mpr r) (A4 (as:=ds) V.d▸z)
  |_=>cases h
 |tup l=>cases h;exact AA.tup_k hr fun a us f o z r=>k a us f o r z
 |loc _=>cases h
theorem tup_k{C:Value->Prop}(hr:RR X F T T' r u)(h:Hb r=some l)(k:∀a us,T'.M.F a->T'.seq "tuple" a us->A7 (AA X.I T') l us->l.length<=lim->C (.ref a)):C u:=by
 cases r with
 |val v=>exact O1 hr h k
 |fresh _=>cases h
theorem Ki{C:Value->Prop}(m:Mid X σ T')(hr:RR X F T T' r u)(h:Gh σ r=some l)(k:∀ty a us,ty ="list"\/ty ="tuple"->T'.seq ty a us->A7 (AA X.I T') l us->l.length<=lim->C (.ref a)):C u:=
 oK h (fun a h1 h2=>lst_k m hr (h1.trans h2) fun a us=>k _ a us (.inl rfl)) fun _ h=>tup_k hr h fun a us _=>k _ a us (.inr rfl)
structure DctAt(X:Cx)(T:Sm)(j:Nat)(a:Addr)(b:Bool)(es:List (Int×V))(kvs:List (Int×Value)):Prop where
 ad:T.M.ad[j]?=some a
 wf:T.M.gp[j]?=some [a]\/(a == sysModules)=false
 obj:T.s.heap.DictOf (intKind X.prog X.w) a kvs
 rep:BC X.I T b es kvs
 len:es.length<=lim
theorem M2{d:Bool×List (Int×V)}(m:Mid X σ T){j:Nat}(ha:T.M.ad[j]?=some a)(h:Hc σ[j]?=some d)(k:∀kvs,DctAt X T j a d.1 d.2 kvs->P):P:=by
 cases hc:σ[j]? with
 |none=>rw[hc] at h;cases h
 |some c=>
  rw[hc] at h
  cases c with
  |dct b es=>cases h;exact m.cell_k ha hc fun g hg q=>q.2.elim fun kvs w=>k kvs ⟨ha,.inl (q.1▸hg),w.1,w.2.1,w.2.2⟩
  |fdct b es=>cases h;exact m.cell_k ha hc fun g hg q=>q.2.2.2.elim fun kvs w=>k kvs ⟨ha,.inr q.2.2.1,w.1,w.2.1,w.2.2⟩
  |_=>cases h
theorem Kj{C:Value->Prop}{d:Bool×List (Int×V)}(m:Mid X σ T')(hr:RR X F T T' r u)(h:Ek σ r=some d)(k:∀j a kvs,DctAt X T' j a d.1 d.2 kvs->C (.ref a)):C u:=
 bK h fun j hj h=>hr.loc_k hj fun a ha=>M2 m ha h (k j a)
theorem Kk{x y:Str}(h1:F.fn.names.lookup y=.none){k:NameKind}(h2:F.fn.names.lookup x=some k):(x == y)=false:=by
 rw[beq_eq_false_iff_ne];intro e;cases e;cases h1.symm.trans h2
theorem O2{x:Str}{pos:Pos}{k:NameKind}{p:R×St}(hk:F.fn.names.lookup x=some k)(he:(AG x st.vars).map (fun v=>(R.val v,st))=some p)(i:Inv X F st T)(kk:KR X F T Q p):WP X A (eval (.Name x pos) F.env) Q E T:=by
 refine mQ he kk fun v hv kk=>?_
 obtain⟨m,cm,hn,hc,hvs⟩:=i.frm.has
 obtain⟨u,hu,q⟩:=hvs x v hv
 have fin:=kk u T (.refl i) hu
 refine wpAny_Name (q.elim (fun q=>wpAny_loadName_local i.frm.kind q.1 hn q.2 fin) fun q=>?_) (Kk i.frm.dbg.1 hk)
 obtain⟨c,hcx⟩:=i.frm.cells x q.1
 have hcell:=hc x c hcx
 rw[q.2] at hcell
 exact q.1.elim (fun q=>wpAny_loadName_cell i.frm.kind q hcx hcell fin) fun q=>wpAny_loadName_free i.frm.kind q hcx hcell fin (Kk i.frm.dbg.2 hk)
theorem XL(H:Top X){x:Str}{pos:Pos}{p:R×St}(hk:F.fn.names.lookup x=some .globalImplicit)(he:(AG x X.G.tabs).map (fun d=>(R.val (.d d),st))=some p)(i:Inv X F st T)(k:KR X F T Q p):WP X A (eval (.Name x pos) F.env) Q E T:=by
 refine mQ he k fun d hv k=>?_
 obtain⟨v,hg,hr⟩:=H.tabs x d hv
 exact Name_function_global i.frm.kind (i.frm.glo x hk) (loadGlobal_global (mg:=X.mg) (by rw[i.frm.glb];exact H.g.keeps i.mid.top) hg (k v T (.refl i) (hr i.mid.top i.mid.base))) (Kk i.frm.dbg.1 hk)
theorem XM(H:Top X){x:Str}{pos:Pos}{p:R×St}(he:IE X.G F.fn x st=some p)(i:Inv X F st T)(k:KR X F T Q p):WP X A (eval (.Name x pos) F.env) Q E T:=by
 unfold IE at he
 cases hk:F.fn.names.lookup x with
 |none=>rw[hk] at he;cases he
 |some c=>
  rw[hk] at he
  cases c with
  |globalImplicit=>exact XL H hk he i k
  |«local»=>exact O2 hk he i k
  |cell=>exact O2 hk he i k
  |free=>exact O2 hk he i k
  |_=>cases he
theorem XN{c:Const}{kk:Nat}{pos:Pos}{p:R×St}(he:R8 st c=some p)(i:Inv X F st T)(k:KR X F T Q p):WP X A (eval (.Constant c kk pos) F.env) Q E T:=by
 cases c with
 |none=>exact wpAny_Constant_none (sQ he k _ T (.refl i) rfl)
 |bool b=>exact wpAny_Constant_bool (sQ he k _ T (.refl i) rfl)
 |int j=>exact wpAny_Constant_int (sQ he k _ _ (.tok i _) ⟨_,rfl⟩)
 |str x=>exact iK he fun hx he=>Constant_str (sQ he k _ _ (.tok i _) ⟨_,rfl,hx⟩)
 |_=>cases he
theorem XO(H:Snd X o n){es:List Expr}{pos:Pos}{p:R×St}(hA:AO A n)(he:(if es.length<=lim then(DN o F.fn es st).map fun p=>(R.fresh p.1,p.2) else .none)=some p)(i:Inv X F st T)(k:KR X F T Q p):WP X A (eval (.List es pos) F.env) Q E T:=
 pK he fun hl he=>mQ he k fun q h1 k=>List_ (Ny H hA h1 i fun us T₁ a₁ q₁=>have z:q.1.length<=lim:=RT h1▸hl
  wpAny_newList (push_lst' a₁.inv q₁ z (k.then a₁)) (q₁.lim z))
theorem XQ(H:Snd X o n){es:List Expr}{kk:Nat}{pos:Pos}{p:R×St}(hA:AO A n)(he:(if es.length<=lim then(DN o F.fn es st).map fun p=>(R.val (EQ p.1),p.2) else .none)=some p)(i:Inv X F st T)(k:KR X F T Q p):WP X A (eval (.Tuple es kk pos) F.env) Q E T:=
 pK he fun hl he=>mQ he k fun q h1 k=>Tuple_ (Ny H hA h1 i fun us T₁ a₁ q₁=>have z:q.1.length<=lim:=RT h1▸hl
  wpAny_newTuple (push_tup' a₁.inv q₁ z (k.then a₁)) (q₁.lim z))
theorem XR{a b:Int}(ha:small a=true):IntMulOk a b:=by
 refine IntMulOk.of_left ?_
 unfold Builtin.Int.intBits
 split
 ·exact(by decide:0<=34) |> fun h=>by omega
 ·rename_i h
  have h0:a.natAbs≠0:=fun e=>h (by simp at e ⊢;exact e)
  have h1:a.natAbs<=4294967296:=DI ha
  have:a.natAbs.log2 < 34:=(Nat.log2_lt h0).mpr (Aa h1 (by decide))
  omega
theorem XS{a b:Int}(h:0 < b):Int.fmod a b=a%b:=Int.fmod_eq_emod_of_nonneg _ (Int.le_of_lt h)
noncomputable def Kl(I:Iota)(z:Int)(d:D):Prop:=∀T t,AR I T d (.int z t)
theorem Kl.int{I:Iota}(z:Int):Kl I z (.int z):=fun _ t=>⟨t,rfl⟩
theorem Kl.key{I:Iota}{z k:Int}(h:I.f true k=z):Kl I z (.key k):=fun _ t=>⟨t,by rw[h]⟩
theorem JN{z:Int}{d:D}(i:Inv X F st T)(k:KR X F T Q (.val (.d d),st))(h:Kl X.I z d):Q (.int z T.s.toks) { T.s with toks:=T.s.toks+1 }:=k _ _ (.tok i _) (h _ _)
theorem XT(H:Top X){op:Operator}{j:Int}{t:Tok}{x d:D}(i:Inv X F st T)(hr:AR X.I T x u)(he:Le op j x=some d)(k:KR X F T Q (.val (.d d),st)):WP X A (binaryOp op u (.int j t)) Q E T:=by
 cases x with
 |int p=>
  obtain⟨t',rfl⟩:=hr
  cases op with
  |Add=>exact wpAny_add_int (JN i k (Option.some.inj he▸.int _))
  |Sub=>exact sub_int (JN i k (Option.some.inj he▸.int _))
  |Mult=>exact iK he fun hs he=>mul_int (JN i k (Option.some.inj he▸.int _)) (XR (Bb.mp hs).1)
  |Mod=>exact pK he fun hs he=>mod_int (Int.ne_of_gt hs) (by rw[XS hs];exact JN i k (Option.some.inj he▸.int _))
  |_=>cases he
 |key p=>
  obtain⟨t',rfl⟩:=hr
  cases op with
  |Add=>exact wpAny_add_int (JN i k (Option.some.inj he▸.key (Int.add_assoc _ _ _).symm))
  |Sub=>exact sub_int (JN i k (Option.some.inj he▸.key (Int.add_sub_assoc _ _ _).symm))
  |_=>cases he
 |_=>cases he
theorem XU{a b:R}{x:R}{ua ub:Value}(i:Inv X F st T)(ha:RR X F T' T a ua)(hb:RR X F T'' T b ub){l m:List V}(hl:CP st.store a=some l)(hm:CP st.store b=some m)(hz:l.length+m.length<=lim)(k:KR X F T Q (.fresh (l++m),st)):WP X A (binaryOp .Add ua ub) Q E T:=
 lst_k (C:=fun ua=>WP X A (binaryOp .Add ua ub) Q E T) i.mid ha hl fun la us ⟨n1,o1⟩ r1 z1=>lst_k (C:=fun ub=>WP X A (binaryOp .Add (.ref la) ub) Q E T) i.mid hb hm fun lb ws ⟨n2,o2⟩ r2 z2=>by
  have hz':(l++m).length<=lim:=AC▸hz
  have r:=r1.append r2
  refine concat_meets ⟨_,o1,rfl⟩ ⟨_,o2,rfl⟩ noFill_list_add seq_list_add PySem.F.slot_list_add PySem.F.entry_list_add (PySem.F.args_list_add_2 _ _) (list_addW la lb us.toArray ws.toArray n1 n2 none none #[] #[] (by rw[<-Array.size_append,List.append_toArray];exact r.lim hz')) ⟨o1,o2,?_⟩
  rw[List.append_toArray]
  exact push_lst' i r hz' k
theorem XV{a b:R}{x:R}{ua ub:Value}(i:Inv X F st T)(ha:RR X F T' T a ua)(hb:RR X F T'' T b ub){l m:List V}(hl:Hb a=some l)(hm:Hb b=some m)(hz:l.length+m.length<=lim)(k:KR X F T Q (.val (EQ (l++m)),st)):WP X A (binaryOp .Add ua ub) Q E T:=
 tup_k (C:=fun ua=>WP X A (binaryOp .Add ua ub) Q E T) ha hl fun la us f1 ⟨n1,o1⟩ r1 z1=>tup_k (C:=fun ub=>WP X A (binaryOp .Add (.ref la) ub) Q E T) hb hm fun lb ws f2 ⟨n2,o2⟩ r2 z2=>by
  have hz':(l++m).length<=lim:=AC▸hz
  have r:=r1.append r2
  cases us with
  |nil=>
   refine concat_meets ⟨_,o1,rfl⟩ ⟨_,o2,rfl⟩ noFill_tuple_add seq_tuple_add PySem.F.slot_tuple_add PySem.F.entry_tuple_add (PySem.F.args_tuple_add_2 _ _) (tuple_addW0 la lb (List.toArray []) ws.toArray n1 n2 none none #[] #[] rfl) ⟨o1,o2,?_⟩
   exact k _ _ (.refl i) (M1 f2 ⟨n2,o2⟩ r hz')
  |cons c us=>
   cases ws with
   |nil=>
    refine concat_meets ⟨_,o1,rfl⟩ ⟨_,o2,rfl⟩ noFill_tuple_add seq_tuple_add PySem.F.slot_tuple_add PySem.F.entry_tuple_add (PySem.F.args_tuple_add_2 _ _) (tuple_addW1 la lb (List.toArray (c::us)) (List.toArray []) n1 n2 none none #[] #[] (fun h=>by cases h) rfl) ⟨o1,o2,?_⟩
    exact k _ _ (.refl i) (M1 f1 ⟨n1,o1⟩ (As (c::us)▸r) hz')
   |cons d ws=>
    refine concat_meets ⟨_,o1,rfl⟩ ⟨_,o2,rfl⟩ noFill_tuple_add seq_tuple_add PySem.F.slot_tuple_add PySem.F.entry_tuple_add (PySem.F.args_tuple_add_2 _ _) (tuple_addW2 la lb (List.toArray (c::us)) (List.toArray (d::ws)) n1 n2 none none #[] #[] (fun h=>by cases h) (fun h=>by cases h) (by rw[<-Array.size_append,List.append_toArray];exact r.lim hz')) ⟨o1,o2,?_⟩
    rw[List.append_toArray]
    exact push_tup' i r hz' k
theorem XW(H:Top X){op:Operator}{a b x:R}{ua ub:Value}(i:Inv X F st T)(ha:RR X F T' T a ua)(hb:RR X F T'' T b ub)(he:Fi st.store op a b=some x)(k:KR X F T Q (x,st)):WP X A (binaryOp op ua ub) Q E T:=
 oK he (fun j hj he=>bK hj fun q hq hj=>hb.num_k (P:=fun ub=>WP X A (binaryOp op ua ub) Q E T) hq fun t=>Gq (P:=fun q=>WP X A (binaryOp op ua (.int (X.I.f q.1 q.2) t)) Q E T) hj (bK he fun y hy he=>mQ (C:=fun x=>KR X F T Q (x,st)) he k fun d hd k=>by
  cases a with
  |val v=>exact JF (P:=fun v=>AA X.I T v ua->WP X A (binaryOp op ua (.int j t)) Q E T) hy (fun ha=>XT H i ha hd k) ha
  |fresh _=>cases hy))
  fun _ he=>by
   cases op with
   |Add=>exact oK he (fun l hl he=>bK he fun m hm he=>pK he fun hz he=>XU (x:=x) i ha hb hl hm hz (sQ (C:=fun x=>KR X F T Q (x,st)) he k)) fun _ he=>bK he fun l hl he=>bK he fun m hm he=>pK he fun hz he=>XV (x:=x) i ha hb hl hm hz (sQ (C:=fun x=>KR X F T Q (x,st)) he k)
   |_=>cases he
end
open PySem PyProof.Rows PySem.Calls
theorem RV{n:Nat}{v:Int}(h:0<=v):((DK n v:Nat):Int)=min v n:=by
 unfold DK
 rw[A5 h]
 cases Nat.le_total v.toNat n with
 |inl q=>rw[Nat.min_eq_left q,Int.toNat_of_nonneg h,Int.min_eq_left (Int.toNat_le.mp q)]
 |inr q=>rw[Nat.min_eq_right q,Int.min_eq_right (Int.toNat_of_nonneg h▸FZ.mpr q)]
theorem RW{n:Nat}{v:Int}(h:¬0<=v):((DK n v:Nat):Int)=max (v+n) 0:=by
 unfold DK
 rw[A3 h,Int.ofNat_toNat]
theorem M3(n:Nat)(v:Int):(if v < 0 then max (v+(n:Int)) 0 else min v (n:Int))=((DK n v:Nat):Int):=by
 by_cases h:v < 0
 ·rw[A5 h,RW (Int.not_le.mpr h)]
 ·rw[A3 h,RV (E1.mp h)]
theorem clip_eq'(n:Nat)(v:Int):max 0 (min (if v < 0 then v+(n:Int) else v) (n:Int))=((DK n v:Nat):Int):=by
 by_cases h:v < 0
 ·rw[A5 h,RW (Int.not_le.mpr h),Int.min_eq_left (Int.add_le_of_le_sub_right (by rw[Int.sub_self];exact Int.le_of_lt h)),Int.max_comm]
 ·rw[A3 h,RV (E1.mp h),Int.max_eq_right (Int.le_min.mpr ⟨E1.mp h,G6 n⟩)]
theorem XX(a b:Option Int)(n:Nat):Builtin.Slice.sliceAdjust a b 1 (n:Int)=(((E3 n a:Nat):Int),((G9 n b:Nat):Int)):=by
 cases a with
 |none=>cases b with
  |none=>rfl
  |some b=>exact A2 (Prod.mk _) (M3 n b)
 |some a=>cases b with
  |none=>exact A2 (Prod.mk · _) (M3 n a)
  |some b=>exact(A2 (Prod.mk · _) (M3 n a)).trans (A2 (Prod.mk _) (M3 n b))
theorem XY(a b:Option Int)(n:Nat):sliceBounds a b none n=(((E3 n a:Nat):Int),((G9 n b:Nat):Int),1):=by
 cases a with
 |none=>cases b with
  |none=>rfl
  |some b=>exact A2 (fun x=>((0:Int),x,(1:Int))) (clip_eq' n b)
 |some a=>cases b with
  |none=>exact A2 (fun x=>(x,(n:Int),(1:Int))) (clip_eq' n a)
  |some b=>exact congr (A2 (fun (x y:Int)=>(x,y,(1:Int))) (clip_eq' n a)) (clip_eq' n b)
theorem RX(a b:Nat)(f:Int->Int)(hf:∀x,f x=x):(if (a:Int) < (b:Int) then f ((b:Int) - (a:Int)) else 0).toNat=b - a:=by
 by_cases h:(a:Int) < (b:Int)
 ·rw[A5 h,hf,<-Int.ofNat_sub (BH (Bp.mp h))];rfl
 ·rw[A3 h,Nat.sub_eq_zero_of_le (FZ.mp (E1.mp h))];rfl
theorem XZ(a b:Nat):Builtin.Slice.slicePlaces (a:Int) (b:Int) 1=b - a:=by
 unfold Builtin.Slice.slicePlaces
 rw[A5 (by decide)]
 exact RX a b (fun x=>(x - 1) / 1+1) fun x=>by rw[Int.ediv_one,Int.sub_add_cancel]
theorem RY(us:List Value)(a b:Nat):(List.range (b - a)).filterMap (fun (k:Nat)=>us.toArray[((a:Int)+(k:Int)*1).toNat]?)=(us.take b).drop a:=by
 have e:(fun (k:Nat)=>us.toArray[((a:Int)+(k:Int)*1).toNat]?)=(fun x=>us.toArray[x]?) ∘ fun x=>a+x:=by
  funext k
  rw[Int.mul_one]
  rfl
 rw[e,<-List.filterMap_map,pick_run,List.drop_take]
theorem Xa(a b:Nat):sliceRange (a:Int) (b:Int) 1=(List.range (b - a)).map fun (k:Nat)=>((a:Int)+1*(k:Int)).toNat:=by
 unfold sliceRange
 rw[A5 (by decide)]
 exact A2 (fun n=>(List.range n).map fun (k:Nat)=>((a:Int)+1*(k:Int)).toNat) (RX a b (fun x=>(x+1 - 1) / 1) fun x=>by rw[Int.ediv_one,Int.add_sub_cancel])
theorem Xb(us:List Value)(a b:Option Int):slicePick us.toArray a b none=List.toArray (slc us a b):=by
 unfold slicePick
 rw[Fb,XY]
 refine A2 List.toArray ?_
 show(sliceRange _ _ 1).filterMap _=_
 rw[Xa,List.filterMap_map]
 refine Eq.trans (A2 (fun f=>List.filterMap f _) ?_) (RY us (E3 us.length a) (G9 us.length b))
 funext k
 show us.toArray[((E3 us.length a:Int)+1*(k:Int)).toNat]?=_
 rw[Int.one_mul,Int.mul_one]
section
variable{X:Cx}{F:Fx}{o:Ops}{n:Nat}{st st':St}{A:Around}{T T' T'':Sm}{Q:Value->Shared->Prop}{E:Value->Shared->Prop}{e:Expr}{r:R}{u:Value}{v:V}{σ:List Cell}{a:Addr}{l:List V}{us:List Value}{P:Prop}{s:Shared}{prog:Program}{w:World}
theorem Xc(slice:Expr)(o i:Value):∃Ba,subscripted slice false o i=operate Ba (getItem o i):=by
 cases slice with
 |Slice a b c p=>cases c <;> exact⟨_,rfl⟩
 |_=>exact⟨_,rfl⟩
theorem Km{value slice:Expr}{o i:Value}{ty id:String}(hT:s.TypeIs o ty)(hl:typeLookup (.type ty) "__getitem__" = pure (some (.builtin id)))(hg:wpAny (model prog w) A (getItem o i) Q E s) :
 wpAny (model prog w) A (subscriptTail value slice o i) Q E s:=(Xc slice o i).elim fun _ hs=>tail_any hT hl hg hs
theorem RZ{v:Value}{k:Option Int}{Q:Option Int->Shared->Prop}(hp:IsPart v k)(hq:Q k s):wpAny (model prog w) A (Builtin.Slice.slicePartIndex v) Q E s:=by
 cases hp with
 |none=>exact slicePart_none hq
 |int i t=>exact slicePart_int hq
theorem Xd{α:Type}(us:List α){lo hi:Option Int}(hc:((((E3 us.length lo:Nat):Int) == 0)&&((1:Int) == 1)&&((G9 us.length hi - E3 us.length lo) == us.length))=true):slc us lo hi=us:=by
 obtain⟨h1,h2⟩:=Bb.mp hc
 have h3:E3 us.length lo=0:=Int.ofNat_inj.mp (beq_iff_eq.mp (Bb.mp h1).1)
 have h4:=beq_iff_eq.mp h2
 rw[h3] at h4
 unfold slc
 rw[h3,show G9 us.length hi=us.length from h4,List.take_length]
 rfl
theorem Xe{t sl:Addr}{us:List Value}{m:Nat}{vl vu:Value}{lo hi:Option Int}(ht:s.heap.get? t=some (seqObj "tuple" us.toArray m))(hs:s.heap.IsSliceOf sl vl vu .none)(pl:IsPart vl lo)(pu:IsPart vu hi)(hz:us.length<=sizeLine)
 (hw:slc us lo hi=us->Q (.ref t) s) (h:Q (.ref s.heap.objs.size) { s with heap:=s.heap.push (seqObj "tuple" (List.toArray (slc us lo hi)) 0) }):wpAny (model prog w) A (getItem (.ref t) (.ref sl)) Q E s:=by
 have ht':IsTup s.heap t us.toArray:=⟨_,ht,rfl,m,rfl⟩
 obtain⟨os,hos,hcs,hds⟩:=id hs
 unfold getItem
 refine DJ ?_
 refine A6 (wpAny_sequenceKey ht'.typeIs (by decide) ?_)
 refine A6 (wpAny_callSpecial?_slot (name:=Str.ofString "__getitem__") ht'.typeIs slot_tuple_getitem
  (wpAny_call_entry slot_tuple_getitem ht'.typeIs entry_tuple_getitem ?_ (args_tuple_getitem _ _)))
 show wpAny _ _ (Builtin.Tuple.tupleItemsOf (.ref t) >>= _) _ _ s
 refine A6 (tupleItemsOf_ ht' (A6 (wpAny_typeOf ⟨os,hos,hcs⟩ ?_)))
 rw[A5 (by decide)]
 refine A6 (A6 (A6 (wpAny_field hos hds (x:=vl) rfl (A6 (wpAny_field hos hds (x:=vu) rfl (A6 (wpAny_field hos hds (x:=.none) rfl (AM (A6 (slicePart_none ?_))))))))))
 refine A6 (RZ pl (A6 (RZ pu (A6 (AM ?_)))))
 show wpAny _ _ (match Builtin.Slice.sliceAdjust lo hi 1 (us.toArray.size:Int) with |(lo,hi)=>pure (lo,(1:Int),Builtin.Slice.slicePlaces lo hi 1)) _ _ s
 rw[Fb,XX]
 refine AM ?_
 show wpAny _ _ (if (((E3 us.length lo:Nat):Int) == 0&&(1:Int) == 1&&(Builtin.Slice.slicePlaces (E3 us.length lo:Int) (G9 us.length hi:Int) 1) == us.length)=true then _ else _) _ _ s
 rw[XZ]
 by_cases hc:((((E3 us.length lo:Nat):Int) == 0)&&((1:Int) == 1)&&((G9 us.length hi - E3 us.length lo) == us.length))=true
 ·rw[A5 hc]
  refine A6 (A6 (wpAny_typeOf ht'.typeIs (AM ?_)))
  rw[A5 (by decide)]
  exact A6 (wpAny_rule (AM ⟨_,rfl,AM (hw (Xd us hc))⟩))
 ·rw[A3 hc]
  show wpAny _ _ (Builtin.Tuple.tupleExact (List.toArray ((List.range (G9 us.length hi - E3 us.length lo)).filterMap fun (k:Nat)=>us.toArray[(((E3 us.length lo:Nat):Int)+(k:Int)*1).toNat]?)) >>= _) _ _ s
  rw[RY]
  exact A6 (m:=Builtin.Tuple.tupleExact _) (wpAny_newObj_type (AM ⟨_,rfl,AM h⟩) (show(List.toArray (slc us lo hi)).size<=sizeLine by
   rw[Fb]
   exact A9 (A9 (List.length_drop▸Nat.sub_le _ _) (List.length_take▸Nat.min_le_right _ _)) hz))
end
open PySem PyProof.Rows PySem.Calls
section
variable{X:Cx}{F:Fx}{o:Ops}{n:Nat}{st st':St}{A:Around}{T T' T'':Sm}{Q:Value->Shared->Prop}{E:Value->Shared->Prop}{e:Expr}{r:R}{u:Value}{v:V}{σ:List Cell}{a:Addr}{l:List V}{us:List Value}{P:Prop}{s:Shared}{prog:Program}{w:World}{I:Iota}{b:Bool}{es:List (Int×V)}{kvs:List (Int×Value)}
theorem Kn{i:Int}{m j:Nat}(h:seqIndex? i m=some j)(kp:0<=i->i < m->i.toNat=j->P)(kn:i < 0->-(m:Int)<=i->(i+m).toNat=j->P):P:=by
 unfold seqIndex? at h
 refine iK h fun hc h=>?_
 cases h
 by_cases hn:i < 0
 ·rw[A5 hn] at hc
  exact kn hn (by have:=BP (Bb.mp hc).1;omega) (by rw[A5 hn])
 ·rw[A3 hn] at hc
  exact kp (E1.mp hn) (BP (Bb.mp hc).2) (by rw[A3 hn])
theorem BC.look(k:Int):∀{kvs:List (Int×Value)},BC I T b es kvs->(∀v,AP k es=some v->∃u,valueAt kvs (I.f b k)=some u/\AA I T v u)/\(AP k es=.none->valueAt kvs (I.f b k)=.none):=by
 induction es with
 |nil=>intro kvs h;cases h;exact⟨fun _ h=>nK h,fun _=>rfl⟩
 |cons p es ih=>
  intro kvs h
  obtain⟨u,ws,rfl,q,r⟩:=h
  have e:valueAt ((I.f b p.1,u)::ws) (I.f b k)=if k=p.1 then some u else valueAt ws (I.f b k):=by
   by_cases hk:k=p.1
   ·rw[A5 hk,<-hk]
    unfold valueAt
    exact A2 (Option.map _) (List.find?_cons_of_pos (p:=fun kv:Int×Value=>decide (kv.1=I.f b k)) (Ae rfl))
   ·rw[A3 hk]
    unfold valueAt
    exact A2 (Option.map _) (List.find?_cons_of_neg (p:=fun kv:Int×Value=>decide (kv.1=I.f b k)) (mt DI fun e=>hk (Iota.inj e).symm))
  rw[e]
  show(∀v,(if k=p.1 then some p.2 else AP k es)=some v->_)/\((if k=p.1 then some p.2 else AP k es)=.none->_)
  by_cases hk:k=p.1
  ·rw[A5 hk,A5 hk]
   exact⟨fun v e=>⟨u,rfl,Option.some.inj e▸q⟩,fun h=>by cases h⟩
  ·rw[A3 hk,A3 hk]
   exact ih r
theorem BC.cls{q:Bool×Int}(h:ES b es q=true)(r:BC I T b es kvs):BC I T q.1 es kvs:=by
 cases es with
 |nil=>exact r
 |cons p es=>exact(beq_iff_eq.mp h).symm▸r
theorem BC.some_k{C:Prop}(r:BC I T b es kvs){q:Bool×Int}(h:ES b es q=true)(e:AP q.2 es=some v)(k:∀u,valueAt kvs (I.f q.1 q.2)=some u->AA I T v u->C):C:=
 ((r.cls h).look q.2).1 v e |>.elim fun u q=>k u q.1 q.2
theorem BC.isSome(r:BC I T b es kvs){q:Bool×Int}(h:ES b es q=true):(valueAt kvs (I.f q.1 q.2)).isSome=(AP q.2 es).isSome:=by
 cases e:AP q.2 es with
 |none=>rw[((r.cls h).look q.2).2 e];rfl
 |some v=>exact r.some_k h e fun u e _=>by rw[e];rfl
theorem Xf(H:Top X){value slice:Expr}{a b:R}{v:V}{ua ub:Value}{d:Bool×List (Int×V)}{q:Bool×Int}(i:Inv X F st T)(ha:RR X F T' T a ua)(hb:RR X F T'' T b ub)(hd:Ek st.store a=some d)(hq:I3 b=some q)(ho:ES d.1 d.2 q=true)(he:AP q.2 d.2=some v)
 (k:KR X F T Q (.val v,st)):WP X A (subscriptTail value slice ua ub) Q E T:=
 hb.num_k (P:=fun ub=>WP X A (subscriptTail value slice ua ub) Q E T) hq fun t=>Kj (C:=fun ua=>WP X A (subscriptTail value slice ua _) Q E T) i.mid ha hd fun j a kvs D=>D.rep.some_k ho he fun u e r=>
  Km D.obj.typeIs slot_dict_getitem.lookup (wpAny_getItem_of (intKind_is X.prog X.w _ t) D.obj.mapOf e (k u _ (.tok i _) (r.mono (AE.tok i _).mono)))
theorem Ra{j:Int}{m:Nat}(hm:m<=lim)(h:j < m):j < 2 ^ 63:=Int.lt_trans (Int.lt_of_lt_of_le h (FZ.mpr hm)) M0
theorem Rb{j:Int}{m:Nat}(hm:m<=lim)(h:-(m:Int)<=j):-(2 ^ 63)<=j:=Int.le_trans (Int.neg_le_neg (Int.le_of_lt (Int.lt_of_le_of_lt (FZ.mpr hm) M0))) h
theorem Xg{value slice:Expr}{a b:R}{v:V}{ua ub:Value}{j:Int}{l:List V}(i:Inv X F st T)(ha:RR X F T' T a ua){t:Tok}(hl:Gh st.store a=some l)(he:idx l j=some v)
 (k:KR X F T Q (.val v,st)):WP X A (subscriptTail value slice ua (.int j t)) Q E T:=
 bK he fun m hm he=>Ki (C:=fun ua=>WP X A (subscriptTail value slice ua _) Q E T) i.mid ha hl fun ty a us hty ⟨c,o⟩ r z=>by
  obtain⟨u,eu',q⟩:=r.get he
  have eu:us.toArray[m]?=some u:=List.getElem?_toArray.trans eu'
  have fin:=k u T (.refl i) q
  have hlen:=r.length
  cases hty with
  |inl e=>
   cases e
   have hL:T.s.heap.IsList a us.toArray:=⟨_,o,rfl,c,rfl⟩
   refine Km hL.typeIs slot_list_getitem.lookup (Kn hm (fun h0 h1 e=>?_) fun h0 h1 e=>?_)
   ·exact wpAny_getItem_list hL h0 (Ra z h1) (e.symm▸eu) fin
   ·exact wpAny_getItem_list_neg hL h0 (by rw[Fb,hlen];exact h1) (Rb z h1) (by rw[Fb,hlen,e];exact eu) fin
  |inr e=>
   cases e
   have hT:IsTup T.s.heap a us.toArray:=⟨_,o,rfl,c,rfl⟩
   exact Km hT.typeIs slot_tuple_getitem.lookup (PyProof.Rows.getItem_tuple hT (Kn hm (fun h0 _ _=>Int.le_trans (by decide) h0) fun _ h1 _=>Rb z h1) (Kn hm (fun _ h1 _=>Ra z h1) fun h0 _ _=>Int.lt_trans h0 (by decide)) (by rw[Fb,hlen];exact hm) eu fin)
theorem Xh(H:Top X){value slice:Expr}{a b:R}{v:V}{ua ub:Value}(i:Inv X F st T)(ha:RR X F T' T a ua)(hb:RR X F T'' T b ub)(he:CL st.store a b=some v)
 (k:KR X F T Q (.val v,st)):WP X A (subscriptTail value slice ua ub) Q E T:=
 oK he (fun d hd he=>bK he fun q hq he=>iK he fun ho he=>Xf H i ha hb hd hq ho he k) fun _ he=>bK he fun j hj he=>bK he fun l hl he=>bK hj fun q hq hj=>
  hb.num_k (P:=fun ub=>WP X A (subscriptTail value slice ua ub) Q E T) hq fun t=>Gq (P:=fun q=>WP X A (subscriptTail value slice ua (.int (X.I.f q.1 q.2) t)) Q E T) hj (Xg (b:=b) (ub:=ub) i ha hl he k)
theorem A7.slc{P:V->Value->Prop}(h:A7 P l us)(lo hi:Option Int):A7 P (slc l lo hi) (slc us lo hi):=by
 unfold Mine.slc
 rw[h.length]
 exact(h.take _).drop _
theorem O3{α:Type}{l:List α}{lo hi:Option Int}(z:l.length<=lim):(slc l lo hi).length<=lim:=A9 (A9 (List.length_drop▸Nat.sub_le _ _) (List.length_take▸Nat.min_le_right _ _)) z
theorem Xk{value slice:Expr}{a x:R}{ua vl vu:Value}{lo hi:Option Int}(i:Inv X F st T)(ha:RR X F T' T a ua)(pl:IsPart vl lo)(pu:IsPart vu hi)(he:GA st.store a lo hi=some x){sl:Addr}(hs:T.s.heap.IsSliceOf sl vl vu .none)
 (k:KR X F T Q (x,st)):WP X A (subscriptTail value slice ua (.ref sl)) Q E T:=
 oK he (fun l hl he=>lst_k (C:=fun ua=>WP X A (subscriptTail value slice ua (.ref sl)) Q E T) i.mid ha hl fun a us ⟨c,o⟩ r z=>by
  have hL:T.s.heap.IsList a us.toArray:=⟨_,o,rfl,c,rfl⟩
  refine Km hL.typeIs slot_list_getitem.lookup (wpAny_getItem_list_slice hL hs pl pu .none (fun h=>by cases h) ?_ (r.lim z))
  rw[Xb]
  exact push_lst' i (r.slc lo hi) (O3 z) (sQ (C:=fun x=>KR X F T Q (x,st)) he k))
  fun _ he=>mQ (C:=fun x=>KR X F T Q (x,st)) he k fun l hl k=>tup_k (C:=fun ua=>WP X A (subscriptTail value slice ua (.ref sl)) Q E T) ha hl fun a us f ⟨c,o⟩ r z=>by
   refine Km (IsTup.typeIs ⟨_,o,rfl,c,rfl⟩) slot_tuple_getitem.lookup (Xe o hs pl pu (r.lim z) (fun e=>?_) (push_tup' i (r.slc lo hi) (O3 z) k))
   exact k _ _ (.refl i) (M1 f ⟨c,o⟩ (e▸r.slc lo hi) (O3 z))
theorem Rc(H:Snd X o n){e:Option Expr}{β:Type}{f:Option Int×St->Option β}{y:β}(hA:AO A n)(he:(IG o F.fn e st).bind f=some y)(i:Inv X F st T)
 (k:∀p u T',AE X F T p.2 T'->IsPart u p.1->f p=some y->Q u T'.s):WP X A (evalPart e F.env) Q E T:=by
 cases e with
 |none=>exact wpAny_evalPart_none (k _ _ T (.refl i) .none he)
 |some e=>exact bK he fun p h1 he=>wpAny_evalPart_some (Nu H hA i h1 (C:=fun p=>f p=some y) he fun q t T' a he=>k _ _ T' a (.int q.1 t) he)
theorem Xl(H:Snd X o n)(HT:Top X){v e:Expr}{pos:Pos}{p:R×St}(hA:AO A n)(he:Qo o F.fn v e st=some p)(i:Inv X F st T)(k:KR X F T Q p):WP X A (eval (.Subscript v e pos) F.env) Q E T:=by
 refine Subscript_ (oK he (fun ab hs he=>?_) fun _ he=>?_)
 ·refine XG (C:=fun e=>wpAny (model X.prog X.w) A (eval v F.env) (fun o s₁=>wpAny (model X.prog X.w) A (eval e F.env) (fun i s₂=>wpAny (model X.prog X.w) A (subscriptTail v e o i) Q E s₂) E s₁) E T.s) hs fun ps=>?_
  refine FL H hA i he fun p₁ u₁ T₁ a₁ q₁ he=>wpAny_Slice (Rc H hA he a₁.inv fun p₂ u₂ T₂ a₂ q₂ he=>Rc H hA he a₂.inv fun p₃ u₃ T₃ a₃ q₃ he=>wpAny_evalPart_none (mQ he k fun x h4 k=>?_))
  have a₄:AE X F T₃ p₃.2 (T₃.hp (T₃.s.heap.push { cls:=.type "slice",data:=.fields #[u₂,u₃,.none] }) T₃.s.toks):=.grow a₃.inv (DS _ _)
  exact Xk a₄.inv (((q₁.mono a₂).mono a₃).mono a₄) q₂ q₃ h4 (Heap.IsSliceOf.new ..) (k.then (((a₁.trans a₂).trans a₃).trans a₄))
 ·exact FL H hA i he fun p₁ u₁ T₁ a₁ q₁ he=>FL H hA a₁.inv he fun p₂ u₂ T₂ a₂ q₂ he=>mQ he k fun w h k=>Xh HT a₂.inv (q₁.mono a₂) q₂ h (k.then (a₁.trans a₂))
end
open PySem PyProof.Rows PySem.Calls
section
variable{X:Cx}{F:Fx}{o:Ops}{n:Nat}{st st':St}{A:Around}{T T' T'':Sm}{Q:Value->Shared->Prop}{E:Value->Shared->Prop}{e:Expr}{r:R}{u:Value}{v:V}{σ:List Cell}{a:Addr}{l:List V}{us:List Value}{P:Prop}{s:Shared}{prog:Program}{w:World}{I:Iota}{b:Bool}{es:List (Int×V)}{kvs:List (Int×Value)}{op:CmpOp}{c:Bool}{QB:Bool->Shared->Prop}
theorem O4(m:Mid X σ T)(hr:RR X F T' T r u):RR X F T' T (KK σ r) u:=by
 cases r with
 |fresh l=>exact hr
 |val v=>
  cases v with
  |loc j=>
   refine AA.loc_k (I:=X.I) (P:=fun u=>RR X F T' T (Ql σ (.loc j)) u) hr fun a ha=>?_
   have hr:AA X.I T (.loc j) (.ref a):=⟨a,ha,rfl⟩
   show RR X F T' T (Qk j σ[j]?) (.ref a)
   cases hc:σ[j]? with
   |none=>exact hr
   |some c=>
    cases c with
    |froz ds=>exact m.cell_k ha hc fun g _ q=>q.2
    |_=>exact hr
  |_=>exact hr
theorem O5{d:D}(hr:RR X F T' T r u)(h:KJ r=some d)(k:∀T₁,T₁.s=T.s->AR X.I T₁ d u->P):P:=by
 cases r with
 |val v=>exact JF (P:=fun v=>AA X.I T v u->P) h (k T rfl) hr
 |fresh l=>
  obtain⟨a,us,rfl,q⟩:=hr
  refine bK h fun x hx h=>mK (C:=fun v=>Gg v=some d->P) hx (fun ds hd h=>?_) h
  cases h
  exact Gp (P:=fun l=>Own X F T' T a l us->P) hd (fun q=>k (T.mm (T.M.frz (·=a))) rfl ⟨a,us,rfl,.inr rfl,q.obj,(A4 (as:=ds) V.d)▸q.len,Go.mpr (A7.map (f:=V.d) (P:=AA X.I (T.mm (T.M.frz (·=a)))) |>.mp (q.rep.mono (.frz _)))⟩) q
theorem Rd{x y:D}{ua ub:Value}{T₁ T₂:Sm}(hA:AO A n)(e₁:T₁.s=T.s)(e₂:T₂.s=T.s)(ha:AR X.I T₁ x ua)(hb:AR X.I T₂ y ub)(he:Gi x y=some c)(f:Bool->Bool)
 (rule:∀{da db:PyData} {as bs:List Addr},Reads T.s.heap ua da as->Reads T.s.heap ub db bs->SeqAt.shaped da=true->SeqAt.shaped db=true->A.units+64 < cLine->Q (.bool (f (PyData.eqv da db))) T.s->WP X A (compareOp op ua ub) Q E T) (k:Q (.bool (f c)) T.s):WP X A (compareOp op ua ub) Q E T:=
 iK he fun ho he=>Ad ho fun o1 o2=>by
  have la:=ha.lk o1
  have lb:=hb.lk o2
  rw[e₁] at la
  rw[e₂] at lb
  obtain⟨as,ra⟩:=la.reads
  obtain⟨bs,rb⟩:=lb.reads
  exact rule ra rb la.shaped lb.shaped (Aa (A9 (EP (BJ _ (8*n)) 64) (C9 (by decide) _)) hA.u) (by rw[RP he];exact k)
theorem Ko{d:D}{q:Bool×Int}{C:D->Prop}(h:Dh d=some q)(k:C (DO q)):C d:=by
 cases d <;> first |exact nK h |(cases h;exact k)
theorem O6{p q:Bool×Int}{t t':Tok}(h:KH op p q=some c)(k:Q (.bool c) s):wpAny (model prog w) A (compareOp op (.int (I.f p.1 p.2) t) (.int (I.f q.1 q.2) t')) Q E s:=
 iK h fun hc h=>by
  rw[<-beq_iff_eq.mp hc]
  cases op with
  |Lt=>exact lt_int (by rw[decide_eq_decide.mpr (Iota.lt_iff)];exact sQ (C:=fun c=>Q (.bool c) s) h k)
  |LtE=>exact le_int (by rw[decide_eq_decide.mpr (Iota.le_iff)];exact sQ (C:=fun c=>Q (.bool c) s) h k)
  |Gt=>exact gt_int (by rw[decide_eq_decide.mpr (Iota.lt_iff)];exact sQ (C:=fun c=>Q (.bool c) s) h k)
  |GtE=>exact ge_int (by rw[decide_eq_decide.mpr (Iota.le_iff)];exact sQ (C:=fun c=>Q (.bool c) s) h k)
  |_=>exact nK h
theorem Xm{x y:D}{ua ub:Value}{T₁ T₂:Sm}(ha:AR X.I T₁ x ua)(hb:AR X.I T₂ y ub)(he:((Dh x).bind fun p=>(Dh y).bind fun q=>KH op p q)=some c)(k:Q (.bool c) T.s):WP X A (compareOp op ua ub) Q E T:=
 bK he fun p hp he=>bK he fun q hq he=>Ko (C:=fun x=>AR X.I T₁ x ua->WP X A (compareOp op ua ub) Q E T) hp (fun ha=>Ko (C:=fun y=>AR X.I T₂ y ub->WP X A (compareOp op ua ub) Q E T) hq (fun hb=>
  AR.num_k (P:=fun ua=>WP X A (compareOp op ua ub) Q E T) ha fun t=>AR.num_k (P:=fun ub=>WP X A (compareOp op _ ub) Q E T) hb fun t'=>O6 he k) hb) ha
theorem Xn(H:Top X){a b:R}{ua ub:Value}(hA:AO A n)(m:Mid X σ T)(ha:RR X F T' T a ua)(hb:RR X F T'' T b ub)(he:Di op σ a b=some c)(k:Q (.bool c) T.s):WP X A (compareOp op ua ub) Q E T:=
 bK he fun x hx he=>bK he fun y hy he=>O5 (O4 m ha) hx fun T₁ e₁ ha=>O5 (O4 m hb) hy fun T₂ e₂ hb=>by
  cases op with
  |Eq=>exact Rd hA e₁ e₂ ha hb he id (fun ra rb sa sb h k=>SeqAt.compareEq_shaped ra rb sa sb h k) k
  |NotEq=>exact mQ (C:=fun c=>Q (.bool c) T.s) he k fun c' he k=>Rd hA e₁ e₂ ha hb he not (fun ra rb sa sb h k=>SeqAt.compareNe_shaped ra rb sa sb h k) k
  |_=>exact Xm ha hb he k
theorem Re(H:Top X)(i:Mid X σ T)(ha:T.M.W a):(a == sysModules)=false:=by
 cases h:a == sysModules with
 |false=>rfl
 |true=>exact absurd ha (beq_iff_eq.mp h▸i.fw _ (i.base _ H.sysm))
theorem DctAt.nosys{j:Nat}(H:Top X)(i:Mid X σ T)(D:DctAt X T j a b es kvs):(a == sysModules)=false:=D.wf.elim (fun g=>Re H i (Mm.W_of g (DE a))) id
theorem Rf{d:D}{ds:List D}:∀{c:Bool},E4 d ds=some c->((EV I ds).any fun y=>PyData.eqv y (E9 I d))=c:=by
 induction ds with
 |nil=>exact fun h=>Option.some.inj h
 |cons e ds ih=>exact fun h=>bK h fun b hb h=>mK (C:=fun c=>(PyData.eqv (E9 I e) (E9 I d)||(EV I ds).any fun y=>PyData.eqv y (E9 I d))=c) h fun c' hc=>by rw[RP hb,ih hc]
theorem Xo{a b:R}{ua ub:Value}(hA:AO A n)(m:Mid X σ T)(ha:RR X F T' T a ua)(hb:RR X F T'' T b ub)(he:Qm σ a b=some c)(f:Bool->Bool)
 (rule:∀{l:Bool} {cv x:Value} {xs:List PyData} {d:PyData} {as bs:List Addr},Reads T.s.heap cv (cond l (.list xs) (.tuple xs)) as->Reads T.s.heap x d bs->PyData.canLayAll0 xs=true->d.canLay0=true->A.units+1+min (PyData.depthAll xs) d.depth < cLine->Q (.bool (f (xs.any fun y=>PyData.eqv y d))) T.s->WP X A (compareOp op x cv) Q E T) (k:Q (.bool (f c)) T.s):WP X A (compareOp op ua ub) Q E T:=
 bK he fun d hd he=>bK he fun l hl he=>bK he fun ds hds he=>iK he fun ho he=>Ad ho fun o1 o2=>O5 (O4 m ha) hd fun T₁ e₁ ha=>by
  have la:=ha.lk o1
  rw[e₁] at la
  obtain⟨as,ra⟩:=la.reads
  refine Ki (C:=fun ub=>WP X A (compareOp op ua ub) Q E T) m hb hl fun ty v us hty ⟨j,o⟩ r _=>?_
  have q:=Do.lks (n:=30) (Go.mpr (Gp (P:=fun l=>A7 (AA X.I T) l us->A7 (AR X.I T) ds us) hds (fun r=>(A7.map (f:=V.d) (P:=AA X.I T)).mp r) r)) o2
  obtain⟨bs,rb⟩:=q.reads
  have hu:A.units+1+min (PyData.depthAll (EV X.I ds)) (E9 X.I d).depth < cLine:=Aa (A9 (C9 (A9 (Nat.min_le_left _ _) q.dep) _) (show A.units+1+30<=A.units+8*n+300 by omega)) hA.u
  cases hty with
  |inl e=>cases e;exact rule (l:=true) (reads_list_at o rfl rfl rb) ra q.lay la.lay hu (by rw[Rf he];exact k)
  |inr e=>cases e;exact rule (l:=false) (reads_tuple_at o rfl rfl rb) ra q.lay la.lay hu (by rw[Rf he];exact k)
theorem Xp{l:Bool}{cv x:Value}{xs:List PyData}{d:PyData}{as bs:List Addr}(rc:Reads T.s.heap cv (cond l (.list xs) (.tuple xs)) as)(rx:Reads T.s.heap x d bs)(hxs:PyData.canLayAll0 xs=true)(hd:d.canLay0=true)(hu:A.units+1+min (PyData.depthAll xs) d.depth < cLine)(h:Q (.bool (id (xs.any fun y=>PyData.eqv y d))) T.s):WP X A (compareOp .In x cv) Q E T:=by
 cases l with
 |true=>exact SeqAt.in_list_reads rc rx hxs hd hu h
 |false=>exact SeqAt.in_tuple_reads rc rx hxs hd hu h
theorem Xq{l:Bool}{cv x:Value}{xs:List PyData}{d:PyData}{as bs:List Addr}(rc:Reads T.s.heap cv (cond l (.list xs) (.tuple xs)) as)(rx:Reads T.s.heap x d bs)(hxs:PyData.canLayAll0 xs=true)(hd:d.canLay0=true)(hu:A.units+1+min (PyData.depthAll xs) d.depth < cLine)(h:Q (.bool (not (xs.any fun y=>PyData.eqv y d))) T.s):WP X A (compareOp .NotIn x cv) Q E T:=by
 cases l with
 |true=>exact SeqAt.notIn_list_reads rc rx hxs hd hu h
 |false=>exact SeqAt.notIn_tuple_reads rc rx hxs hd hu h
theorem Rg(H:Top X){a b:R}{ua ub:Value}(hA:AO A n)(i:Inv X F st T)(ha:RR X F T' T a ua)(hb:RR X F T'' T b ub)(he:Fh st.store a b=some c)(f:Bool->Bool)
 (rule:∀{k:Int} {d:Addr} {key:Value} {g:Int->Option Value},(intKind X.prog X.w).is k key=true->(d == sysModules)=false->T.s.heap.MapOf (intKind X.prog X.w) d g->Q (.bool (f (g k).isSome)) { T.s with toks:=T.s.toks+1 }->WP X A (compareOp op key (.ref d)) Q E T)
 (rule':∀{l:Bool} {cv x:Value} {xs:List PyData} {d:PyData} {as bs:List Addr},Reads T.s.heap cv (cond l (.list xs) (.tuple xs)) as->Reads T.s.heap x d bs->PyData.canLayAll0 xs=true->d.canLay0=true->A.units+1+min (PyData.depthAll xs) d.depth < cLine->Q (.bool (f (xs.any fun y=>PyData.eqv y d))) T.s->WP X A (compareOp op x cv) Q E T)
 (k:∀T',AE X F T st T'->Q (.bool (f c)) T'.s):WP X A (compareOp op ua ub) Q E T:=
 oK he (fun d hd he=>bK he fun q hq he=>iK he fun ho he=>ha.num_k (P:=fun ua=>WP X A (compareOp op ua ub) Q E T) hq fun t=>Kj (C:=fun ub=>WP X A (compareOp op _ ub) Q E T) i.mid hb hd fun j a kvs D=>
  rule (intKind_is X.prog X.w _ t) (D.nosys H i.mid) D.obj.mapOf (by show Q (.bool (f (valueAt kvs _).isSome)) _;rw[D.rep.isSome ho];exact sQ (C:=fun c=>Q (.bool (f c)) _) he (k _ (.tok i _)))) fun _ he=>Xo hA i.mid ha hb he f rule' (k _ (.refl i))
theorem Rh(hr:RR X F T' T r u):plainIs u .none=true/\(u == .none)=isNone r:=by
 have ref:∀a:Addr,plainIs (.ref a) .none=true/\(Value.ref a == .none)=false:=fun a=>⟨rfl,beq_eq_false_iff_ne.mpr fun h=>by cases h⟩
 cases r with
 |fresh l=>obtain⟨a,us,rfl,_⟩:=hr;exact ref a
 |val v=>
  cases v with
  |loc k=>obtain⟨a,_,rfl⟩:=hr;exact ref a
  |tup l=>obtain⟨a,_,rfl,_⟩:=hr;exact ref a
  |d x=>
   cases x with
   |none=>cases hr;exact⟨rfl,beq_self_eq_true _⟩
   |bool b=>cases hr;exact⟨rfl,beq_eq_false_iff_ne.mpr fun h=>by cases h⟩
   |int b=>obtain⟨t,rfl⟩:=hr;exact⟨rfl,beq_eq_false_iff_ne.mpr fun h=>by cases h⟩
   |key b=>obtain⟨t,rfl⟩:=hr;exact⟨rfl,beq_eq_false_iff_ne.mpr fun h=>by cases h⟩
   |str b=>obtain⟨t,rfl,_⟩:=hr;exact⟨rfl,beq_eq_false_iff_ne.mpr fun h=>by cases h⟩
   |tup b=>obtain⟨a,_,rfl,_⟩:=hr;exact ref a
   |lst b=>obtain⟨a,_,rfl,_⟩:=hr;exact ref a
theorem A7.empty{P:V->Value->Prop}(h:A7 P l us):us.toArray.isEmpty=l.isEmpty:=by
 cases l with
 |nil=>cases h;rfl
 |cons x l=>obtain⟨u,ws,rfl,_⟩:=h;rfl
theorem Xr(i:Inv X F st T)(hr:RR X F T' T r u)(he:Ld st.store r=some c)(k:∀T',AE X F T st T'->QB c T'.s):WP X A (truthy u) QB E T:=
 oK he (fun l hl he=>sQ (C:=fun c=>(∀T',AE X F T st T'->QB c T'.s)->WP X A (truthy u) QB E T) he.symm (fun k=>Ki (C:=fun u=>WP X A (truthy u) QB E T) i.mid hr hl fun ty a us hty ⟨m,o⟩ r z=>by
  have hfit:((us.toArray.size:Nat):Int) < 2 ^ 63:=Int.lt_of_le_of_lt (FZ.mpr (show us.length<=lim from r.length▸z)) M0
  cases hty with
  |inl e=>cases e;exact wpAny_truthy_list ⟨_,o,rfl,m,rfl⟩ hfit (by rw[r.empty];exact k _ (.tok i _))
  |inr e=>cases e;exact truthy_tuple ⟨_,o,rfl,m,rfl⟩ hfit (by rw[r.empty];exact k _ (.tok i _))) k)
  fun _ he=>bK he fun d hd he=>by
   cases r with
   |fresh _=>exact nK hd
   |val v=>
    refine JF (P:=fun v=>AA X.I T v u->WP X A (truthy u) QB E T) hd (fun hr=>?_) hr
    cases d with
    |none=>cases hr;exact truthy_none (sQ (C:=fun c=>QB c T.s) he (k T (.refl i)))
    |bool b=>cases hr;exact wpAny_truthy_bool (sQ (C:=fun c=>QB c T.s) he (k T (.refl i)))
    |_=>exact nK he
theorem M4(H:Top X){x:Str}{v:Value}{pos:Pos}(hb:DQ X.G F.fn x=true)(hv:JG.lookup x=some v)(i:Inv X F st T)(k:Q v T.s):WP X A (eval (.Name x pos) F.env) Q E T:=
 Ad hb fun hb h4=>Ad hb fun hb h3=>Ad hb fun h1 h2=>by
  have g:=H.blt x v hv (Ge.mp h2) (Ge.mp h3) (of_decide_eq_false (FY _ |>.mp h4))
  have h1:=beq_iff_eq.mp h1
  exact Name_function_global i.frm.kind (i.frm.glo x h1) (loadGlobal_builtin (mg:=X.mg) (mb:=X.mb) (by rw[i.frm.glb];exact H.g.keeps i.mid.top) g.1 (by rw[i.frm.blt];exact H.b.keeps i.mid.top) g.2 k) (Kk i.frm.dbg.1 h1)
theorem Xs(H:Snd X o n){p:R×St}{fn:Fn}(h:o.ev fn e st=some p):behindInMarks op e=false:=by
 cases e with
 |Set es k p=>exact nK ((H.set _ _ _ _ _).symm.trans h)
 |_=>rfl
theorem O7(H:Snd X o n){l:Expr}{pos:Pos}{whole:Sem Value}{p:Bool×St}(f:Bool->Bool)(g:List Cell->R->R->Option Bool)(hA:AO A n)
 (he:((o.ev F.fn l st).bind fun p=>(o.ev F.fn e p.2).bind fun q=>(g q.2.store p.1 q.1).map fun b=>(f b,q.2))=some p) (i:Inv X F st T) (k:KT X F T QB p)
 (rule:∀{st:St} {T T' T'':Sm} {a b:R} {ua ub:Value} {c:Bool} {Q:Value->Shared->Prop},Inv X F st T->RR X F T' T a ua->RR X F T'' T b ub->g st.store a b=some c->(∀T',AE X F T st T'->Q (.bool (f c)) T'.s)->WP X A (compareOp op ua ub) Q E T) :
 WP X A (isTrue (.Compare l [op] [e] pos) F.env whole) QB E T:=
 bK he fun p₁ h1 he=>bK he fun p₂ h2 he=>wpAny_isTrue_Compare1 (H.ev hA h1 i fun ua T₁ a₁ q₁=>H.ev hA h2 a₁.inv fun ub T₂ a₂ q₂=>mQ he k fun c hc k=>rule a₂.inv (q₁.mono a₂) q₂ hc fun T₃ a₃=>wpAny_truthy_bool (k T₃ ((a₁.trans a₂).trans a₃))) (Xs H h2)
theorem Ri(H:Snd X o n){l:Expr}{pos:Pos}{whole:Sem Value}{p:Bool×St}(f:Bool->Bool)(hA:AO A n)(hn:KO e=true)(he:((o.ev F.fn l st).map fun p=>(f (isNone p.1),p.2))=some p)(i:Inv X F st T)(k:KT X F T QB p)
 (rule:∀{s:Shared} {a:Value} {Q:Value->Shared->Prop},plainIs a .none=true->Q (.bool (f (a == .none))) s->wpAny (model X.prog X.w) A (compareOp op a .none) Q E s):WP X A (isTrue (.Compare l [op] [e] pos) F.env whole) QB E T:=
 XI (C:=fun e=>WP X A (isTrue (.Compare l [op] [e] pos) F.env whole) QB E T) hn fun c q=>mQ he k fun p₁ h1 k=>wpAny_isTrue_Compare1 (H.ev hA h1 i fun ua T₁ a₁ q₁=>wpAny_Constant_none (rule (Rh q₁).1 (wpAny_truthy_bool (by rw[(Rh q₁).2];exact k T₁ a₁)))) rfl
theorem Xu(H:Snd X o n)(HT:Top X){l a:Expr}{pos:Pos}{whole:Sem Value}{p:Bool×St}(hA:AO A n)(ha:RA l e=some a)(he:RB X.G o F.fn st a=some p)(i:Inv X F st T)(k:KT X F T QB p):WP X A (isTrue (.Compare l [.Is] [e] pos) F.env whole) QB E T:=
 bK ha fun fa hf ha=>iK ha fun hx ha=>Ad hx fun h1 h2=>iK he fun hb he=>Ad hb fun b1 b2=>Nv (C:=fun l=>WP X A (isTrue (.Compare l [.Is] [e] pos) F.env whole) QB E T) hf fun p1 p2=>JK (C:=fun e=>WP X A (isTrue (.Compare (.Call (.Name fa.1 p1) fa.2 [] p2) [.Is] [e] pos) F.env whole) QB E T) (BP h2) fun p3=>
  Ep (C:=fun as=>WP X A (isTrue (.Compare (.Call (.Name fa.1 p1) as [] p2) [.Is] [.Name "int" p3] pos) F.env whole) QB E T) ha (by
   rw[show fa.1 ="type" from BP h1]
   refine wpAny_isTrue_Compare1 (wpAny_Call_Name_kw (M4 HT b1 (v:=.type "type") rfl i ?_)) rfl
   refine mQ he k fun q hq k=>?_
   have hst:backTo p2 (starEach [a] F.env)=[(false,eval a F.env)]:=bK hq fun q1 h1 _=>bK h1 fun q2 h2 _=>GG H h2
   rw[hst]
   exact PySem.callWith_type rfl (evalArgs_plain (spliced_cons (Kg H hA i (f:=some) (y:=q) (A2 (Option.bind · some) hq) fun q' t T₁ a₁ e=>by
    cases e
    exact spliced_nil (call_type_of (typeIs_int T₁.s q.1 t) (by decide) (M4 HT b2 (v:=.type "int") rfl a₁.inv (wpAny_is_plain rfl (wpAny_truthy_bool (k T₁ a₁)))))))))
theorem Xv(H:Snd X o n)(HT:Top X){l:Expr}{pos:Pos}{whole:Sem Value}{p:Bool×St}(hA:AO A n)(he:RD X.G o F.fn l op e st=some p)(i:Inv X F st T)(k:KT X F T QB p):WP X A (isTrue (.Compare l [op] [e] pos) F.env whole) QB E T:=by
 cases op with
 |Is=>exact eK he (fun hn he=>Ri H id hA hn he i k fun hp h=>wpAny_is_plain hp h) fun he=>bK he fun a ha he=>Xu H HT hA ha he i k
 |IsNot=>exact iK he fun hn he=>Ri H not hA hn he i k fun hp h=>wpAny_isNot_plain hp h
 |In=>exact O7 H id Fh hA he i k fun i a b h k=>Rg HT hA i a b h id (fun h1 h2 h3 h4=>wpAny_in_of h1 h2 h3 h4) Xp k
 |NotIn=>exact O7 H not Fh hA he i k fun i a b h k=>Rg HT hA i a b h not (fun h1 h2 h3 h4=>wpAny_notIn_of h1 h2 h3 h4) Xq k
 |_=>exact O7 H id (Di _) hA he i k fun i a b h k=>Xn HT hA i.mid a b h (k _ (.refl i))
theorem Xw(H:Snd X o n)(hA:AO A n){bop:BoolOp}{vs:List Expr}:∀{st:St} {T:Sm} {p:Bool×St},En o F.fn bop vs st=some p->Inv X F st T->KT X F T QB p->WP X A (allTrue bop vs F.env) QB E T:=by
 induction vs with
 |nil=>
  intro st T p he i k
  have k':=sQ he k T (.refl i)
  cases bop with
  |And=>exact wpAny_allTrue_And_nil k'
  |Or=>exact wpAny_allTrue_Or_nil k'
 |cons t vs ih=>
  intro st T p he i k
  refine bK he fun q h1 he=>?_
  cases bop with
  |And=>
   refine wpAny_allTrue_And_cons (H.tt hA h1 i fun T₁ a₁=>?_)
   obtain⟨b,st₁⟩:=q
   cases b with
   |true=>rw[A5 rfl];exact ih he a₁.inv (k.then a₁)
   |false=>rw[A3 CT];exact sQ he k T₁ a₁
  |Or=>
   refine wpAny_allTrue_Or_cons (H.tt hA h1 i fun T₁ a₁=>?_)
   obtain⟨b,st₁⟩:=q
   cases b with
   |false=>rw[A3 CT];exact ih he a₁.inv (k.then a₁)
   |true=>rw[A5 rfl];exact sQ he k T₁ a₁
theorem Xx(h:RF op=true)(e:Expr):behindInMarks op e=false:=by
 cases e with
 |Set es k p=>cases op <;> first |(cases h;done) |(show((k == 0)&&false&&_)=false;rw[Bool.and_false];rfl)
 |_=>rfl
theorem Xy(H:Snd X o n)(HT:Top X){l:Expr}{x y:CmpOp×Expr}{pos:Pos}{p:Bool×St}(hA:AO A n)(he:Nq o F.fn l x y st=some p)(i:Inv X F st T)(k:KT X F T QB p) :
 WP X A (isTrue (.Compare l [x.1,y.1] [x.2,y.2] pos) F.env (eval (.Compare l [x.1,y.1] [x.2,y.2] pos) F.env)) QB E T:=
 iK he fun hop he=>isTrue_chain (JJ H hA i he fun a t T₁ a₁ he=>test_link (JJ H hA a₁.inv he fun b u T₂ a₂ he=>bK he fun c1 hc1 he=>O6 hc1 (wpAny_truthy_bool (by
  cases c1 with
  |true=>exact test_last (JJ H hA a₂.inv he fun d v T₃ a₃ he=>mQ he k fun c hc k=>O6 hc (wpAny_truthy_bool (k _ ((a₁.trans a₂).trans a₃))))
  |false=>exact sQ he k _ (a₁.trans a₂))))) (Xx hop y.2)
theorem Xz(H:Snd X o n){p:Bool×St}(hA:AO A n)(i:Inv X F st T)(k:KT X F T QB p)(he:Lu o F.fn e st=some p)(h:isTrue e F.env (eval e F.env)=(do let v <-eval e F.env;standAt e.pos;holding [v] (truthy v))):WP X A (isTrue e F.env (eval e F.env)) QB E T:=
 isTrue_plain (FL H hA i he fun p₁ u T₁ a₁ q₁ he=>mQ he k fun b hb k=>Xr a₁.inv q₁ hb fun T₂ a₂=>k T₂ (a₁.trans a₂)) h
theorem Y0(H:Snd X o n)(HT:Top X){p:Bool×St}(hA:AO A n)(he:RH X.G o F.fn e st=some p)(i:Inv X F st T)(k:KT X F T QB p):WP X A (isTrue e F.env (eval e F.env)) QB E T:=by
 have val:=Xz (e:=e) (E:=E) H hA i k
 cases e with
 |UnaryOp op x q=>
  cases op with
  |Not=>exact mQ he k fun p₁ h1 k=>wpAny_isTrue_Not (H.tt hA h1 i k)
  |_=>exact val he rfl
 |BoolOp op vs q=>exact wpAny_isTrue_BoolOp (Xw H hA he i k)
 |Compare l Ba rs q=>
  refine oK he (fun op ho he=>bK he fun r hr he=>?_) fun _ he=>bK he fun x hx he=>bK he fun y hy he=>?_
  ·exact Ep (C:=fun Ba=>WP X A (isTrue (.Compare l Ba rs q) F.env (eval (.Compare l Ba rs q) F.env)) QB E T) ho (Ep (C:=fun rs=>WP X A (isTrue (.Compare l [op] rs q) F.env (eval (.Compare l [op] rs q) F.env)) QB E T) hr (Xv H HT hA he i k))
  ·exact IN (C:=fun Ba=>WP X A (isTrue (.Compare l Ba rs q) F.env (eval (.Compare l Ba rs q) F.env)) QB E T) hx (IN (C:=fun rs=>WP X A (isTrue (.Compare l [x.1,x.2] rs q) F.env (eval (.Compare l [x.1,x.2] rs q) F.env)) QB E T) hy (Xy (x:=(x.1,y.1)) (y:=(x.2,y.2)) H HT hA he i k))
 |IfExp a b c q=>exact nK he
 |_=>exact val he rfl
end
open PySem PyProof.Rows PySem.Calls PySem.W
theorem Rj{l r:Nat}(h:l < r):∃q,(l+r) / 2=q/\l<=q/\q < r:=⟨_,rfl,(Nat.le_div_iff_mul_le (by decide)).mpr (by rw[Nat.mul_two];exact C9 (BH h) _),(Nat.div_lt_iff_lt_mul (by decide)).mpr (by rw[Nat.mul_two];exact Fc h _)⟩
section
variable{α β:Type}(f:Nat->Nat->Bool)(n:Nat)
noncomputable def KW:KasT α->(α->Prop)->Prop
 |.ret a,Q=>Q a
 |.ask i j k,Q=>i < n/\j < n/\i≠j/\KW (k (f i j)) Q
end
section
variable{α β:Type}{f:Nat->Nat->Bool}{n:Nat}
theorem KW.mono{Q Q':α->Prop}(h:∀a,Q a->Q' a):∀{t:KasT α},KW f n t Q->KW f n t Q'
 |.ret a,x=>h a x
 |.ask i j k,x=>⟨x.1,x.2.1,x.2.2.1,KW.mono h x.2.2.2⟩
theorem KW.bind{g:α->KasT β}{Q:β->Prop}:∀{t:KasT α},KW f n t (fun a=>KW f n (g a) Q)->KW f n (t.bind g) Q
 |.ret a,x=>x
 |.ask i j k,x=>⟨x.1,x.2.1,x.2.2.1,KW.bind x.2.2.2⟩
theorem KW.wp{cmp:Nat->Nat->(Bool->Shared->Prop)->Shared->Prop}{s:Shared}(hc:∀i j C,i < n->j < n->i≠j->C (f i j) s->cmp i j C s){Q:α->Prop}{R:α->Shared->Prop}(h:∀a,Q a->R a s):∀{t:KasT α},KW f n t Q->t.kasWp cmp R s
 |.ret a,x=>h a x
 |.ask i j k,x=>hc i j _ x.1 x.2.1 x.2.2.1 (KW.wp hc h x.2.2.2)
end
section
variable{n:Nat}{key:Nat->Int}
noncomputable def CQ(n:Nat)(p:Array Nat):Prop:=p.size=n/\p.Perm (List.toArray (List.range n))
theorem CQ.lt{p:Array Nat}(h:CQ n p){i:Nat}(hi:i < n):p.getD i 0 < n:=by
 have hm:p.getD i 0∈p.toList:=by
  have hi':i < p.size:=by rw[h.1];exact hi
  simp [Array.getD,hi']
 have:=(Array.perm_iff_toList_perm.mp h.2).mem_iff.mp hm
 simpa using this
theorem CQ.inj{p:Array Nat}(h:CQ n p){i j:Nat}(hi:i < n)(hj:j < n)(e:p.getD i 0=p.getD j 0):i=j:=by
 have nd:p.toList.Nodup:=(Array.perm_iff_toList_perm.mp h.2).symm.nodup (by simpa using List.nodup_range)
 have hi':i < p.toList.length:=by rw[Bo,h.1];exact hi
 have hj':j < p.toList.length:=by rw[Bo,h.1];exact hj
 have e':p.toList[i]=p.toList[j]:=by
  have hi2:i < p.size:=by rw[h.1];exact hi
  have hj2:j < p.size:=by rw[h.1];exact hj
  simpa [Array.getD,hi2,hj2] using e
 have pw:=List.pairwise_iff_getElem.mp nd
 rcases Nat.lt_trichotomy i j with h |h |h
 ·exact absurd e' (pw i j hi' hj' h)
 ·exact h
 ·exact absurd e'.symm (pw j i hj' hi' h)
theorem CQ.ne{p:Array Nat}(h:CQ n p){i j:Nat}(hi:i < n)(hj:j < n)(e:i≠j):p.getD i 0≠p.getD j 0:=fun q=>e (h.inj hi hj q)
noncomputable def Asc(key:Nat->Int)(p:Array Nat)(m:Nat):Prop:=∀i j,i < j->j < m->key (p.getD i 0) < key (p.getD j 0)
noncomputable def M5(key:Nat->Int)(p:Array Nat)(m:Nat):Prop:=∀i j,i < j->j < m->key (p.getD j 0) < key (p.getD i 0)
variable(hinj:∀i j,i < n->j < n->key i=key j->i=j)
include hinj
omit hinj in
theorem Rl{R:Nat->Nat->Prop}(tr:∀{a b c},R a b->R b c->R a c){m:Nat}(h1:1<=m)(ha:∀i j,i < j->j < m->R i j)(hk:R (m - 1) m):∀i j,i < j->j < m+1->R i j:=fun i j hij hj=>by
 by_cases hjm:j=m
 ·subst hjm
  by_cases hi:i=j - 1
  ·exact hi▸hk
  ·exact tr (ha i (j - 1) (I1 (Nat.le_sub_one_of_lt hij) hi) (Nat.sub_lt h1 Nat.one_pos)) hk
 ·exact ha i j hij (I1 (Bm hj) hjm)
theorem O8{p:Array Nat}(hp:CQ n p){i j:Nat}(hi:i < n)(hj:j < n)(hij:i≠j)(hk:¬key (p.getD i 0) < key (p.getD j 0)):key (p.getD j 0) < key (p.getD i 0):=Int.lt_iff_le_and_ne.mpr ⟨E1.mp hk,fun e=>hij (hp.inj hj hi (hinj _ _ (hp.lt hj) (hp.lt hi) e)).symm⟩
theorem O9{p:Array Nat}(hp:CQ n p):∀(c m:Nat),1<=m->m+c<=n->Asc key p m->KW (fun i j=>decide (key i < key j)) n (kas_asc p c m) (fun r=>m<=r/\r<=m+c/\Asc key p r/\(r < m+c->key (p.getD r 0) < key (p.getD (r - 1) 0)))
 |0,m,_,_,ha=>⟨Am _,Am _,ha,fun h=>absurd h (FF _)⟩
 |c+1,m,h1,hm,ha=>by
  have hmn:m < n:=C1 (Ei (CC c)) hm
  have hlt:m - 1 < m:=Nat.sub_lt h1 Nat.one_pos
  have hm1:=AN hlt hmn
  have e:=I2 m c
  refine⟨hp.lt hmn,hp.lt hm1,hp.ne hmn hm1 (CV hlt),?_⟩
  dsimp only
  by_cases hk:key (p.getD m 0) < key (p.getD (m - 1) 0)
  ·rw[Ae hk,A5 rfl]
   exact⟨Am _,BJ _ _,ha,fun _=>hk⟩
  ·rw[decide_eq_false hk,A3 CT]
   exact(O9 hp c (m+1) (CC _) (A9 (BQ e) hm) (Rl (R:=fun i j=>key (p.getD i 0) < key (p.getD j 0)) Int.lt_trans h1 ha (O8 hinj hp hmn hm1 (CV hlt) hk))).mono fun r hr=>⟨Nat.le_of_succ_le hr.1,A9 hr.2.1 (BQ e),hr.2.2.1,fun h=>hr.2.2.2 (C1 h (BQ e.symm))⟩
theorem Rm{p:Array Nat}(hp:CQ n p):∀(c m:Nat),1<=m->m+c<=n->M5 key p m->KW (fun i j=>decide (key i < key j)) n (kas_desc c p m 0) (fun r=>r.1=p/\r.2.2=0/\m<=r.2.1/\r.2.1<=n/\M5 key p r.2.1)
 |0,m,_,hm,ha=>⟨rfl,rfl,Am _,hm,ha⟩
 |c+1,m,h1,hm,ha=>by
  have hmn:m < n:=C1 (Ei (CC c)) hm
  have hlt:m - 1 < m:=Nat.sub_lt h1 Nat.one_pos
  have hm1:=AN hlt hmn
  refine⟨hp.lt hmn,hp.lt hm1,hp.ne hmn hm1 (CV hlt),?_⟩
  dsimp only
  by_cases hk:key (p.getD m 0) < key (p.getD (m - 1) 0)
  ·rw[Ae hk,A5 rfl,A3 (FF 0)]
   exact(Rm hp c (m+1) (CC _) (A9 (BQ (I2 m c)) hm) (Rl (R:=fun i j=>key (p.getD j 0) < key (p.getD i 0)) (fun a b=>Int.lt_trans b a) h1 ha hk)).mono fun r hr=>⟨hr.1,hr.2.1,Nat.le_of_succ_le hr.2.2.1,hr.2.2.2.1,hr.2.2.2.2⟩
  ·rw[decide_eq_false hk,A3 CT]
   refine⟨hp.lt hm1,hp.lt hmn,hp.ne hm1 hmn (CA hlt),?_⟩
   dsimp only
   rw[Ae (O8 hinj hp hmn hm1 (CV hlt) hk),A5 rfl]
   exact⟨rfl,rfl,Am _,BH hmn,ha⟩
omit hinj in
theorem M6{p q:Array Nat}{i j:Nat}(h:p[i]?=q[j]?):p.getD i 0=q.getD j 0:=by
 rw[Array.getD_eq_getD_getElem?,Array.getD_eq_getD_getElem?,h]
omit hinj in
theorem Ro{p:Array Nat}(hp:CQ n p)(m:Nat):CQ n (kas_rev p 0 m):=⟨by unfold kas_rev;rw[mirror_size];exact hp.1,by unfold kas_rev;exact(mirror_perm _ _ _ _).trans hp.2⟩
omit hinj in
theorem Y1{p:Array Nat}(hp:CQ n p){m:Nat}(hm:m<=n)(hd:M5 key p m):Asc key (kas_rev p 0 m) m:=by
 have e:∀k,k < m->(kas_rev p 0 m).getD k 0=p.getD (m - 1 - k) 0:=fun k hk=>by
  refine M6 ?_
  unfold kas_rev
  rw[getElem?_mirror_all (by rw[hp.1];exact hm),A5 ⟨BK _,hk⟩,De]
 intro i j hij hj
 rw[e i (AN hij hj),e j hj]
 exact hd _ _ (Nat.sub_lt_sub_left (Nat.lt_sub_of_add_lt (Aa hij hj)) hij) (Aa (Nat.sub_le _ _) (Nat.sub_lt (Nat.zero_lt_of_lt hj) Nat.one_pos))
theorem Y2{p:Array Nat}(hp:CQ n p){m:Nat}(h1:1<=m)(hm:m<=n)(hd:M5 key p m):KW (fun i j=>decide (key i < key j)) n (kas_tail3 m n p) (fun r=>CQ n r.2/\1<=r.1/\r.1<=n/\Asc key r.2 r.1):=by
 unfold kas_tail3
 refine KW.bind ((O9 hinj (Ro hp m) (n - m) m h1 (BQ (Fd hm)) (Y1 hp hm hd)).mono fun r hr=>?_)
 exact⟨Ro hp m,A9 h1 hr.1,Fd hm▸hr.2.1,hr.2.2.1⟩
theorem Y3(hn:2<=n){p:Array Nat}(hp:CQ n p):KW (fun i j=>decide (key i < key j)) n (kas_count n p) (fun r=>CQ n r.2/\1<=r.1/\r.1<=n/\Asc key r.2 r.1):=by
 unfold kas_count
 refine KW.bind ((O9 hinj hp (n - 1) 1 (Am _) (BQ (Fd (Nat.le_of_succ_le hn))) (fun i j hij hj=>absurd (Aa (BK _) hij) (C2.mpr (Bm hj)))).mono fun m hm=>?_)
 obtain⟨h1,h2,h3,h4⟩:=hm
 rw[Fd (Nat.le_of_succ_le hn)] at h2 h4
 by_cases hmn:m=n
 ·rw[A5 (by simp [hmn])]
  exact⟨hp,h1,h2,h3⟩
 ·rw[A3 (by simp [hmn])]
  by_cases hm1:m > 1
  ·rw[A5 hm1]
   have hlt:m - 1 < m:=Nat.sub_lt h1 Nat.one_pos
   have hl2:=C1 hlt h2
   have hp0:0 < m - 1:=Nat.sub_pos_of_lt hm1
   have hn0:=Nat.zero_lt_of_lt hl2
   have:=h3 0 (m - 1) hp0 hlt
   refine⟨hp.lt hn0,hp.lt hl2,hp.ne hn0 hl2 (CA hp0),?_⟩
   dsimp only
   rw[Ae this,A5 rfl]
   exact⟨hp,h1,h2,h3⟩
  ·rw[A3 hm1]
   have hm':m=1:=Fe (Nat.le_of_not_lt hm1) h1
   subst hm'
   have h5:=h4 hn
   unfold kas_descPart
   refine KW.bind ((Rm hinj hp (n - (1+1)) (1+1) (by decide) (BQ (Fd hn)) (fun i j hij hj=>?_)).mono fun r hr=>?_)
   ·have hi0:i=0:=by omega
    have hj1:j=1:=by omega
    subst hi0 hj1
    exact h5
   ·obtain⟨q1,q2,q3,q4,q5⟩:=hr
    rw[A3 (by omega),q1]
    exact Y2 hinj hp (A9 (by decide) q3) q4 q5
theorem OA{p:Array Nat}(hp:CQ n p){k:Nat}(hk:k < n)(ha:Asc key p k):∀(c l r:Nat),l<=r->r<=k->r - l<=c->(∀i,i < l->key (p.getD i 0) < key (p.getD k 0))->(∀i,r<=i->i < k->key (p.getD k 0) < key (p.getD i 0))->
 KW (fun i j=>decide (key i < key j)) n (kas_place p k c l r) (fun m=>m<=k/\(∀i,i < m->key (p.getD i 0) < key (p.getD k 0))/\∀i,m<=i->i < k->key (p.getD k 0) < key (p.getD i 0))
 |0,l,r,h1,h2,h3,ha1,ha2=>⟨A9 h1 h2,ha1,fun i hi hik=>ha2 i (A9 (Nat.le_of_sub_eq_zero (Nat.le_zero.mp h3)) hi) hik⟩
 |c+1,l,r,h1,h2,h3,ha1,ha2=>by
  unfold kas_place
  by_cases hlr:l≥r
  ·rw[A5 hlr]
   exact⟨A9 h1 h2,ha1,fun i hi hik=>ha2 i (A9 hlr hi) hik⟩
  ·rw[A3 hlr]
   obtain⟨q,hq,a1,a2⟩:=Rj (Nat.not_le.mp hlr)
   rw[hq]
   have hmk:q < k:=C1 a2 h2
   have hqn:=AN hmk hk
   refine⟨hp.lt hk,hp.lt hqn,hp.ne hk hqn (CV hmk),?_⟩
   dsimp only
   by_cases hc:key (p.getD k 0) < key (p.getD q 0)
   ·rw[Ae hc,A5 rfl]
    refine OA hp hk ha c l q a1 (BH hmk) (Bm (C1 (Nat.sub_lt_sub_right a1 a2) h3)) ha1 fun i hi hik=>?_
    by_cases he:i=q
    ·exact he▸hc
    ·exact Int.lt_trans hc (ha q i (I1 hi fun e=>he e.symm) hik)
   ·rw[decide_eq_false hc,A3 CT]
    have hu:=O8 hinj hp hk hqn (CV hmk) hc
    refine OA hp hk ha c (q+1) r a2 h2 (Bm (C1 (Nat.sub_lt_sub_left (Aa a1 a2) (E2 a1)) h3)) (fun i hi=>?_) ha2
    by_cases he:i=q
    ·exact he▸hu
    ·exact Int.lt_trans (ha i q (I1 (Bm hi) he) hmk) hu
theorem Rp:∀(c:Nat) {p:Array Nat} (hp:CQ n p) (k:Nat),1<=k->k+c=n->Asc key p k->KW (fun i j=>decide (key i < key j)) n (kas_bin c p k) (fun q=>CQ n q/\Asc key q n)
 |0,p,hp,k,h1,hk,ha=>⟨hp,by rw[<-hk];exact ha⟩
 |c+1,p,hp,k,h1,hk,ha=>by
  unfold kas_bin
  have hkn:k < n:=hk▸Ei (CC c)
  refine KW.bind ((OA hinj hp hkn ha k 0 k (BK _) (Am _) (Am _) (fun i hi=>absurd hi (Nat.not_lt_zero _)) (fun i h1 h2=>absurd h2 (C2.mpr h1))).mono fun m hm=>?_)
  obtain⟨q1,q2,q3⟩:=hm
  have hp':CQ n (bubble p k (k - m)):=⟨by rw[bubble_size];exact hp.1,(bubble_perm _ _ _).trans hp.2⟩
  refine Rp c hp' (k+1) (CC _) ((I2 k c).trans hk) ?_
  have e:∀x,x < k+1->(bubble p k (k - m)).getD x 0=if x=m then p.getD k 0 else if m < x then p.getD (x - 1) 0 else p.getD x 0:=fun x hx=>by
   have:=getElem?_bubble (xs:=p) (src:=k) (by rw[hp.1];exact hkn) (k - m) (Nat.sub_le _ _) x
   rw[Nat.sub_sub_self q1] at this
   by_cases h1:x=m
   ·rw[A5 h1] at this ⊢
    exact M6 this
   ·rw[A3 h1] at this ⊢
    by_cases h2:m < x
    ·rw[A5 ⟨h2,Bm hx⟩] at this
     rw[A5 h2]
     exact M6 this
    ·rw[A3 fun h=>h2 h.1] at this
     rw[A3 h2]
     exact M6 this
  intro i j hij hj
  rw[e i (AN hij hj),e j hj]
  have hj1:∀{x},x < j->x<=j - 1:=Nat.le_sub_one_of_lt
  have hjk:∀{x},x < j->j - 1 < k:=fun h=>C1 (Nat.sub_lt (Nat.zero_lt_of_lt h) Nat.one_pos) (Bm hj)
  by_cases hi:i=m
  ·subst hi
   rw[A5 rfl,A3 (CV hij),A5 hij]
   exact q3 (j - 1) (hj1 hij) (hjk hij)
  ·rw[A3 hi]
   by_cases hj':j=m
   ·subst hj'
    rw[A3 (Nat.lt_asymm hij),A5 rfl]
    exact q2 i hij
   ·rw[A3 hj']
    by_cases hmi:m < i
    ·rw[A5 hmi,A5 (AN hmi hij)]
     exact ha (i - 1) (j - 1) (C1 (Nat.sub_lt (Nat.zero_lt_of_lt hmi) Nat.one_pos) (hj1 hij)) (hjk hij)
    ·rw[A3 hmi]
     by_cases hmj:m < j
     ·rw[A5 hmj]
      exact ha i (j - 1) (C1 (I1 (Nat.le_of_not_lt hmi) hi) (hj1 hmj)) (hjk hmj)
     ·rw[A3 hmj]
      exact ha i j hij (C1 (I1 (Nat.le_of_not_lt hmj) hj') q1)
theorem Y4(hn:2<=n):KW (fun i j=>decide (key i < key j)) n (kas_sort n) (fun q=>CQ n q/\Asc key q n):=by
 unfold kas_sort
 have h0:CQ n (List.toArray (List.range n)):=⟨by simp,Array.Perm.refl _⟩
 refine KW.bind ((Y3 hinj hn h0).mono fun r hr=>?_)
 obtain⟨q1,q2,q3,q4⟩:=hr
 by_cases hlt:r.1 < n
 ·rw[A5 hlt]
  rw[Nat.max_eq_left q2]
  exact Rp hinj (n - r.1) q1 r.1 q2 (Fd q3) q4
 ·rw[A3 hlt]
  exact⟨q1,Fe q3 (Nat.le_of_not_lt hlt)▸q4⟩
end
open PySem PyProof.Rows PySem.Calls PySem.W
section
variable{α:Type}{k:α->Int}
theorem Rq(x:α)(l:List α):(DP k x l).Perm (x::l):=by
 induction l with
 |nil=>exact List.Perm.refl _
 |cons y l ih=>
  show(if k x<=k y then x::y::l else y::DP k x l).Perm _
  by_cases h:k x<=k y
  ·rw[A5 h]
  ·rw[A3 h];exact(ih.cons y).trans (List.Perm.swap x y l)
theorem IO(l:List α):(Bn k l).Perm l:=by
 induction l with
 |nil=>exact List.Perm.refl _
 |cons x l ih=>exact(Rq x (Bn k l)).trans (ih.cons x)
theorem Y5(x:α){l:List α}(h:l.Pairwise (fun a b=>k a<=k b)):(DP k x l).Pairwise (fun a b=>k a<=k b):=by
 induction l with
 |nil=>exact List.pairwise_singleton _ _
 |cons y l ih=>
  obtain⟨h1,h2⟩:=D4.mp h
  show(if k x<=k y then x::y::l else y::DP k x l).Pairwise _
  by_cases hle:k x<=k y
  ·rw[A5 hle]
   exact D4.mpr ⟨fun z hz=>(Au.mp hz).elim (fun e=>e▸hle) fun hz=>Int.le_trans hle (h1 z hz),h⟩
  ·rw[A3 hle]
   exact D4.mpr ⟨fun z hz=>(Au.mp ((Rq x l).mem_iff.mp hz)).elim (fun e=>e▸Int.le_of_lt (Int.not_le.mp hle)) (h1 z),ih h2⟩
theorem M7(l:List α):(Bn k l).Pairwise (fun a b=>k a<=k b):=by
 induction l with
 |nil=>exact List.Pairwise.nil
 |cons x l ih=>exact Y5 x ih
theorem OB{a:List α}:∀{b:List α},a.Perm b->a.Pairwise (fun x y=>k x<=k y)->b.Pairwise (fun x y=>k x<=k y)->(∀x∈b,∀y∈b,k x=k y->x=y)->a=b:=by
 induction a with
 |nil=>exact fun p _ _ _=>List.Perm.nil_eq p
 |cons x a ih=>
  intro b p ha hb hi
  cases b with
  |nil=>cases p.length_eq
  |cons y b=>
   have hx:x∈y::b:=p.mem_iff.mp AZ
   have e:x=y:=hi x hx y AZ (Int.le_antisymm
    ((Au.mp (p.mem_iff.mpr AZ)).elim (fun h=>Int.le_of_eq (A2 k h.symm)) fun h=>(D4.mp ha).1 y h)
    ((Au.mp hx).elim (fun h=>Int.le_of_eq (A2 k h.symm)) fun h=>(D4.mp hb).1 x h))
   subst e
   exact A2 (x::·) (ih (List.Perm.cons_inv p) (D4.mp ha).2 (D4.mp hb).2 fun u hu v hv=>hi u (.tail _ hu) v (.tail _ hv))
theorem Y6{β:Type}(f:β->α)(x:β)(l:List β):DP k (f x) (l.map f)=(DP (fun y=>k (f y)) x l).map f:=by
 induction l with
 |nil=>rfl
 |cons y l ih=>
  show(if k (f x)<=k (f y) then f x::f y::l.map f else f y::DP k (f x) (l.map f))=(if k (f x)<=k (f y) then x::y::l else y::DP _ x l).map f
  by_cases h:k (f x)<=k (f y)
  ·rw[A5 h,A5 h];rfl
  ·rw[A3 h,A3 h,ih];rfl
theorem OC{β:Type}(f:β->α)(l:List β):Bn k (l.map f)=(Bn (fun y=>k (f y)) l).map f:=by
 induction l with
 |nil=>rfl
 |cons x l ih=>rw[Dc,Bn,ih,Y6];rfl
end
noncomputable def kd(d:D):Int:=(J5 d).2
theorem Y7{l:List Int}(h:KM l=true):l.Nodup:=by
 induction l with
 |nil=>exact Ca
 |cons x l ih=>
  obtain⟨h1,h2⟩:=Bb.mp (show(!l.contains x&&KM l)=true from h)
  exact BZ.mpr ⟨fun q=>absurd (Da.mpr q) (by rw[FY]  at h1;rw[h1];exact CT),ih h2⟩
theorem Y8{α:Type}{k:α->Int}{l:List α}(h:(l.map k).Nodup):∀x∈l,∀y∈l,k x=k y->x=y:=by
 induction l with
 |nil=>exact fun _ h=>absurd h B3
 |cons z l ih=>
  intro x hx y hy e
  obtain⟨h1,h2⟩:=BZ.mp h
  rcases Au.mp hx with e1 |q1 <;> rcases Au.mp hy with e2 |q2
  ·rw[e1,e2]
  ·exact absurd (BU.mpr ⟨y,q2,by rw[<-e,e1]⟩) h1
  ·exact absurd (BU.mpr ⟨x,q1,by rw[e,e2]⟩) h1
  ·exact ih h2 x q1 y q2 e
theorem Rr{α:Type}{k:α->Int}{l:List α}{d:α}(h:(l.map k).Nodup){i j:Nat}(hi:i < l.length)(hj:j < l.length)(e:k (l.getD i d)=k (l.getD j d)):i=j:=by
 have f:∀{i},(hi:i < l.length)->l.getD i d=l[i]:=fun hi=>by rw[La,D3 hi];rfl
 have pw:=List.pairwise_iff_getElem.mp h
 have g:∀{i j},i < l.length->j < l.length->i < j->k (l.getD i d)≠k (l.getD j d):=fun {i j} hi hj q=>by
  have:=pw i j (A4 k▸hi) (A4 k▸hj) q
  rw[List.getElem_map,List.getElem_map] at this
  rw[f hi,f hj]
  exact this
 exact(Nat.lt_trichotomy i j).elim (fun q=>absurd e (g hi hj q)) fun q=>q.elim id fun q=>absurd e.symm (g hj hi q)
theorem Y9{ds:List D}(h:ds.all KL=true):∃ns:List Int,ds=ns.map .int:=by
 induction ds with
 |nil=>exact⟨[],rfl⟩
 |cons d ds ih=>
  obtain⟨h1,h2⟩:=Bb.mp h
  obtain⟨ns,rfl⟩:=ih h2
  cases d with
  |int j=>exact⟨j::ns,rfl⟩
  |_=>cases h1
theorem YA{α:Type}(l:List α)(d:α):(List.range l.length).map (fun i=>l.getD i d)=l:=by
 apply List.ext_getElem
 ·rw[A4,List.length_range]
 ·intro i h1 h2
  rw[List.getElem_map,List.getElem_range,La,D3 h2];rfl
section
variable{I:Iota}{T:Sm}
theorem Rs{ns:List Int}:∀{us:List Value},A7 (AR I T) (ns.map .int) us->IntsAre us ns:=by
 induction ns with
 |nil=>intro us h;cases h;exact .nil
 |cons j ns ih=>intro us h;obtain⟨u,ws,rfl,⟨t,rfl⟩,r⟩:=h;exact .cons j t (ih r)
theorem Rt{us:List Value}{ns:List Int}(h:IntsAre us ns):A7 (AR I T) (ns.map .int) us:=by
 induction h with
 |nil=>exact rfl
 |cons j t h ih=>exact⟨_,_,rfl,⟨t,rfl⟩,ih⟩
theorem A7.getD{ds:List D}{us:List Value}{i:Nat}(x:A7 (AR I T) ds us)(hi:i < ds.length):AR I T (ds.getD i .none) (us.getD i .none):=by
 obtain⟨u,e,r⟩:=x.get (D3 hi)
 rw[La,La,e,D3 hi]
 exact r
theorem A7.of_getD{ds:List D}{us:List Value}{p:List Nat}(hp:∀i∈p,AR I T (ds.getD i .none) (us.getD i .none)):A7 (AR I T) (p.map fun i=>ds.getD i .none) (p.map fun i=>us.getD i .none):=by
 induction p with
 |nil=>exact rfl
 |cons i p ih=>exact⟨_,_,rfl,hp i AZ,ih fun j hj=>hp j (Aj _ hj)⟩
theorem OD{c:Bool}{d:D}{v:Value}{P:Value->Prop}(x:AR I T d v)(hp:Hd c d=true)(k:∀a us m t,T.s.heap.get? a=some (seqObj "tuple" (List.toArray (.int (I.f c (kd d)) t::us)) m)->P (.ref a)):P v:=by
 cases d with
 |tup l=>
  cases l with
  |nil=>cases hp
  |cons y l=>
   refine AR.tup_k x fun a us _ ⟨m,o⟩ _ r=>?_
   obtain⟨u,ws,rfl,q,_⟩:=r
   have hp:Av (Dh y) (fun p=>p.1 == c) false=true:=hp
   have hk:kd (.tup (y::l))=((Dh y).getD (false,0)).2:=rfl
   rw[hk] at k
   cases hq:Dh y with
   |none=>rw[hq] at hp;cases hp
   |some p=>
    rw[hq] at hp k
    cases beq_iff_eq.mp hp
    exact Ko (C:=fun y=>AR I T y u->P (.ref a)) hq (fun q=>AR.num_k (P:=fun u=>T.s.heap.get? a=some (seqObj "tuple" (List.toArray (u::ws)) m)->P (.ref a)) q (fun t o=>k a ws m t o) o) q
 |_=>cases hp
end
section
variable{prog:Program}{w:World}{A:Around}{E:Value->Shared->Prop}{I:Iota}{T:Sm}{c:Bool}{ds:List D}{vs:List Value}
theorem Ru(hP:ds.all (Hd c)=true){i:Nat}(hi:i < ds.length):Hd c (ds.getD i .none)=true:=by
 rw[La,D3 hi]
 exact CO.mp hP _ (List.getElem_mem hi)
theorem YB(hR:A7 (AR I T) ds vs)(hP:ds.all (Hd c)=true)(hn:(ds.map kd).Nodup){i j:Nat}{Q:Bool->Shared->Prop}(hi:i < ds.length)(hj:j < ds.length)(hij:i≠j)
 (h:Q (decide (kd (ds.getD i .none) < kd (ds.getD j .none))) T.s):kas_ask prog w A (tuples' true) vs i j Q T.s:=by
 unfold kas_ask
 refine OD (P:=fun v=>wpAny (model prog w) A (keyLt' (tuples' true) v (vs.getD j .none)) Q _ T.s) (hR.getD hi) (Ru hP hi) fun a us m t o1=>?_
 refine OD (P:=fun v=>wpAny (model prog w) A (keyLt' (tuples' true) (.ref a) v) Q _ T.s) (hR.getD hj) (Ru hP hj) fun b us' m' t' o2=>?_
 refine kat_lt o1 rfl o2 rfl (kat_cons (wpAny_eqBool_int ?_))
 rw[beq_eq_false_iff_ne.mpr fun e=>hij (Rr hn hi hj (Iota.inj e))]
 exact kat_no (oneLt_int (by rw[decide_eq_decide.mpr (Iota.lt_iff)];exact h))
theorem YD(hP:ds.all (Hd c)=true):∀{vs:List Value},A7 (AR I T) ds vs->∃fs,KatTups T.s.heap vs fs/\fs.length=ds.length/\∀v∈fs,∃j t,v=.int j t:=by
 induction ds with
 |nil=>intro vs h;cases h;exact⟨[],.nil,rfl,fun _ h=>Eo h⟩
 |cons d ds ih=>
  intro vs h
  obtain⟨h1,h2⟩:=Bb.mp hP
  obtain⟨v,ws,rfl,x,r⟩:=h
  obtain⟨fs,k1,k2,k3⟩:=ih h2 r
  exact OD (P:=fun v=>∃fs,KatTups T.s.heap (v::ws) fs/\fs.length=(d::ds).length/\∀v∈fs,∃j t,v=.int j t) x h1 fun a us m t o=>⟨_::fs,.cons o rfl rfl rfl k1,A2 (·+1) k2,fun v hv=>(Au.mp hv).elim (fun e=>⟨_,t,e⟩) (k3 v)⟩
noncomputable def JO(h:Heap)(a:Addr)(vs:List Value):Heap:=((h.update a (Obj.mapSeq fun _=>#[])).push (seqObj "tuple" vs.toArray 0)).push (seqObj "list" #[] 0)
theorem YE{h:Heap}{a:Addr}{n:Nat}(ho:h.get? a=some (seqObj "list" vs.toArray n)):∃e,(h.update a (Obj.mapSeq fun _=>#[])).get? a=some (seqObj "list" #[] e)/\(JO h a vs).get? a=some (seqObj "list" #[] e):=
 have q:=get?_update_seq ho (fun _=>#[])
 ⟨_,q,DZ _ (DZ _ q)⟩
theorem YF{a:Addr}(ha:¬T.M.F a):Mono T (T.hp (JO T.s.heap a vs) T.s.toks):=
 ⟨fun _ f=>f,fun b o f e=>DZ _ (DZ _ ((Heap.get?_update_ne _ _ _ _ (fun q:b=a=>ha (q▸f))).trans e)),Bw _⟩
theorem Rv(hR:A7 (AR I T) ds vs)(hn:(ds.map kd).Nodup){p:List Nat}(hp:p.Perm (List.range ds.length))(hs:p.Pairwise (fun i j=>kd (ds.getD i .none)<=kd (ds.getD j .none))):A7 (AR I T) (Bn kd ds) (p.map fun i=>vs.getD i .none):=by
 have inj:=Y8 hn
 rw[(OB (k:=kd) (((hp.map fun i=>ds.getD i D.none).trans (by rw[YA])).trans (IO ds).symm) (List.pairwise_map.mpr hs) (M7 ds) fun x hx y hy=>inj x ((IO ds).mem_iff.mp hx) y ((IO ds).mem_iff.mp hy)).symm]
 exact A7.of_getD fun i hi=>hR.getD (List.mem_range.mp (hp.mem_iff.mp hi))
theorem YG{a:Addr}{n:Nat}{P:Fin->Shared->Prop}(ho:T.s.heap.get? a=some (seqObj "list" vs.toArray n))(ha:¬T.M.F a)(hR:A7 (AR I T) ds vs)(h64:ds.length < 64)(hP:ds.all (Hd c)=true)(hn:(ds.map kd).Nodup)
 (k:∀out:Array Value,A7 (AR I T) (Bn kd ds) out.toList->P (.done (.ret .none)) { T.s with heap:=sortedHeap T.s.heap a vs out }):wpAny (model prog w) A (Builtin.«list.sort» ⟨[.ref a],[]⟩) P E T.s:=by
 have hlen:=hR.length
 have hz:vs.length<=sizeLine:=A9 (BH (hlen▸h64)) (by decide)
 obtain⟨e1,ho1,ho6⟩:=YE (vs:=vs) ho
 rw[list_sort_plain]
 refine A6 (listItems_at ho rfl (A6 (listUpdate_at ho rfl (A6 (seqEpoch_at ho1 rfl (A6 (wpAny_newTuple (A6 (wpAny_newList (DJ ?_) (BK _))) hz)))) hz (BK _))))
 show wpAny (model prog w) A _ P E { T.s with heap:=JO T.s.heap a vs }
 dsimp only
 by_cases h2:vs.toArray.size < 2
 ·rw[A5 h2,A5 h2]
  refine A6 (AM ?_)
  rw[StateT.run_pure]
  refine A6 (AM ?_)
  dsimp only
  refine A6 (seqEpoch_at ho6 rfl (A6 (listUpdate_at ho6 rfl ?_ (hsz2:=by rw[Array.size_map];show(pairsOf vs).size<=_;rw[pairsOf_size];exact Eh hz))))
  rw[A3 (by rw[bne_self_eq_false];exact CT)]
  refine AM (k _ ?_)
  have hout:=kat_snds (ks:=vs) (vs:=vs) rfl (st:=SortSt.mk' general' (vs.toArray.zip vs.toArray) #[] 7 none) (p:=List.toArray (List.range vs.length)) (by
   have e:=kas_range (vs.toArray.zip vs.toArray)
   rw[show(vs.toArray.zip vs.toArray).size=vs.length from pairsOf_size vs] at e
   exact e.symm)
  rw[hout]
  refine Rv hR hn (by rw[hlen]) (List.pairwise_iff_getElem.mpr fun i j hi hj hij=>?_)
  have hj:j < vs.length:=List.length_range (n:=vs.length)▸hj
  exact absurd (Aa (Nat.succ_le_of_lt (Aa (Nat.succ_le_of_lt (Aa (BK i) hij)) hj)) h2) (FF 2)
 ·rw[A3 h2,A3 h2]
  have hlen2:2<=vs.length:=C2.mp h2
  have hR':=hR.monoD (YF (vs:=vs) ha)
  obtain⟨fs,k1,k2,k3⟩:=YD hP hR'
  refine A6 (kat_kind (T:=.type "int") k1 (k2▸C1 (by decide) (hlen▸hlen2)) (fun v hv=>?_) (by decide) ?_)
  ·obtain⟨j,t,rfl⟩:=k3 v hv
   exact Looks.now
  rw[show(Value.type "int" != Value.type "tuple")=true by decide]
  refine A6 (Dg (kat_run (A:=A) (ks:=vs) (vs:=vs) (E:=E) (Q:=fun st' s'=>s'={ T.s with heap:=JO T.s.heap a vs }/\failedOf st'=none/\∃p:Array Nat,arrOf st'=p.map (kas_item (vs.toArray.zip vs.toArray))/\CQ ds.length p/\Asc (fun i=>kd (ds.getD i .none)) p ds.length)
   (G:=fun p s'=>s'={ T.s with heap:=JO T.s.heap a vs }/\CQ ds.length p/\Asc (fun i=>kd (ds.getD i .none)) p ds.length)
   rfl hlen2 (hlen▸h64) (fun p st' s' b1 b2 b3 b4=>⟨b4.1,b3,p,b2,b4.2⟩) ?_) ?_ fun _ _ e=>e)
  ·rw[hlen]
   exact KW.wp (fun i j C hi hj hij hC=>YB (T:=T.hp (JO T.s.heap a vs) T.s.toks) hR' hP hn hi hj hij hC) (Q:=fun q=>CQ ds.length q/\Asc (fun i=>kd (ds.getD i .none)) q ds.length) (fun q hq=>⟨rfl,hq⟩) (Y4 (fun i j hi hj e=>Rr hn hi hj e) (hlen▸hlen2))
  ·rintro⟨⟨⟩,st'⟩ s' ⟨rfl,hf,p,har,hp,hs⟩
   dsimp only
   rw[kat_snds rfl har]
   refine A6 (seqEpoch_at ho6 rfl (A6 (listUpdate_at ho6 rfl ?_ (BK _) (by rw[Fb,A4,Bo,hp.1,<-hlen];exact Eh hz))))
   rw[hf,A3 (by rw[bne_self_eq_false];exact CT)]
   refine AM (k (List.toArray (p.toList.map fun i=>vs.getD i Value.none)) (Rv hR hn (Array.perm_iff_toList_perm.mp hp.2) (List.pairwise_iff_getElem.mpr fun i j hi hj hij=>?_)))
   have:=hs i j hij (by rw[Bo,hp.1] at hj;exact hj)
   rw[Array.getD_eq_getD_getElem?,Array.getD_eq_getD_getElem?,LZ hi,LZ hj] at this
   exact Int.le_of_lt this
theorem YH{a:Addr}{n:Nat}{P:Fin->Shared->Prop}(ho:T.s.heap.get? a=some (seqObj "list" vs.toArray n))(ha:¬T.M.F a)(hR:A7 (AR I T) ds vs)(hok:Gj ds=true)
 (k:∀out:Array Value,A7 (AR I T) (Bn kd ds) out.toList->P (.done (.ret .none)) { T.s with heap:=sortedHeap T.s.heap a vs out }):wpAny (model prog w) A (Builtin.«list.sort» ⟨[.ref a],[]⟩) P E T.s:=
 Ad hok fun h64 hok=>by
  have h64:=BP h64
  have pr:∀c,J6 ds c=true->wpAny (model prog w) A (Builtin.«list.sort» ⟨[.ref a],[]⟩) P E T.s:=fun c h=>Ad h fun hP hn=>YG ho ha hR h64 hP (Y7 hn) k
  cases h:ds.all KL with
  |true=>
   obtain⟨ns,rfl⟩:=Y9 h
   refine list_sort_tree ho (Rs hR) (hR.length▸h64) fun out ns' a1 a2 a3=>k out ?_
   rw[OC,show Bn (fun y=>kd (.int y)) ns=ns' from OB (k:=fun y=>y) ((IO ns).trans a2.symm) (M7 ns) (a3.imp id) fun x _ y _ e=>e]
   exact Rt a1
  |false=>
   rw[h] at hok
   cases h':J6 ds false with
   |true=>exact pr _ h'
   |false=>rw[h'] at hok;exact pr true hok
end
open PySem PyProof.Rows PySem.Calls PySem.W
section
variable{prog:Program}{w:World}{A:Around}{E:Value->Shared->Prop}{s:Shared}
theorem collect_via{R:List Value->Shared->Prop}{r:Addr}{n:Nat}{P:Nat->Value->Prop}
 (ext:∀{R:Result->Shared->Prop},(∀h' tk acc' c',(∀b o,b≠s.heap.objs.size->(s.heap.push (seqObj "list" #[] 0)).get? b=some o->h'.get? b=some o)->h'.get? s.heap.objs.size=some { cls:=.type "list",dict:=none,data:=.seq acc' c',slots:=#[] }->ItemsOf P acc' n->R (.ok (.ret (.ref s.heap.objs.size))) { s with heap:=h',toks:=tk })->
  wpAny (model prog w) A.in1 (Builtin.List.listExtendWith (.ref s.heap.objs.size) (.ref r) (.ref s.heap.objs.size)) (fun fin s'=>match fin with |.done f=>R (.ok f) s' |.again c'=>c'.quiet=true/\codeAny (model prog w) A c' R s') (fun e s'=>R (.error e) s') { s with heap:=s.heap.push (seqObj "list" #[] 0) })
 (h:∀(h':Heap) (tk:Nat) (vs:List Value),(∀b o,s.heap.get? b=some o->h'.get? b=some o)->vs.length=n->(∀j v,vs[j]?=some v->P j v)->R vs { s with heap:=h',toks:=tk }) :
 wpAny (model prog w) A (collect (.ref r)) R E s:=by
 have ext':∀{R:Result->Shared->Prop},(∀h' tk acc' c',(∀b o,b≠s.heap.objs.size->(s.heap.push (seqObj "list" #[] 0)).get? b=some o->h'.get? b=some o)->h'.get? s.heap.objs.size=some { cls:=.type "list",dict:=none,data:=.seq acc' c',slots:=#[] }->ItemsOf P acc' n->R (.ok (.ret (.ref s.heap.objs.size))) { s with heap:=h',toks:=tk })->
  codeAny (model prog w) A (.builtin "list.__iadd__" ⟨[.ref s.heap.objs.size,.ref r],[]⟩) R { s with heap:=s.heap.push (seqObj "list" #[] 0) }:=fun hR=>codeAny_builtin entry_list_iadd' (by rw[Around.under_plainId PySem.F.plain_list_iadd _];exact ext hR)
 unfold collect
 refine A6 (wpAny_runValue (codeAny_builtin entry_proto_collect' ?_))
 rw[Around.under_plainId PySem.F.plain_proto_collect _]
 show wpAny _ A.in1 (newList [] >>= fun l=>again (.builtin "list.__iadd__" ⟨[l,.ref r],[]⟩)) _ _ s
 refine A6 (wpAny_newObj_type (AM ⟨plainId_quiet PySem.F.plain_list_iadd _,ext' fun h' tk acc' c' hk hS' hacc=>?_⟩))
 exact A6 (wpAny_load hS' (AM (h h' tk acc'.toList (fun b o e=>hk b o (CA (Co e)) (DZ _ e)) (by rw[Bo];exact hacc.1) fun j v e=>hacc.2 j v (by rw[<-Array.getElem?_toList];exact e))))
end
structure SetG(prog:Program)(w:World)(P:Heap->Addr->List Int->Prop):Prop where
 keep:∀{h h':Heap} {a:Addr} {ks:List Int},P h a ks->(∀o,h.get? a=some o->h'.get? a=some o)->P h' a ks
 al:∀{h:Heap} {a:Addr} {ks:List Int},P h a ks->Al h a
 make:∀{A:Around} {E Q:Value->Shared->Prop} {s:Shared} {d:Addr} {kvs:List (Int×Value)},A.handled=none->(d == sysModules)=false->s.heap.DictOf (intKind prog w) d kvs->kvs.length<=20->(∀p∈kvs,0<=p.1/\p.1 < 64)->
  (∀h' tk a,(∀b o,s.heap.get? b=some o->h'.get? b=some o)->¬Al s.heap a->P h' a (kvs.map (·.1))->Q (.ref a) { s with heap:=h',toks:=tk })->wpAny (model prog w) A (call (.type "set") [.ref d]) Q E s
 union:∀{A:Around} {E Q:Value->Shared->Prop} {s:Shared} {a b:Addr} {ks ls:List Int},A.handled=none->a≠b->P s.heap a ks->P s.heap b ls->ks.length<=20->ls.length<=20->(∀k∈ks,0<=k/\k < 64)->(∀k∈ls,0<=k/\k < 64)->
  (∀h' tk c,(∀b o,s.heap.get? b=some o->h'.get? b=some o)->¬Al s.heap c->P h' c (IC ks ls)->Q (.ref c) { s with heap:=h',toks:=tk })->wpAny (model prog w) A (binaryOp .BitOr (.ref a) (.ref b)) Q E s
 coll:∀{A:Around} {E:Value->Shared->Prop} {Q:List Value->Shared->Prop} {s:Shared} {a:Addr} {ks:List Int},A.handled=none->P s.heap a ks->
  (∀h' tk vs ns,(∀b o,s.heap.get? b=some o->h'.get? b=some o)->IntsAre vs ns->ns.Perm ks->Q vs { s with heap:=h',toks:=tk })->wpAny (model prog w) A (collect (.ref a)) Q E s
theorem YI(ns:List Int):(ns.map D.int).all KL=true:=by
 induction ns with
 |nil=>rfl
 |cons a l ih=>exact ih
theorem YJ{a b:List Int}(h:a.Perm b):Bn kd (a.map D.int)=Bn kd (b.map D.int):=by
 rw[OC,OC]
 exact A2 (List.map D.int) (OB (k:=fun y=>y) (((IO a).trans h).trans (IO b).symm) (M7 a) (M7 b) fun x _ y _ e=>e)
section
variable{X:Cx}{F:Fx}{o:Ops}{n:Nat}{st st':St}{A:Around}{T T' T'':Sm}{Q:Value->Shared->Prop}{E:Value->Shared->Prop}{e:Expr}{r:R}{u:Value}{v:V}{σ:List Cell}{a:Addr}{l:List V}{us:List Value}{P:Heap->Addr->List Int->Prop}{b:Bool}{es:List (Int×V)}{kvs:List (Int×Value)}{c:Bool}{ds:List D}
noncomputable def KS(X:Cx)(F:Fx)(T:Sm)(st:St)(ds:List D)(Q:List Value->Shared->Prop):Prop:=∀vs T' ds',AE X F T st T'->A7 (AR X.I T') ds' vs->Gj ds'=true->Bn kd ds'=Bn kd ds->Q vs T'.s
theorem M8(H:Top X){x:Value}(i:Inv X F st T)(hc:∀{Q':List Value->Shared->Prop} {E':Value->Shared->Prop},KS X F T st ds Q'->WP X A.in1 (collect x) Q' E' T)(k:KR X F T Q (.fresh ((Bn kd ds).map .d),st)):WP X A (call (.builtin "sorted") [x]) Q E T:=by
 refine Calls.call_function_entry kind_sorted plain_sorted entry_sorted (args_sorted1 _) ?_
 unfold Builtin.«sorted»
 refine A6 (m:=checkCount "sorted" 1 1 _) (AM (A6 (hc fun vs T₁ ds' a₁ r₁ hok hsrt=>?_)))
 have h64:ds'.length < 64:=BP (Bb.mp hok).1
 have hz:vs.length<=sizeLine:=r₁.length▸A9 (BH h64) (by decide)
 refine A6 (wpAny_newList ?_ hz)
 have hoL:(T₁.s.heap.push (seqObj "list" vs.toArray 0)).get? T₁.s.heap.objs.size=some (seqObj "list" vs.toArray 0):=D2 _ rfl
 have a₂:AE X F T₁ st (T₁.hp (T₁.s.heap.push (seqObj "list" vs.toArray 0)) T₁.s.toks):=.grow a₁.inv (DS _ _)
 refine A6 (DJ (wpAny_call_entry slot_list_sort ⟨_,hoL,rfl⟩ entry_list_sort (YH (T:=T₁.hp (T₁.s.heap.push (seqObj "list" vs.toArray 0)) T₁.s.toks) hoL (fun f=>EU _ (a₁.inv.mid.fal _ f)) (r₁.monoD a₂.mono) hok fun out r₃=>⟨_,rfl,AM ⟨_,rfl,?_⟩⟩) (args_list_sort _)))
 obtain⟨e,he⟩:=sortedHeap_at (out:=out) hoL
 have hk:∀b o,T₁.s.heap.get? b=some o->(sortedHeap (T₁.s.heap.push (seqObj "list" vs.toArray 0)) T₁.s.heap.objs.size vs out).get? b=some o:=fun b o q=>by
  have hlt:b < T₁.s.heap.objs.size:=Co q
  rw[sortedHeap_old (CA hlt) (by rw[size_push'];exact Nat.lt_succ_of_lt hlt)]
  exact DS _ _ b o q
 have back:Mono (T₁.hp (T₁.s.heap.push (seqObj "list" vs.toArray 0)) T₁.s.toks) T₁:=⟨fun _ f=>f,fun b o f e=>(a₁.inv.mid.fal b f).elim fun o' e'=>((DS _ _ b o' e').symm.trans e)▸e',Bw _⟩
 rw[hsrt] at r₃
 have x:=Nz a₁.inv (l:=(Bn kd ds).map .d) (us:=out.toList) (A7.map.mpr (r₃.monoD back)) (by rw[A4,<-hsrt,(IO ds').length_eq];exact A9 (BH h64) (by decide)) (tk:=T₁.s.toks) (EU T₁.s.heap) he hk
 exact k _ _ (a₁.trans x.1) (x.2.older a₁.ext.al)
theorem M9{l l':List D}{C:List D->Prop}(h:ET l=some l')(k:Gj l=true->C (Bn kd l)):C l':=iK h fun ho h=>by cases h;exact k ho
theorem YK(H:Top X)(i:Inv X F st T)(hr:RR X F T' T r u)(hl:CP st.store r=some l)(hd:C3 l=some ds)(hok:Gj ds=true)(k:KR X F T Q (.fresh ((Bn kd ds).map .d),st)):WP X A (call (.builtin "sorted") [u]) Q E T:=
 lst_k (C:=fun u=>WP X A (call (.builtin "sorted") [u]) Q E T) i.mid hr hl fun a us ⟨m,o⟩ r z=>M8 H i (fun {Q' E'} k'=>collect_list ⟨_,o,rfl,m,rfl⟩ (by
  have a₁:AE X F T st (T.hp ((T.s.heap.push (seqObj "list" #[] 0)).update T.s.heap.objs.size (Obj.mapSeq (·++us.toArray))) T.s.toks):=.grow i fun b o q=>(Heap.get?_update_ne _ _ _ _ (CA (Co q))).trans (DS _ _ b o q)
  exact Gp (P:=fun l=>A7 (AA X.I T) l us->Q' us _) hd (fun r=>k' us _ ds a₁ ((A7.map (f:=V.d) (P:=AA X.I T)).mp r |>.monoD a₁.mono) hok rfl) r) (r.lim z)) k
theorem MA{prog:Program}{w:World}{k:Int}{v:Value}(h:(intKind prog w).is k v=true):∃t,v=.int k t:=by
 cases v <;> simp [intKind,Value.isInt] at h
 exact⟨_,by rw[h]⟩
theorem BC.length{I:Iota}:∀{kvs:List (Int×Value)},BC I T b es kvs->kvs.length=es.length:=by
 induction es with
 |nil=>intro kvs h;cases h;rfl
 |cons p es ih=>intro kvs h;obtain⟨v,ws,rfl,_,r⟩:=h;exact A2 (·+1) (ih r)
theorem BC.lim{I:Iota}(r:BC I T b es kvs)(z:es.length<=Mine.lim):kvs.length<=sizeLine:=r.length▸A9 z JM
theorem BC.get{I:Iota}:∀{kvs:List (Int×Value)} {j:Nat} {k:Int} {x:Value},BC I T b es kvs->kvs[j]?=some (k,x)->∃p,es[j]?=some p/\I.f b p.1=k/\AA I T p.2 x:=by
 induction es with
 |nil=>intro kvs j k x r e;cases r;cases e
 |cons p es ih=>
  intro kvs j k x r e
  obtain⟨v,ws,rfl,q,r⟩:=r
  cases j with
  |zero=>cases e;exact⟨p,rfl,rfl,q⟩
  |succ j=>have q:=ih r e;exact q
theorem YL(H:Top X){d:Bool×List (Int×V)}(hA:AO A n)(i:Inv X F st T)(hr:RR X F T' T r u)(hl:Ek st.store r=some d)(hok:Gj (d.2.map fun p=>DO (d.1,p.1))=true)(k:KR X F T Q (.fresh ((Bn kd (d.2.map fun p=>DO (d.1,p.1))).map .d),st)):WP X A (call (.builtin "sorted") [u]) Q E T:=
 Kj (C:=fun u=>WP X A (call (.builtin "sorted") [u]) Q E T) i.mid hr hl fun j a kvs D=>M8 H i (fun {Q' E'} k'=>by
  obtain⟨ep,hAt⟩:=D.obj.dictAt
  have K:=kdl_dict (knd:=intKind X.prog X.w) (kvs:=kvs) (ep:=ep) (D.nosys H i.mid)
  have hh:=K.there _ hAt
  refine collect_via (fun hR=>kdl_extend (A:=A.in1) (s:={ T.s with heap:=T.s.heap.push (seqObj "list" #[] 0) }) K hA.h (K.keep _ _ hAt fun b _ o e=>DZ _ e) _ (CV hh.1) (CV hh.2) _ 0 (D2 _ rfl) hR (D.rep.lim D.len)) fun h' tk vs hk hl hv=>?_
  have a₁:AE X F T st (T.hp h' tk):=.grow i hk
  refine k' vs _ _ a₁ (A7.ext (by rw[hl,D.rep.length,A4]) fun j d u e1 e2=>?_) hok rfl
  obtain⟨k₁,x₁,q1,q2⟩:=hv j u e2
  obtain⟨t,rfl⟩:=MA q2
  obtain⟨p,q3,rfl,_⟩:=D.rep.get q1
  rw[C0,q3] at e1
  cases e1
  exact AR.num (_,p.1) t) k
end
open PySem PyProof.Rows PySem.Calls PySem.W
section
variable{X:Cx}{F:Fx}{o:Ops}{n:Nat}{st st':St}{A:Around}{T T' T'':Sm}{Q:Value->Shared->Prop}{E:Value->Shared->Prop}{e:Expr}{r x:R}{u:Value}{v:V}{σ:List Cell}{a:Addr}{l:List V}{us:List Value}{b:Bool}{es:List (Int×V)}{kvs:List (Int×Value)}{c:Bool}{ds:List D}{f:Str}{p pos:Pos}
theorem YM(i:Inv X F st T)(hr:RR X F T' T r u)(hl:Gh st.store r=some l)(k:KR X F T Q (.val (.d (.int l.length)),st)):WP X A (call (.builtin "len") [u]) Q E T:=
 Ki (C:=fun u=>WP X A (call (.builtin "len") [u]) Q E T) i.mid hr hl fun ty a us hty ⟨m,o⟩ r z=>by
  have hfit:((us.toArray.size:Nat):Int) < 2 ^ 63:=Int.lt_of_le_of_lt (FZ.mpr (show us.length<=lim from r.length▸z)) M0
  have k':∀t tk,Q (.int (us.toArray.size:Nat) t) { T.s with toks:=tk }:=fun t tk=>by rw[Fb,r.length];exact k _ _ (.tok i tk) ⟨t,rfl⟩
  cases hty with
  |inl e=>cases e;exact call_len_list (items:=us.toArray) ⟨_,o,rfl,m,rfl⟩ hfit (k' _ _)
  |inr e=>cases e;exact PyProof.Rows.len_tuple (items:=us.toArray) ⟨_,o,rfl,m,rfl⟩ hfit (k' _ _)
theorem YN(i:Inv X F st T)(hr:RR X F T' T r u)(hl:Gh st.store r=some l)(k:KR X F T Q (.fresh l,st)):WP X A (call (.type "list") [u]) Q E T:=
 Ki (C:=fun u=>WP X A (call (.type "list") [u]) Q E T) i.mid hr hl fun ty a us hty ⟨m,o⟩ r z=>call_list_seq a hty o rfl rfl (fun h' c' hk hn=>have x:=Nz i r z (tk:=T.s.toks) (EU T.s.heap) hn hk;k _ _ x.1 x.2) (r.lim z)
theorem YO(i:Inv X F st T)(hr:RR X F T' T r u)(hl:CP st.store r=some l)(k:KR X F T Q (.val (EQ l),st)):WP X A (call (.type "tuple") [u]) Q E T:=
 lst_k (C:=fun u=>WP X A (call (.type "tuple") [u]) Q E T) i.mid hr hl fun a us ⟨m,o⟩ r z=>call_tuple_list (items:=us.toArray) ⟨_,o,rfl,m,rfl⟩ (fun h' hk=>by
  have a₁:AE X F T st (T.hp h' T.s.toks):=.grow i hk
  exact push_tup' a₁.inv (r.mono a₁.mono) z (k.then a₁)) (r.lim z)
theorem YQ{ns:List Int}{C:List D->Prop}(h:GB ds=some ns)(k:C (ns.map .int)):C ds:=by
 have:ds=ns.map .int:=by
  induction ds generalizing ns C with
  |nil=>cases h;rfl
  |cons d ds ih=>
   refine bK h fun q hq h=>bK h fun i hi h=>mK (C:=fun ns=>d::ds=ns.map .int) h fun s hs=>?_
   rw[ih (C:=fun _=>True) hs trivial]
   exact Ko (C:=fun d=>d::s.map .int=.int i::s.map .int) hq (Gq (P:=fun q=>DO q::s.map .int=.int i::s.map .int) hi rfl)
 rw[this];exact k
theorem OE{ns:List Int}{id:String}(i:Inv X F st T)(hr:RR X F T' T r u)(hl:CP st.store r=some l)(hd:C3 l=some ds)(hn:GB ds=some ns)(h:∀la (xs:Array (Int×Tok)),T.s.heap.IsList la (intItems xs)->ns=xs.toList.map (·.1)->WP X A (call (.builtin id) [.ref la]) Q E T):WP X A (call (.builtin id) [u]) Q E T:=
 lst_k (C:=fun u=>WP X A (call (.builtin id) [u]) Q E T) i.mid hr hl fun la us ⟨m,o⟩ r z=>Gp (P:=fun l=>A7 (AA X.I T) l us->WP X A (call (.builtin id) [.ref la]) Q E T) hd (YQ (C:=fun ds=>A7 (AA X.I T) (ds.map .d) us->WP X A (call (.builtin id) [.ref la]) Q E T) hn fun r=>by
  have hI:=Rs ((A7.map (f:=V.d) (P:=AA X.I T)).mp r)
  obtain⟨xs,e⟩:=hI.allInts.items
  exact h la xs (e▸(⟨_,o,rfl,m,rfl⟩:T.s.heap.IsList la us.toArray)) (by rw[<-hI.numsOf,<-nums_intItems,<-e])) r
theorem YR{lt:Int->Int->Bool}{l:List Int}{j:Int}(h:El lt l=some j):j∈l/\∀a∈l,lt a j=true:=by
 unfold El at h
 exact⟨List.mem_of_find?_eq_some h,fun a ha=>CO.mp (List.find?_some (p:=fun m=>l.all fun a=>lt a m) h) a ha⟩
theorem Rw{lt:Int->Int->Bool}{xs:Array (Int×Tok)}{j:Int}{b:Nat}(ha:∀x y,lt x y=true->lt y x=true->x=y)(hj:El lt (xs.toList.map (·.1))=some j)(h:0 < xs.size->b<=xs.size - 1/\∀i,i<=xs.size - 1->lt (numAt xs i) (numAt xs b)=true):0 < xs.size/\numAt xs b=j:=by
 obtain⟨hm,hall⟩:=YR hj
 have hz:(xs.toList.map (·.1)).length=xs.size:=by rw[A4,Bo]
 have hpos:0 < xs.size:=hz▸List.length_pos_of_mem hm
 obtain⟨h1,h2⟩:=h hpos
 obtain⟨i,hi,e⟩:=mem_getD hm
 refine⟨hpos,ha _ _ ?_ ?_⟩
 ·refine hall _ ?_
  rw[numAt_eq];exact getD_mem (by rw[hz];exact Aa h1 (Nat.sub_lt hpos Nat.one_pos))
 ·have:=h2 i (Nat.le_sub_one_of_lt (hz▸hi))
  rw[numAt_eq xs i,e] at this;exact this
theorem YS{ns:List Int}{j:Int}(hA:AO A n)(i:Inv X F st T)(hr:RR X F T' T r u)(hl:CP st.store r=some l)(hd:C3 l=some ds)(hn:GB ds=some ns)(hj:El I8 ns=some j)(k:KR X F T Q (.val (.d (.int j)),st)):WP X A (call (.builtin "max") [u]) Q E T:=
 OE i hr hl hd hn fun la xs hL hns=>by
  obtain⟨hpos,hm⟩:=Rw (fun x y a b=>Int.le_antisymm (BP a) (BP b)) (hns▸hj) fun _=>⟨(argBest_gt (numAt xs) (xs.size - 1)).1,fun i hi=>Ae ((argBest_gt (numAt xs) (xs.size - 1)).2 i hi)⟩
  refine max_intList hA.h hL hpos fun v h' tk hv hk=>?_
  obtain⟨t,rfl⟩:=intItems_at hv
  exact k _ _ (.grow i hk) ⟨t,by rw[<-hm]⟩
theorem YT{ns:List Int}{j:Int}(hA:AO A n)(i:Inv X F st T)(hr:RR X F T' T r u)(hl:CP st.store r=some l)(hd:C3 l=some ds)(hn:GB ds=some ns)(hj:El I9 ns=some j)(k:KR X F T Q (.val (.d (.int j)),st)):WP X A (call (.builtin "min") [u]) Q E T:=
 OE i hr hl hd hn fun la xs hL hns=>by
  obtain⟨hpos,hm⟩:=Rw (fun x y a b=>Int.le_antisymm (BP b) (BP a)) (hns▸hj) fun _=>⟨(argBest_lt (numAt xs) (xs.size - 1)).1,fun i hi=>Ae ((argBest_lt (numAt xs) (xs.size - 1)).2 i hi)⟩
  refine min_intList hA.h hL hpos fun v h' tk hv hk=>?_
  obtain⟨t,rfl⟩:=intItems_at hv
  exact k _ _ (.grow i hk) ⟨t,by rw[<-hm]⟩
theorem YU{ns:List Int}(hA:AO A n)(i:Inv X F st T)(hr:RR X F T' T r u)(hl:CP st.store r=some l)(hd:C3 l=some ds)(hn:GB ds=some ns)(k:KR X F T Q (.val (.d (.int ns.sum)),st)):WP X A (call (.builtin "sum") [u]) Q E T:=
 OE i hr hl hd hn fun la xs hL hns=>sum_intListG hA.h hL fun h' tk t' hk=>k _ _ (.grow i hk) ⟨t',by rw[preSum_eq,hns,List.take_of_length_le (by rw[A4,Bo];exact Am _)]⟩
theorem IP(HT:Top X){v:Value}(hb:DQ X.G F.fn f=true)(hv:JG.lookup f=some v)(hform:(∃id,v=.builtin id)\/∃id,v=.type id)(hst:backTo pos (starEach [e] F.env)=[(false,eval e F.env)])(i:Inv X F st T)
 (h:WP X A (eval e F.env) (fun u s=>wpAny (model X.prog X.w) A (call v [u]) Q E s) E T):WP X A (eval (.Call (.Name f p) [e] [] pos) F.env) Q E T:=by
 refine wpAny_Call_Name_kw (M4 HT hb hv i ?_)
 rw[hst]
 have h':wpAny (model X.prog X.w) A (spliced [(false,eval e F.env)]) (fun vs s=>wpAny (model X.prog X.w) A (call v vs) Q E s) E T.s:=spliced_cons (Dg h (fun u s q=>spliced_nil q) fun _ _ q=>q)
 cases hform with
 |inl q=>obtain⟨id,rfl⟩:=q;exact callWith_builtin rfl (evalArgs_plain h')
 |inr q=>obtain⟨id,rfl⟩:=q;exact PySem.callWith_type rfl (evalArgs_plain h')
structure BltAt(X:Cx)(F:Fx)(A:Around)(Q E:Value->Shared->Prop)(T:Sm)(f:Str)(u:Value)(v:Value):Prop where
 val:JG.lookup f=some v
 form:(∃id,v=.builtin id)\/∃id,v=.type id
 wp:WP X A (call v [u]) Q E T
theorem YV(HT:Top X)(hA:AO A n)(i:Inv X F st T)(hr:RR X F T' T r u)(he:GC st.store f r=some x)(k:KR X F T Q (x,st)){P:Prop}(c:∀v,BltAt X F A Q E T f u v->P):P:=
 eK he (fun hf he=>mQ (C:=fun x=>KR X F T Q (x,st)) he k fun l hl k=>c _ ⟨hf▸rfl,.inl ⟨_,rfl⟩,YM i hr hl k⟩) fun he=>
 eK he (fun hf he=>mQ (C:=fun x=>KR X F T Q (x,st)) he k fun l hl k=>c _ ⟨hf▸rfl,.inr ⟨_,rfl⟩,YN i hr hl k⟩) fun he=>
 eK he (fun hf he=>mQ (C:=fun x=>KR X F T Q (x,st)) he k fun l hl k=>c _ ⟨hf▸rfl,.inr ⟨_,rfl⟩,YO i hr hl k⟩) fun he=>
 eK he (fun hf he=>oK he (fun d hd he=>mQ (C:=fun x=>KR X F T Q (x,st)) he k fun l hl k=>M9 (C:=fun l=>KR X F T Q (.fresh (l.map .d),st)->P) hl (fun ho k=>c _ ⟨hf▸rfl,.inl ⟨_,rfl⟩,YL HT hA i hr hd ho k⟩) k)
  fun _ he=>bK he fun l hl he=>bK he fun ds hd he=>mQ (C:=fun x=>KR X F T Q (x,st)) he k fun l' hl' k=>M9 (C:=fun l=>KR X F T Q (.fresh (l.map .d),st)->P) hl' (fun ho k=>c _ ⟨hf▸rfl,.inl ⟨_,rfl⟩,YK HT i hr hl hd ho k⟩) k) fun he=>
 eK he (fun hf he=>bK he fun l hl he=>bK he fun ds hd he=>bK he fun ns hn he=>mQ (C:=fun x=>KR X F T Q (x,st)) he k fun j hj k=>c _ ⟨hf▸rfl,.inl ⟨_,rfl⟩,YS hA i hr hl hd hn hj k⟩) fun he=>
 eK he (fun hf he=>bK he fun l hl he=>bK he fun ds hd he=>bK he fun ns hn he=>mQ (C:=fun x=>KR X F T Q (x,st)) he k fun j hj k=>c _ ⟨hf▸rfl,.inl ⟨_,rfl⟩,YT hA i hr hl hd hn hj k⟩) fun he=>
 eK he (fun hf he=>bK he fun l hl he=>bK he fun ds hd he=>mQ (C:=fun x=>KR X F T Q (x,st)) he k fun ns hn k=>c _ ⟨hf▸rfl,.inl ⟨_,rfl⟩,YU hA i hr hl hd hn k⟩) fun he=>nK he
end
open PySem PyProof.Rows PySem.Calls PySem.W
section
variable{X:Cx}{F:Fx}{o:Ops}{n:Nat}{st st':St}{A:Around}{T T' T'':Sm}{Q:Unit->Shared->Prop}{E:Value->Shared->Prop}{e:Expr}{r x:R}{u:Value}{v:V}{σ:List Cell}{a:Addr}{l:List V}{us:List Value}
theorem Rx{y:Str}{P:Prop}(h:Cg F.fn y=true)(kl:F.fn.names.lookup y=some .local->P)(kc:F.fn.names.lookup y=some .cell->P):P:=
 (Iz.mp h).elim (fun h=>kl (beq_iff_eq.mp h)) fun h=>kc (beq_iff_eq.mp h)
theorem IQ{y:Str}(hx:Cg F.fn y=true)(i:Inv X F st T)(hv:AA X.I T v u)(k:KU X F T Q (st.set y v)):WP X A (storeName F.env y u) Q E T:=by
 obtain⟨m,cm,hn,hc,_⟩:=i.frm.has
 refine Rx hx (fun hx=>?_) fun hx=>?_
 ·exact wpAny_storeName_local (i.frm.loc y hx) hn (fun h' hn' hs'=>k _ (.setLocal i hx hn hn' hs' hv)) (by rw[i.frm.kind];rfl)
 ·obtain⟨c,hcl⟩:=i.frm.cells y (.inl (i.frm.cel y hx))
  exact wpAny_storeName_cell i.frm.kind (i.frm.cel y hx) hcl (hc y c hcl) fun h' hc' hs'=>k _ (.setCell (tk:=T.s.toks) i hx hcl hc' hs' hv)
structure PrAt(X:Cx)(T:Sm)(v:V)(u:Value)(Ta:Addr)(x y:Value)(a b:V):Prop where
 u:u=.ref Ta
 obj:T.s.heap.IsTuple Ta #[x,y]
 v:v=.tup [a,b]
 a:AA X.I T a x
 b:AA X.I T b y
noncomputable def MB(X:Cx)(pr:Bool)(T:Sm)(v:V)(u:Value):Prop:=cond pr (∃Ta x y a b,PrAt X T v u Ta x y a b) (AA X.I T v u)
theorem Ry{y z:Str}{px py pt:Pos}{kt:Nat}{Ta:Addr}{ux uy:Value}{a b:V}(hA:AO A n)(hx:Cg F.fn y=true)(hy:Cg F.fn z=true)(i:Inv X F st T)(hT:T.s.heap.IsTuple Ta #[ux,uy])(ha:AA X.I T a ux)(hb:AA X.I T b uy)(k:KU X F T Q ((st.set y a).set z b)) :
 WP X A (assign (.Tuple [.Name y px,.Name z py] kt pt) F.env (.ref Ta)) Q E T:=
 wpAny_assign_Tuple hA.h hT rfl rfl fun h' hk=>by
  have a₁:AE X F T st (T.hp h' T.s.toks):=.grow i fun b o e=>hk b o (CA (Co e)) e
  exact PyProof.Rows.assignInOrder_cons (wpAny_assign_Name (IQ hx a₁.inv (ha.mono a₁.mono) fun T₂ a₂=>PyProof.Rows.assignInOrder_cons (wpAny_assign_Name (IQ hy a₂.inv (hb.mono (a₁.mono.trans a₂.mono)) fun T₃ a₃=>PyProof.Rows.assignInOrder_nil (k T₃ ((a₁.s.trans a₂).trans a₃))))))
noncomputable def Tg.Is(e:Expr):Tg->Prop
 |.one x=>∃p,e=.Name x p
 |.two x y=>∃p q k r,e=.Tuple [.Name x p,.Name y q] k r
theorem MC{t:Tg}(h:Dm e=some t):t.Is e:=
 oK h (fun x hx h=>JK (C:=fun e=>t.Is e) hx fun p=>by cases h;exact⟨p,rfl⟩) fun _ h=>bK h fun es hs h=>Nw (C:=fun e=>t.Is e) hs fun c q=>mK (C:=fun t=>Tg.Is (.Tuple es c q) t) h fun p hp=>bK hp fun z hz hp=>bK hp fun x hx hp=>mK (C:=fun p:Str×Str=>Tg.Is (.Tuple es c q) (Tg.two p.1 p.2)) hp fun y hy=>
  IN (C:=fun es=>(Tg.two x y).Is (.Tuple es c q)) hz (by
   obtain⟨a,b⟩:=z
   exact JK (C:=fun a=>(Tg.two x y).Is (.Tuple [a,b] c q)) hx fun p=>JK (C:=fun b=>(Tg.two x y).Is (.Tuple [.Name x p,b] c q)) hy fun p'=>⟨p,p',c,q,rfl⟩)
theorem Rz{t:Tg}{pr:Bool}(hA:AO A n)(ht:Dm e=some t)(hok:Cr F.fn pr t=true)(he:Em t v st=some st')(i:Inv X F st T)(hv:MB X pr T v u)(k:KU X F T Q st'):WP X A (assign e F.env u) Q E T:=by
 have hi:=MC ht
 cases t with
 |one y=>
  obtain⟨p,rfl⟩:=hi
  refine Ad hok fun h1 h2=>?_
  cases pr with
  |true=>cases h1
  |false=>exact wpAny_assign_Name (IQ h2 i hv (sQ he k))
 |two y z=>
  obtain⟨p,q,c,s,rfl⟩:=hi
  refine Ad hok fun h1 h3=>Ad h1 fun _ h2=>bK he fun l hl he=>mQ he k fun w hw k=>?_
  cases pr with
  |true=>
   obtain⟨Ta,ux,uy,a,b,P⟩:=hv
   have hl:Ha (.tup [a,b])=some l:=P.v▸hl
   cases hl
   cases hw
   rw[P.u]
   exact Ry hA h2 h3 i P.obj P.a P.b k
  |false=>exact O1 (C:=fun u=>WP X A (assign (.Tuple [.Name y p,.Name z q] c s) F.env u) Q E T) hv hl fun Ta us f ⟨m,o⟩ r _=>IN (C:=fun l=>A7 (AA X.I T) l us->_) hw (fun r=>r.k2 (C:=fun us=>T.s.heap.get? Ta=some (seqObj "tuple" us.toArray m)->WP X A (assign (.Tuple [.Name y p,.Name z q] c s) F.env (.ref Ta)) Q E T) (fun ux uy ha hb o=>Ry hA h2 h3 i ⟨_,o,rfl,m,rfl⟩ ha hb k) o) r
noncomputable def Mm.fz(M:Mm)(l:Nat)(a:Addr):Mm:={ F:=fun b=>M.F b\/b=a,ad:=M.ad,gp:=M.gp.set l [] }
theorem MD{gs:List (List Addr)}{l:Nat}{b:Addr}(h:b∈(gs.set l []).flatten):b∈gs.flatten:=by
 obtain⟨g,hg,hm⟩:=List.mem_flatten.mp h
 exact(List.mem_or_eq_of_mem_set hg).elim (fun hg=>List.mem_flatten.mpr ⟨g,hg,hm⟩) fun e=>by cases e;cases hm
theorem YW{gs:List (List Addr)}:∀{l:Nat} {a:Addr},gs.flatten.Nodup->gs[l]?=some [a]->a∉(gs.set l []).flatten:=by
 induction gs with
 |nil=>exact fun _ h=>by cases h
 |cons g gs ih=>
  intro l a hn h
  obtain⟨_,h2,h3⟩:=FD.mp (List.flatten_cons▸hn)
  cases l with
  |zero=>cases h;exact fun q=>h3 a (DE a) a q rfl
  |succ l=>exact fun q=>(Bv.mp (List.flatten_cons▸q)).elim (fun q=>h3 a q a (List.mem_flatten.mpr ⟨[a],Fa h,DE a⟩) rfl) (ih h2 h)
theorem YX{gs:List (List Addr)}:∀{l:Nat},gs.flatten.Nodup->(gs.set l []).flatten.Nodup:=by
 induction gs with
 |nil=>exact fun h=>h
 |cons g gs ih=>
  intro l hn
  obtain⟨h1,h2,h3⟩:=FD.mp (List.flatten_cons▸hn)
  cases l with
  |zero=>exact h2
  |succ l=>exact List.flatten_cons▸FD.mpr ⟨h1,ih h2,fun x hx y hy=>h3 x hx y (MD hy)⟩
theorem Mono.fz(l:Nat)(a:Addr):Mono T (T.mm (T.M.fz l a)):=⟨fun _ f=>.inl f,fun _ _ _ e=>e,Bw _⟩
theorem Mid.fz(x:Mid X σ T){j:Nat}{c:Cell}(hg:T.M.gp[j]?=some [a])(ha:T.M.ad[j]?=some a)(hc:E5 X (T.mm (T.M.fz j a)) a [] c):Mid X (σ.set j c) (T.mm (T.M.fz j a)) where
 top:=x.top
 base b q:=.inl (x.base b q)
 fal b f:=f.elim (x.fal b) fun e=>by rw[e];exact x.wal (Mm.W_of hg (DE a))
 fw b f q:=f.elim (fun f=>x.fw b f (MD q)) fun e=>YW x.nod hg (e▸q)
 la:=x.la.trans List.length_set.symm
 lg:=(List.length_set.trans x.lg).trans List.length_set.symm
 nod:=YX x.nod
 cell k c' e:=(getElem?_set_some e).elim (fun w=>⟨a,[],w.1▸ha,by rw[<-w.1];exact List.getElem?_set_self (FC.mp hg).1,w.2▸hc⟩) fun w=>(x.cell k c' w.2).imp fun a' q=>q.imp fun g' q=>
  ⟨q.1,(List.getElem?_set_ne w.1).trans q.2.1,q.2.2.mono (.fz j a) fun b o _ e=>e⟩
theorem Inv.fz(x:Inv X F st T){j:Nat}{c:Cell}(hg:T.M.gp[j]?=some [a])(ha:T.M.ad[j]?=some a)(hc:E5 X (T.mm (T.M.fz j a)) a [] c):AE X F T (st.put j c) (T.mm (T.M.fz j a)) where
 ext:=⟨⟨_,_,rfl⟩,fun _ _ e _=>e,fun _ e=>e,fun _ f=>.inl f,fun b f=>f.elim .inl fun e=>.inr (.inl (e▸Mm.W_of hg (DE a))),fun b f=>.inl (MD f),Bw _⟩
 mono:=.fz j a
 inv:=⟨x.mid.fz hg ha hc,fun b f=>⟨fun q=>q.elim (x.ffa b f).1 fun e=>(x.ffa b f).2 (e▸Mm.W_of hg (DE a)),fun q=>(x.ffa b f).2 (MD q)⟩,x.frm.mono (.fz j a) fun b o _ e=>e⟩
end
open PySem PyProof.Rows PySem.Calls PySem.W
structure SrcAt(X:Cx)(F:Fx)(A:Around)(t:Expr)(it:It)(T₀ T:Sm)(I:Addr)(N:Nat)(fp wr:List Addr)(P Md:Nat->Value->Heap->Prop)(St:Nat->Heap->Prop):Prop where
 len:it.items.length=N
 turns:KTurns X.prog X.w A t I fp wr N P Md St
 st0:St 0 T.s.heap
 al:∀i h,St i h->∀b∈fp,Al h b
 fp:∀b∈fp,¬Wa F T b/\(T.M.F b\/¬Al T₀.s.heap b)
 wr:∀b∈wr,¬T.M.F b/\¬Al T₀.s.heap b
 item:∀(i:Nat) (v:Value) (T':Sm) (x:V),it.items[i]?=some x->Mono T T'->P i v T'.s.heap->MB X it.pr T' x v
 self:∀(i:Nat) (s':Shared) (Q:Value->Shared->Prop) (E:Value->Shared->Prop),St i s'.heap->Q (.ref I) s'->wpAny (model X.prog X.w) A (pyIter (.ref I)) Q E s'
inductive Src(X:Cx)(F:Fx)(A:Around)(t:Expr)(it:It)(T₀ T:Sm)(I:Addr):Prop where
 |mk (N:Nat) (fp wr:List Addr) (P Md:Nat->Value->Heap->Prop) (St:Nat->Heap->Prop) (x:SrcAt X F A t it T₀ T I N fp wr P Md St)
noncomputable def KI(X:Cx)(F:Fx)(A:Around)(t:Expr)(T:Sm)(Q:Value->Shared->Prop)(p:It×St):Prop:=∀I T',AE X F T p.2 T'->Src X F A t p.1 T T' I->Q (.ref I) T'.s
section
variable{X:Cx}{F:Fx}{o:Ops}{n:Nat}{st st':St}{A:Around}{T T₀ T' T'':Sm}{Q:Value->Shared->Prop}{E:Value->Shared->Prop}{e:Expr}{r x:R}{u:Value}{v:V}{σ:List Cell}{a b I la:Addr}{l:List V}{us:List Value}{t:Tg}{s:Shared}
theorem SrcAt.older{it:It}{N:Nat}{fp wr:List Addr}{P Md:Nat->Value->Heap->Prop}{St:Nat->Heap->Prop}(x:SrcAt X F A e it T' T'' I N fp wr P Md St)(h:∀a,Al T.s.heap a->Al T'.s.heap a):SrcAt X F A e it T T'' I N fp wr P Md St:=
 { x with fp:=fun b q=>⟨(x.fp b q).1,(x.fp b q).2.imp_right fun q k=>q (h b k)⟩,wr:=fun b q=>⟨(x.wr b q).1,fun k=>(x.wr b q).2 (h b k)⟩ }
theorem KI.then{p:It×St}(k:KI X F A e T Q p)(a:AE X F T st T'):KI X F A e T' Q p:=fun I T'' b q=>k I T'' (a.trans b) (by cases q with |mk N fp wr P Md St x=>exact⟨N,fp,wr,P,Md,St,x.older a.ext.al⟩)
theorem OF{ty:String}{ob:Obj}{fs:Array Value}{Q:Unit->Shared->Prop}{w:Value}(ht:t.Is e)(ho:s.heap.get? I=some ob)(hc:ob.cls=.type ty)(hd:ob.data=.fields fs)
 (hT:["enumerate","zip","dict_itemiterator","dict_reverseitemiterator","odict_iterator","itertools.zip_longest","itertools.pairwise"].contains ty=false) (k:Q () s):wpAny (model X.prog X.w) A (letOwnedTupleGo e (.ref I) w) Q E s:=by
 cases t with
 |one y=>obtain⟨p,rfl⟩:=ht;exact AM k
 |two y z=>
  obtain⟨p,q,c,r,rfl⟩:=ht
  unfold letOwnedTupleGo
  cases w with
  |ref w=>
   refine A6 (wpAny_load ho ?_)
   rw[hc,hd]
   dsimp only
   rw[hT]
   exact AM k
  |_=>exact AM k
theorem Kq(i:Inv X F st T){h:Heap}{tk:Nat}(hb:¬Al T.s.heap b):¬Wa F (T.hp h tk) b/\((T.hp h tk).M.F b\/¬Al T.s.heap b):=⟨fun q=>hb (q.elim i.wal i.faal),.inr hb⟩
theorem Kr(i:Inv X F st T){h:Heap}{tk:Nat}(hb:¬Al T.s.heap b):¬(T.hp h tk).M.F b/\¬Al T.s.heap b:=⟨fun f=>hb (i.mid.fal _ f),hb⟩
theorem A7.at_{I:Iota}{j:Nat}{w:Value}{y:V}(r:A7 (AA I T) l us)(e:us.toArray[j]?=some w)(hx:l[j]?=some y):AA I T y w:=by
 obtain⟨u,e1,q⟩:=r.get hx
 cases (List.getElem?_toArray.trans e1).symm.trans e
 exact q
theorem S0{ity:String}{ob:Obj}{St:Nat->Heap->Prop}(ht:t.Is e)(i:Inv X F st T)(r:A7 (AA X.I T) l us)(hF:T.M.F la)
 (hT:["enumerate","zip","dict_itemiterator","dict_reverseitemiterator","odict_iterator","itertools.zip_longest","itertools.pairwise"].contains ity=false)
 (W:Walks X.prog X.w A T.s.heap.objs.size [T.s.heap.objs.size,la] [T.s.heap.objs.size] us.toArray.size (fun j v=>us.toArray[j]?=some v) St) (st0:St 0 (T.s.heap.push ob))
 (hst:∀j h,St j h->(∃ob fs,h.get? T.s.heap.objs.size=some ob/\ob.cls=.type ity/\ob.data=.fields fs)/\Al h la) (k:KI X F A e T Q (⟨l,false⟩,st)):Q (.ref T.s.heap.objs.size) { T.s with heap:=T.s.heap.push ob }:=by
 have a₁:AE X F T st (T.hp (T.s.heap.push ob) T.s.toks):=.grow i (DS _ _)
 have hI:=EU T.s.heap
 exact k _ _ a₁ ⟨_,[T.s.heap.objs.size,la],[T.s.heap.objs.size],_,_,St,{
  len:=r.length.symm
  turns:=KTurns.ofWalks (target:=e) W fun j v s₁ Q₁ E₁ h hq=>(hst j _ h).1.elim fun ob q=>q.elim fun fs q=>OF ht q.1 q.2.1 q.2.2 hT hq
  st0:=st0
  al:=fun j h q b hb=>(Au.mp hb).elim (fun e=>e▸(hst j h q).1.imp fun ob q=>q.elim fun _ q=>q.1) fun hb=>Ar.mp hb▸(hst j h q).2
  fp:=fun b hb=>(Au.mp hb).elim (fun e=>e▸Kq i hI) fun hb=>Ar.mp hb▸⟨i.fr hF,.inl hF⟩
  wr:=fun b hb=>Ar.mp hb▸Kr i hI
  item:=fun j v T' x hx m hp=>(r.at_ hp hx).mono (a₁.mono.trans m)
  self:=fun j s₁ Q₁ E₁ h hq=>W.self j s₁ Q₁ E₁ h hq }⟩
theorem YY(hA:AO A n)(ht:t.Is e)(i:Inv X F st T)(o:T.seq "list" la us)(r:A7 (AA X.I T) l us)(hF:T.M.F la)(k:KI X F A e T Q (⟨l,false⟩,st)):WP X A (pyIter (.ref la)) Q E T:=by
 obtain⟨m,o⟩:=o
 have hL:T.s.heap.IsList la us.toArray:=⟨_,o,rfl,m,rfl⟩
 exact wpAny_pyIter_list hL (S0 ht i r hF (by decide) (Walks.list hA.h _ la (CA (Co o)) us.toArray) ⟨⟨_,D2 _ rfl,rfl,rfl⟩,hL.at fun o e=>DS _ _ _ o e⟩
  (fun j h q=>⟨q.1.imp fun _ q=>⟨_,q⟩,q.2.imp fun _ q=>q.1⟩) k)
theorem YZ(hA:AO A n)(ht:t.Is e)(i:Inv X F st T)(o:T.seq "tuple" la us)(r:A7 (AA X.I T) l us)(hF:T.M.F la)(k:KI X F A e T Q (⟨l,false⟩,st)):WP X A (pyIter (.ref la)) Q E T:=by
 obtain⟨m,o⟩:=o
 have hL:T.s.heap.IsTuple la us.toArray:=⟨_,o,rfl,m,rfl⟩
 exact wpAny_pyIter_tuple hL (S0 ht i r hF (by decide) (Walks.tuple hA.h _ la (CA (Co o)) us.toArray) ⟨⟨_,D2 _ rfl,rfl,rfl⟩,hL.at fun o e=>DS _ _ _ o e⟩
  (fun j h q=>⟨q.1.imp fun _ q=>⟨_,q⟩,q.2.imp fun _ q=>q.1⟩) k)
theorem BC.at_{I:Iota}{b:Bool}{es:List (Int×V)}:∀{kvs:List (Int×Value)},BC I T b es kvs->kvs.length=es.length/\∀(j:Nat) (p:Int×V),es[j]?=some p->∃x,kvs[j]?=some (I.f b p.1,x):=by
 induction es with
 |nil=>intro kvs h;cases h;exact⟨rfl,fun _ _ h=>by cases h⟩
 |cons q es ih=>
  intro kvs h
  obtain⟨v,ws,rfl,_,r⟩:=h
  refine⟨A2 (·+1) (ih r).1,fun j p h=>?_⟩
  cases j with
  |zero=>cases h;exact⟨v,rfl⟩
  |succ j=>exact(ih r).2 j p h
theorem Yb{bb:Bool}{es:List (Int×V)}{kvs:List (Int×Value)}(hA:AO A n)(ht:t.Is e)(i:Inv X F st T)(hF:T.M.F la)(hns:(la == sysModules)=false)(hD:T.s.heap.DictOf (intKind X.prog X.w) la kvs)(r:BC X.I T bb es kvs)(k:KI X F A e T Q (⟨es.map fun p=>.d (DO (bb,p.1)),false⟩,st)):WP X A (pyIter (.ref la)) Q E T:=by
 obtain⟨ep,hD⟩:=hD.dictAt
 refine wpAny_pyIter_dict hns hD ?_
 have hI:=EU T.s.heap
 have hla:la≠T.s.heap.objs.size:=CA hD.lt_size
 have W:=Walks.dictKeys (prog:=X.prog) (w:=X.w) (A:=A) (knd:=intKind X.prog X.w) hA.h T.s.heap.objs.size la hla kvs ep
 have a₁:AE X F T st (T.hp (T.s.heap.push { cls:=.type "dict_keyiterator",data:=.fields #[.ref la,.int 0 0,.int kvs.length 0,.int ep 0] }) T.s.toks):=.grow i (DS _ _)
 exact k _ _ a₁ ⟨_,[T.s.heap.objs.size,la],[T.s.heap.objs.size],_,_,_,{
  len:=(A4 _).trans r.at_.1.symm
  turns:=KTurns.ofWalks (target:=e) W fun j v s₁ Q₁ E₁ h hq=>h.1.elim fun ob q=>OF ht q.1 q.2.1 q.2.2 (by decide) hq
  st0:=⟨⟨_,D2 _ rfl,rfl,rfl⟩,hD.push _⟩
  al:=fun j h q b hb=>(Au.mp hb).elim (fun e=>e▸q.1.imp fun ob q=>q.1) fun hb=>Ar.mp hb▸q.2.imp fun ob q=>q.elim fun _ q=>q.1
  fp:=fun b hb=>(Au.mp hb).elim (fun e=>e▸Kq i hI) fun hb=>by rw[Ar.mp hb];exact⟨i.fr hF,.inl hF⟩
  wr:=fun b hb=>Ar.mp hb▸Kr i hI
  item:=fun j v T' x hx m q=>by
   obtain⟨key,y,h1,h2⟩:=q
   rw[C0] at hx
   cases he:es[j]? with
   |none=>rw[he] at hx;cases hx
   |some p=>
    rw[he] at hx
    cases hx
    obtain⟨z,e⟩:=r.at_.2 j p he
    cases h1.symm.trans e
    obtain⟨tk,rfl⟩:=MA h2
    cases bb <;> exact⟨tk,rfl⟩
  self:=fun j s₁ Q₁ E₁ h hq=>W.self j s₁ Q₁ E₁ h hq }⟩
theorem Yc{a b c:Int}{P:Prop}(h:J7 a b c=true)(k:0 < c->a.natAbs<=4294967296->b.natAbs<=4294967296->c.natAbs<=4294967296->((b - a+c - 1) / c).toNat<=lim->P):P:=
 Ad h fun h h5=>Ad h fun h h4=>Ad h fun h h3=>Ad h fun h1 h2=>k (BP h1) (BP h2) (BP h3) (BP h4) (BP h5)
theorem Yd{b:Int}{t₁ t₂ t₃:Tok}(hA:AO A n)(ht:t.Is e)(i:Inv X F st T)(hr:IsRange T.s.heap la 0 b 1 t₁ t₂ t₃)(hok:J7 0 b 1=true)(k:KI X F A e T Q (Lf (ID 0 b 1),st)):WP X A (pyIter (.ref la)) Q E T:=
 Yc hok fun _ _ hb _ hz=>by
  have hsm:Builtin.Range.small 0 b 1=true:=small_one (by omega) (by omega) (by omega) (by omega)
  refine wpAny_pyIter_range hr hsm ?_
  have hlen:(It.items (Lf (ID 0 b 1))).length=(b - 0).toNat:=by
   show(((List.range _).map _).map _).length=_
   rw[A4,A4,List.length_range,Int.ediv_one,Int.add_sub_cancel]
  have W:=Walks.range (prog:=X.prog) (w:=X.w) (A:=A) hA.h T.s.heap.objs.size 0 1 (b - 0).toNat
  have hI:=EU T.s.heap
  rw[rangeSize_nat]
  have a₁:AE X F T st (T.hp (T.s.heap.push { cls:=.type "range_iterator",data:=.fields #[rawInt 0,rawInt (((b - 0).toNat:Nat):Int),rawInt 1] }) T.s.toks):=.grow i (DS _ _)
  refine k _ _ a₁ ⟨_,[T.s.heap.objs.size],[T.s.heap.objs.size],_,_,_,{
   len:=hlen
   turns:=KTurns.ofWalks (target:=e) W fun j v s₁ Q₁ E₁ h hq=>OF ht h rfl rfl (by decide) hq
   st0:=?_
   al:=fun j h q b hb=>Ar.mp hb▸⟨_,q⟩
   fp:=fun b hb=>Ar.mp hb▸Kq i hI
   wr:=fun b hb=>Ar.mp hb▸Kr i hI
   item:=fun j v T' x hx m hp=>?_
   self:=fun j s₁ Q₁ E₁ h hq=>W.self j s₁ Q₁ E₁ h hq }⟩
  ·have q:(T.s.heap.push _).get? T.s.heap.objs.size=some { cls:=.type "range_iterator",data:=.fields #[rawInt 0,rawInt (((b - 0).toNat:Nat):Int),rawInt 1] }:=D2 _ rfl
   show IsRangeIter (T.s.heap.push _) T.s.heap.objs.size 0 ((((b - 0).toNat:Nat):Int) - 0) 1
   rw[show(((b - 0).toNat:Nat):Int) - 0=(((b - 0).toNat:Nat):Int) from Int.sub_zero _]
   exact q
  ·obtain⟨tk,rfl⟩:=hp
   have hj:j < (List.range ((b - 0+1 - 1) / 1).toNat).length:=by
    have:=(FC.mp hx).1
    rw[hlen] at this
    rw[List.length_range,Int.ediv_one,Int.add_sub_cancel]
    exact this
   have hx:(((List.range ((b - 0+1 - 1) / 1).toNat).map fun (i:Nat)=>(0:Int)+i*1).map fun i=>V.d (.int i))[j]?=some x:=hx
   rw[C0,C0,D3 hj,List.getElem_range] at hx
   cases hx
   exact⟨tk,rfl⟩
theorem Ye(l:List V):∀{m j:Nat} {x:V},(GD m l)[j]?=some x->∃v,l[j]?=some v/\x=.tup [.d (.int ((m+j:Nat):Int)),v]:=by
 induction l with
 |nil=>exact fun h=>by cases h
 |cons v l ih=>
  intro m j x h
  cases j with
  |zero=>cases h;exact⟨v,rfl,rfl⟩
  |succ j=>
   obtain⟨v',e1,e2⟩:=ih (m:=m+1) h
   exact⟨v',e1,by rw[e2,DG];rfl⟩
theorem Yg(l:List V):∀m,(GD m l).length=l.length:=by
 induction l with
 |nil=>exact fun _=>rfl
 |cons v l ih=>exact fun m=>A2 (·+1) (ih _)
theorem Yh{x:Str}{fn:Fn}(h:Cr fn true (.one x)=true){P:Prop}:P:=by cases h
theorem Yi{fn':Fn}(hA:AO A n)(ht:t.Is e)(hok:Cr fn' true t=true)(i:Inv X F st T)(o:T.seq "list" la us)(r:A7 (AA X.I T) l us)(hF:T.M.F la)(k:KI X F A e T Q (⟨GD 0 l,true⟩,st)):WP X A (call (.type "enumerate") [.ref la]) (fun v s=>wpAny (model X.prog X.w) A (pyIter v) Q E s) E T:=by
 cases t with
 |one x=>exact Yh hok
 |two x y=>
  obtain⟨p,q,c,s,rfl⟩:=ht
  obtain⟨m,o⟩:=o
  have hL:T.s.heap.IsList la us.toArray:=⟨_,o,rfl,m,rfl⟩
  refine call_enumerate_list hL fun h' he hit hz hk=>?_
  have a₁:AE X F T st (T.hp h' T.s.toks):=.grow i hk
  have big:∀a,T.s.heap.objs.size<=a->¬Al T.s.heap a:=fun a ha q=>absurd q.lt (C2.mpr ha)
  have hla:@LT.lt Nat _ la T.s.heap.objs.size:=Co o
  have W:=(WalksT.enumerate (prog:=X.prog) (w:=X.w) (A:=A) hA.h (T.s.heap.objs.size+1) T.s.heap.objs.size la (Nat.succ_ne_self _) (CA (Nat.lt_succ_of_lt hla)) (CA hla) us.toArray).toU
  have hlen:(It.items ⟨GD 0 l,true⟩).length=us.toArray.size:=(Yg l 0).trans r.length.symm
  have st0:(∃old,IsEnum h' (T.s.heap.objs.size+1) T.s.heap.objs.size ((0:Nat):Int) old)/\h'.IsListIter T.s.heap.objs.size la 0/\h'.IsList la us.toArray:=⟨⟨_,he⟩,hit,hL.at fun o e=>hk _ o e⟩
  refine W.self 0 _ _ _ st0 (k _ _ a₁ ⟨_,[T.s.heap.objs.size+1,T.s.heap.objs.size,la],[T.s.heap.objs.size+1,T.s.heap.objs.size],_,_,_,{
   len:=hlen
   turns:=KTurns.ofWalksU W
   st0:=st0
   al:=fun j h q b hb=>(Au.mp hb).elim (fun e=>e▸q.1.elim fun _ q=>⟨_,q⟩) fun hb=>(Au.mp hb).elim (fun e=>e▸q.2.1.imp fun _ q=>q.1) fun hb=>Ar.mp hb▸q.2.2.imp fun _ q=>q.1
   fp:=fun b hb=>(Au.mp hb).elim (fun e=>e▸Kq i (big _ (Cb _))) fun hb=>(Au.mp hb).elim (fun e=>e▸Kq i (big _ (Am _))) fun hb=>Ar.mp hb▸⟨i.fr hF,.inl hF⟩
   wr:=fun b hb=>(Au.mp hb).elim (fun e=>e▸Kr i (big _ (Cb _))) fun hb=>Ar.mp hb▸Kr i (big _ (Am _))
   item:=fun j v T' x hx m hp=>?_
   self:=fun j s₁ Q₁ E₁ h hq=>W.self j s₁ Q₁ E₁ h hq }⟩)
  obtain⟨Ta,vals,rfl,⟨tk,y,e1,rfl⟩,hT⟩:=hp
  obtain⟨v',e2,rfl⟩:=Ye l hx
  exact⟨Ta,_,y,_,v',rfl,hT,rfl,⟨tk,by rw[De]⟩,(r.at_ e1 e2).mono (a₁.mono.trans m)⟩
theorem S5{j:Nat}{p:List V×List Cell}{P:Prop}(a₀:AE X F T₀ st T)(ha:T.M.ad[j]?=some a)(h:J8 st.store j st.store[j]?=some p)(k:∀T' us,T'.s=T.s->AE X F T₀ (st.sto p.2) T'->T'.M.F a->T'.seq "list" a us->A7 (AA X.I T') p.1 us->p.1.length<=lim->P):P:=by
 cases hc:st.store[j]? with
 |none=>rw[hc] at h;exact nK h
 |some c=>
  rw[hc] at h
  cases c with
  |lst l=>
   refine mQ (C:=fun p:List V×List Cell=>∀T' us,T'.s=T.s->AE X F T₀ (st.sto p.2) T'->T'.M.F a->T'.seq "list" a us->A7 (AA X.I T') p.1 us->p.1.length<=lim->P) h k fun ds hd k=>a₀.inv.mid.cell_k ha hc fun g hg q=>?_
   obtain⟨e,us,o,r,z⟩:=q
   cases e
   have r₁:=Gp (P:=fun l=>A7 (AA X.I T) l us->A7 (AR X.I T) ds us) hd (fun r=>(A7.map (f:=V.d) (P:=AA X.I T)).mp r) r
   have z₁:=Gp (P:=fun l=>l.length<=lim->ds.length<=lim) hd (fun z=>A4 (as:=ds) V.d▸z) z
   have a₁:=a₀.inv.fz (c:=.froz ds) hg ha ⟨rfl,a,us,rfl,.inr rfl,o,z₁,Go.mpr (r₁.monoD (.fz j a))⟩
   exact k (T.mm (T.M.fz j a)) us rfl (a₀.trans a₁) (.inr rfl) o (r.mono a₁.mono) z
  |froz ds=>cases h;exact a₀.inv.mid.cell_k ha hc fun g _ q=>AR.lst_k (P:=fun u=>u=.ref a->P) q.2 (fun b us f o z r e=>by cases e;exact k T us rfl a₀ f o (A7.map.mpr r) (A4 (as:=ds) V.d▸z)) rfl
  |_=>exact nK h
theorem S6{p:List V×List Cell}{C:Value->Prop}(a₀:AE X F T₀ st T)(hr:RR X F T₀ T r u)(h:KP st.store r=some p)(k:∀T' la us,T'.s=T.s->AE X F T₀ (st.sto p.2) T'->T'.M.F la->T'.seq "list" la us->A7 (AA X.I T') p.1 us->C (.ref la)):C u:=
 oK h (fun j hj h=>hr.loc_k (P:=C) hj fun a ha=>S5 a₀ ha h fun T' us e x f o r _=>k T' a us e x f o r) fun hj h=>mQ (C:=fun p:List V×List Cell=>∀T' la us,T'.s=T.s->AE X F T₀ (st.sto p.2) T'->T'.M.F la->T'.seq "list" la us->A7 (AA X.I T') p.1 us->C (.ref la)) h k fun l hl k=>by
  cases r with
  |fresh l'=>
   cases hl
   obtain⟨a,us,rfl,q⟩:=hr
   have a₁:=a₀.frz (P:=(·=a)) fun b e=>e▸⟨q.obj.elim fun _ e=>⟨_,e⟩,q.nw,q.new⟩
   exact k (T.mm (T.M.frz (·=a))) a us rfl a₁ (.inr rfl) q.obj (q.rep.mono (.frz _))
  |val v=>
   cases v with
   |d x=>cases x with
    |lst ds=>cases hl;exact AR.lst_k (P:=C) hr fun a us f o z r=>k T a us rfl a₀ f o (A7.map.mpr r)
    |_=>exact nK hl
   |loc j=>cases hj
   |tup _=>exact nK hl
theorem Yj{p:List V×List Cell}{C:Value->Prop}(a₀:AE X F T₀ st T)(hr:RR X F T₀ T r u)(h:Qp st.store r=some p)(k:∀T' ty la us,T'.s=T.s->AE X F T₀ (st.sto p.2) T'->ty ="list"\/ty ="tuple"->T'.M.F la->T'.seq ty la us->A7 (AA X.I T') p.1 us->C (.ref la)):C u:=
 oK h (fun l hl h=>tup_k (C:=C) hr hl fun a us f o r _=>by cases h;exact k T _ a us rfl a₀ (.inr rfl) f o r) fun _ h=>S6 a₀ hr h fun T' la us e a=>k T' _ la us e a (.inl rfl)
theorem Yk{j:Nat}{p:List V×List Cell}{P:Prop}(HT:Top X)(a₀:AE X F T₀ st T)(ha:T.M.ad[j]?=some a)(h:KQ st.store j st.store[j]?=some p)(k:∀T' b es kvs,T'.s=T.s->AE X F T₀ (st.sto p.2) T'->T'.M.F a->(a == sysModules)=false->T'.s.heap.DictOf (intKind X.prog X.w) a kvs->BC X.I T' b es kvs->p.1=es.map (fun q=>.d (DO (b,q.1)))->P):P:=by
 cases hc:st.store[j]? with
 |none=>rw[hc] at h;exact nK h
 |some c=>
  rw[hc] at h
  cases c with
  |dct b es=>
   cases h
   refine a₀.inv.mid.cell_k ha hc fun g hg q=>?_
   obtain⟨e,kvs,o,r,z⟩:=q
   cases e
   have ns:=Re HT a₀.inv.mid (Mm.W_of hg (DE a))
   have a₁:=a₀.inv.fz (c:=.fdct b es) hg ha ⟨rfl,.inr rfl,ns,kvs,o,r.mono (.fz j a),z⟩
   exact k (T.mm (T.M.fz j a)) b es kvs rfl (a₀.trans a₁) (.inr rfl) ns o (r.mono a₁.mono) rfl
  |fdct b es=>cases h;exact a₀.inv.mid.cell_k ha hc fun g _ q=>q.2.2.2.elim fun kvs w=>k T b es kvs rfl a₀ q.2.1 q.2.2.1 w.1 w.2.1 rfl
  |_=>exact nK h
theorem S7(H:Snd X o n)(HT:Top X){t':Expr}{p:It×St}(hA:AO A n)(ht:t.Is t')(he:KY o F.fn e st=some p)(i:Inv X F st T)(k:KI X F A t' T Q p):WP X A (eval e F.env) (fun x s₁=>wpAny (model X.prog X.w) A (pyIter x) Q E s₁) E T:=
 FL H hA i he fun p₁ u T₁ a₁ q₁ he=>mQ he k fun l hl k=>oK hl (fun q hq hl=>bK hq fun j hj hq=>q₁.loc_k (P:=fun u=>wpAny (model X.prog X.w) A (pyIter u) Q E T₁.s) hj fun a ha=>Yk HT a₁ ha (hq.trans hl) fun T₂ b es kvs e a₂ f ns o r hp=>by
  rw[<-e]
  exact Yb hA ht a₂.inv f ns o r (hp▸k.then a₂))
  fun _ hl=>Yj (C:=fun u=>wpAny (model X.prog X.w) A (pyIter u) Q E T₁.s) a₁ q₁ hl fun T₂ ty la us e a₂ hty hF o r=>e▸by
  cases hty with
  |inl e=>cases e;exact YY hA ht a₂.inv o r hF (k.then a₂)
  |inr e=>cases e;exact YZ hA ht a₂.inv o r hF (k.then a₂)
theorem Yl(H:Snd X o n)(HT:Top X){t':Expr}{f:Str}{as:List Expr}{p:It×St}{p' pos:Pos}(hf:f ="range")(hb:DQ X.G F.fn f=true)(hA:AO A n)(ht:t.Is t')(he:Li o F.fn as st=some p)(i:Inv X F st T)(k:KI X F A t' T Q p):WP X A (eval (.Call (.Name f p') as [] pos) F.env) (fun x s₁=>wpAny (model X.prog X.w) A (pyIter x) Q E s₁) E T:=
 bK he fun a ha he=>Ep (C:=fun as=>WP X A (eval (.Call (.Name f p') as [] pos) F.env) (fun x s₁=>wpAny (model X.prog X.w) A (pyIter x) Q E s₁) E T) ha (IP HT (v:=.type "range") hb (hf▸rfl) (.inr ⟨_,rfl⟩) (bK he fun _ h _=>bK h fun _ h _=>bK h fun _ h _=>GG H h) i
  (Kg H hA i he fun q tk T₁ a₁ he=>iK he fun hok he=>call_range_1 (by
   have a₂:AE X F T₁ q.2 (T₁.hp (T₁.s.heap.push { cls:=.type "range",data:=.fields #[.int 0 T₁.s.toks,.int q.1 tk,.int 1 (T₁.s.toks+1)] }) (T₁.s.toks+1+1)):=.grow a₁.inv (DS _ _)
   exact Yd hA ht a₂.inv (IsRange.new ..) hok ((sQ he k).then (a₁.trans a₂)))))
theorem Ym(H:Snd X o n)(HT:Top X){fn':Fn}{t':Expr}{f:Str}{as:List Expr}{p:It×St}{p' pos:Pos}(hf:f ="enumerate")(hb:DQ X.G F.fn f=true)(hA:AO A n)(ht:t.Is t')(hok:Cr fn' p.1.pr t=true)(he:Lj o F.fn as st=some p)(i:Inv X F st T)(k:KI X F A t' T Q p):WP X A (eval (.Call (.Name f p') as [] pos) F.env) (fun x s₁=>wpAny (model X.prog X.w) A (pyIter x) Q E s₁) E T:=
 bK he fun a ha he=>Ep (C:=fun as=>WP X A (eval (.Call (.Name f p') as [] pos) F.env) (fun x s₁=>wpAny (model X.prog X.w) A (pyIter x) Q E s₁) E T) ha (IP HT (v:=.type "enumerate") hb (hf▸rfl) (.inr ⟨_,rfl⟩) (bK he fun _ h _=>GG H h) i
  (FL H hA i he fun p₁ u T₁ a₁ q₁ he=>mQ (C:=fun p=>Cr fn' p.1.pr t=true/\KI X F A t' T Q p) he ⟨hok,k⟩ fun l hl k=>S6 (C:=fun u=>wpAny (model X.prog X.w) A (call (.type "enumerate") [u]) _ E T₁.s) a₁ q₁ hl fun T₂ la us e a₂ hF o r=>e▸Yi hA ht k.1 a₂.inv o r hF (k.2.then a₂)))
theorem OG(H:Snd X o n)(HT:Top X){fn':Fn}{t':Expr}{p:It×St}(hA:AO A n)(ht:t.Is t')(hok:Cr fn' p.1.pr t=true)(he:FJ X.G o F.fn e st=some p)(i:Inv X F st T)(k:KI X F A t' T Q p):WP X A (eval e F.env) (fun x s₁=>wpAny (model X.prog X.w) A (pyIter x) Q E s₁) E T:=
 oK he (fun fa hf he=>Nv (C:=fun e=>Qq X.G o F.fn e st fa.1 fa.2=some p->WP X A (eval e F.env) (fun x s₁=>wpAny (model X.prog X.w) A (pyIter x) Q E s₁) E T) hf (fun p' pos he=>eK he (fun h he=>Ad h fun h1 h2=>Yl H HT (BP h1) h2 hA ht he i k) fun he=>eK he (fun h he=>Ad h fun h1 h2=>Ym H HT (BP h1) h2 hA ht hok he i k) fun he=>S7 H HT hA ht he i k) he) fun _ he=>S7 H HT hA ht he i k
end
open PySem PyProof.Rows PySem.Calls PySem.W
noncomputable def JP(prog:Program)(w:World)(A:Around)(elt:Expr)(gs0:List Comprehension)(sc:Scope)(pos:Pos)(d:Nat)(acc:Value)(env:Env)(K:Shared->Prop)(E:Value->Shared->Prop)(s:Shared):Prop:=
 match gs0[d]? with
 |some g'=>wpAny (model prog w) A (eval g'.iter env) (fun x s₁=>wpAny (model prog w) A (pyIter x) (fun it s₃=>wpAny (model prog w) A (runOwn (.compStart (.ListComp elt gs0 sc pos) d it acc env) env) (fun _ s₄=>K s₄) E s₃) E s₁) E s
 |none=>wpAny (model prog w) A (eval elt env) (fun x s₁=>wpAny (model prog w) A (call (.builtin "list.append") [acc,x]) (fun _ s₂=>K s₂) E s₁) E s
section
variable{prog:Program}{w:World}{A:Around}{s:Shared}{E:Value->Shared->Prop}
theorem Yn{elt:Expr}{gs0:List Comprehension}{sc:Scope}{pos:Pos}{d:Nat}{g:Comprehension}(hg:gs0[d]?=some g)(ha:g.is_async=0)(hn:∀g',gs0[d+1]?=some g'->g'.is_async=0){env:Env}(hs:∀g',gs0[d+1]?=some g'->∀x,foldedSetIterable g'.iter env x=pure x){it acc:Value}{Q:Fin->Shared->Prop}
 (h:wpAny (model prog w) A (pyNext it) (fun r s₁=>match r with
  |none=>Q (.done .next) s₁
  |some v=>wpAny (model prog w) A (letOwnedTupleGo g.target it v) (fun _ s₂=>wpAny (model prog w) A (assign g.target env v) (fun _ s₃=>
   wpAny (model prog w) A (forIn g.ifs true fun c r=>if r=true then do let ok <-isTrue c env (eval c env);pure (ForInStep.yield ok) else pure (ForInStep.yield r)) (fun ok s₄=>
    if ok=true then JP prog w A elt gs0 sc pos (d+1) acc env (fun s₅=>Q (.again (.compLoop (.ListComp elt gs0 sc pos) d it acc env)) s₅) E s₄
    else Q (.again (.compLoop (.ListComp elt gs0 sc pos) d it acc env)) s₄) E s₃) E s₂) E s₁) E s) :
 wpAny (model prog w) A (compTurn (.ListComp elt gs0 sc pos) d it acc env) Q E s:=by
 obtain⟨target,iter,ifs,a⟩:=g
 dsimp only at ha
 subst ha
 unfold compTurn
 dsimp only
 rw[hg]
 dsimp only
 refine A6 (G8 ?_)
 refine A6 (Dg h (fun r s₁ h₁=>?_) fun _ _ x=>x)
 cases r with
 |none=>exact AM h₁
 |some v=>
  refine A6 (Dg h₁ (fun _ s₂ h₂=>?_) fun _ _ x=>x)
  refine A6 (Dg h₂ (fun _ s₃ h₃=>?_) fun _ _ x=>x)
  refine A6 (Dg h₃ (fun ok s₄ h₄=>?_) fun _ _ x=>x)
  cases ok with
  |false=>exact AM h₄
  |true=>
   simp only [if_true] at h₄ ⊢
   unfold JP at h₄
   cases hg':gs0[d+1]? with
   |none=>
    rw[hg'] at h₄
    exact A6 (A6 (Dg h₄ (fun x s₅ h₅=>A6 (Dg h₅ (fun _ s₆ h₆=>AM (AM h₆)) fun _ _ x=>x)) fun _ _ x=>x))
   |some g'=>
    rw[hg'] at h₄
    have h0:=hn g' hg'
    have h1:=hs g' hg'
    obtain⟨target',iter',ifs',a'⟩:=g'
    dsimp only at h0
    subst h0
    dsimp only at h₄ h1 ⊢
    refine A6 (Dg h₄ (fun x s₅ h₅=>A6 (G8 ?_)) fun _ _ x=>x)
    refine A6 (wpAny_of_eq (h1 x) (A6 (DJ (Dg h₅ (fun it' s₆ h₆=>A6 (Dg h₆ (fun _ s₇ h₇=>AM h₇) fun _ _ x=>x)) fun _ _ x=>x))))
end
section
variable{prog:Program}{w:World}{A:Around}{R:Result->Shared->Prop}{s:Shared}
theorem S8{elt:Expr}{gs0:List Comprehension}{sc:Scope}{pos:Pos}{d:Nat}{g:Comprehension}(hg:gs0[d]?=some g)(ha:g.is_async=0){it acc:Value}{env:Env}
 (h0:codeAny (model prog w) A (.compLoop (.ListComp elt gs0 sc pos) d it acc env) R s)
 (h:wpAny (model prog w) A (pyIter it) (fun it' s'=>codeAny (model prog w) A (.compLoop (.ListComp elt gs0 sc pos) d it' acc env) R s') (notedBy (model prog w) A env fun x s'=>R (.error x) s') s) :
 codeAny (model prog w) A (.compStart (.ListComp elt gs0 sc pos) d it acc env) R s:=by
 refine codeAny_of_tree ?_
 show wpAny _ _ ((compStart (.ListComp elt gs0 sc pos) d it acc env).onRaise (fun x=>do noteFrame x env;standAt theWindowsPlace)) _ _ s
 refine wpAny_notedAt ?_
 unfold compStart
 have hc:(clausesOf (.ListComp elt gs0 sc pos))[d]?=some g:=hg
 rw[hc]
 have hf:((some g).elim false (fun x=>x.is_async != 0))=false:=by simp [ha]
 simp only [hf,Bool.false_eq_true,if_false]
 refine A6 (Gf (wpAny_ite ?_))
 split
 ·exact AM (And.intro rfl h0)
 ·exact A6 (wpAny_rule (A6 (G8 (A6 (Dg h (fun it' s' h'=>AM (And.intro rfl h')) fun _ _ x=>x)))))
end
open PySem PyProof.Rows PySem.Calls PySem.W
noncomputable def Cs(B:Addr->Prop)(F:Fx)(T T':Sm):Prop:=Ext (fun a=>Wr F T a\/B a) T T'
structure LI(F:Fx)(B:Addr->Prop)(fp wr:List Addr)(Sf:Nat->Heap->Prop)(TS:Sm)(j:Nat)(T:Sm):Prop where
 st:Sf j T.s.heap
 fp:∀b∈fp,¬Wa F T b/\¬B b
 wr:∀b∈wr,¬T.M.F b
 mono:Mono TS T
section
variable{X:Cx}{F F₀:Fx}{o:Ops}{n:Nat}{st st':St}{A:Around}{T T₀ T₁ TS T' T'':Sm}{Q:Value->Shared->Prop}{E:Value->Shared->Prop}{e t:Expr}{u:Value}{v:V}{a b I D:Addr}{l:List V}{us:List Value}{B:Addr->Prop}{fp wr:List Addr}{P Md:Nat->Value->Heap->Prop}{Sf:Nat->Heap->Prop}{j N:Nat}{it:It}
theorem Cs.of(x:Ext (Wr F T) T T'):Cs B F T T':=x.weaken fun _ h=>.inl (.inl h)
theorem Cs.ofW(x:Ext T.M.W T T'):Cs B F T T':=x.weaken fun _ h=>.inl (.inl (.inl h))
theorem Cs.trans(x:Cs B F T T')(y:Cs B F T' T''):Cs B F T T'':=Ext.trans x y fun a h=>h.elim (fun h=>h.elim (fun h=>(x.wnew a h).imp_left fun h=>.inl (.inl h)) fun h=>.inl (.inl (.inr h))) fun h=>.inl (.inr h)
theorem LI.ext(L:LI F B fp wr Sf TS j T)(W:KTurns X.prog X.w A t I fp wr N P Md Sf)(hal:∀i h,Sf i h->∀b∈fp,Al h b)(x:Cs B F T T')(m:Mono T T'):LI F B fp wr Sf TS j T' where
 st:=W.frame j _ _ L.st fun b hb o e=>x.keep b o e fun q=>q.elim (fun q=>(L.fp b hb).1 q.wa) (L.fp b hb).2
 fp b hb:=⟨fun q=>q.elim (fun q=>(x.wnew b q).elim (fun q=>(L.fp b hb).1 (.inl q)) fun q=>q (hal j _ L.st b hb)) fun q=>(L.fp b hb).1 (.inr q),(L.fp b hb).2⟩
 wr b hb q:=(x.fnew b q).elim (L.wr b hb) fun q=>q.elim (fun q=>(L.fp b (W.sub b hb)).1 (.inl q)) fun q=>q (hal j _ L.st b (W.sub b hb))
 mono:=L.mono.trans m
structure Dr(X:Cx)(F:Fx)(B:Addr->Prop)(wr:List Addr)(st:St)(T₁ T T':Sm):Prop where
 M:T'.M=T.M
 keep:∀b o,b∉wr->T.s.heap.get? b=some o->T'.s.heap.get? b=some o
 mono:Mono T T'
 inv:Inv X F st T'
 ext:Cs B F T₁ T'
theorem S9(W:KTurns X.prog X.w A t I fp wr N P Md Sf)(hitem:∀(i:Nat) (v:Value) (T':Sm) (x:V),it.items[i]?=some x->Mono TS T'->P i v T'.s.heap->MB X it.pr T' x v)(hlen:it.items.length=N)
 (hwr:∀b∈wr,¬Al T₁.s.heap b) (L:LI F B fp wr Sf TS j T) (i:Inv X F st T) (x₀:Cs B F T₁ T) {Q:Option Value->Shared->Prop}
 (hd:j=N->∀T',Dr X F B wr st T₁ T T'->Q .none T'.s)
 (hi:∀x v s₁,it.items[j]?=some x->(∀{Q':Unit->Shared->Prop} {E':Value->Shared->Prop},(∀T',Dr X F B wr st T₁ T T'->LI F B fp wr Sf TS (j+1) T'->MB X it.pr T' x v->Q' () T'.s)->wpAny (model X.prog X.w) A (letOwnedTupleGo t (.ref I) v) Q' E' s₁)->Q (some v) s₁)
 (hj:j<=N):WP X A (pyNext (.ref I)) Q E T:=by
 have dr:∀{h':Heap} {tk:Nat},(∀b o,b∉wr->T.s.heap.get? b=some o->h'.get? b=some o)->Dr X F B wr st T₁ T (T.hp h' tk):=fun {h' tk} hk=>by
  have hn:∀b,T.M.F b\/T.M.W b\/FA F.env b->b∉wr:=fun b q z=>q.elim (L.wr b z) fun q=>(L.fp b (W.sub b z)).1 q
  refine⟨rfl,hk,⟨fun _ f=>f,fun b o f=>hk b o (hn b (.inl f)),Bw _⟩,i.hp fun b o q=>hk b o (hn b q),?_⟩
  obtain⟨h₁,t₁,hs₁⟩:=x₀.sh
  exact⟨⟨h',tk,by show { T.s with heap:=h',toks:=tk }=_;rw[hs₁]⟩,fun a o e n=>hk a o (fun q=>hwr a q ⟨_,e⟩) (x₀.keep a o e n),fun a q=>(x₀.al a q).imp fun o e=>hk a o (fun z=>hwr a z q) e,x₀.F,x₀.fnew,x₀.wnew,x₀.ad⟩
 by_cases hlt:j < N
 ·have hx:=D3 (hlen▸hlt:j < it.items.length)
  refine W.item j _ _ _ hlt L.st fun v h₁ tk₁ hMd hk₁=>hi _ v _ hx fun {Q' E'} k'=>W.go j v _ _ _ hMd fun h₂ hP hst₂ hk₂=>?_
  have d:=dr (h':=h₂) (tk:=tk₁) fun b o hb e=>hk₂ b o hb (hk₁ b o hb e)
  exact k' _ d ⟨hst₂,L.fp,L.wr,L.mono.trans d.mono⟩ (hitem j v _ _ hx (L.mono.trans d.mono) hP)
 ·cases Fe hj (C2.mp hlt)
  exact W.done _ _ _ L.st fun h₁ tk₁ hk₁=>hd rfl _ (dr hk₁)
theorem Yo(H:Snd X o n)(hA:AO A n){ifs:List Expr}{p:Bool×St}{QB:Bool->Shared->Prop}(he:Nj o F.fn st ifs=some p)(i:Inv X F st T)(k:KT X F T QB p) :
 WP X A (forIn ifs true fun c r=>if r=true then do let ok <-isTrue c F.env (eval c F.env);pure (ForInStep.yield ok) else pure (ForInStep.yield r)) QB E T:=by
 cases ifs with
 |nil=>exact wpAny_tests_nil (sQ he k T (.refl i))
 |cons c ifs=>exact iK he fun hn he=>Gs (C:=fun ifs=>WP X A (forIn (c::ifs) true fun c r=>if r=true then do let ok <-isTrue c F.env (eval c F.env);pure (ForInStep.yield ok) else pure (ForInStep.yield r)) QB E T) hn (wpAny_tests_one (H.tt hA he i k))
structure AccAt(X:Cx)(F:Fx)(T:Sm)(D:Addr)(l:List V):Prop where
 at_:∃us,T.seq "list" D us/\A7 (AA X.I T) l us
 f:¬T.M.F D
 w:¬Wa F T D
theorem AccAt.al(a:AccAt X F T D l):Al T.s.heap D:=a.at_.elim fun _ q=>q.1.elim fun _ e=>⟨_,e⟩
theorem AccAt.aft(a:AccAt X F T D l)(x:AftS X F T st T'):AccAt X F T' D l:=
 ⟨a.at_.imp fun us q=>⟨q.1.imp fun n e=>x.ext.keep D _ e fun q=>a.w q.wa,q.2.mono x.mono⟩,fun q=>(x.ext.fnew D q).elim a.f fun q=>q.elim (fun q=>a.w (.inl q)) fun q=>q a.al,fun q=>q.elim (fun q=>(x.ext.wnew D q).elim (fun q=>a.w (.inl q)) fun q=>q a.al) fun q=>a.w (.inr q)⟩
theorem AccAt.drawn(a:AccAt X F T D l)(hD:D∉wr)(x:Dr X F B wr st T₁ T T'):AccAt X F T' D l:=
 ⟨a.at_.imp fun us q=>⟨q.1.imp fun n e=>x.keep D _ hD e,q.2.mono x.mono⟩,x.M▸a.f,fun q=>a.w (q.imp_left fun q=>(x.M▸q:T.M.W D))⟩
noncomputable def KA(X:Cx)(F:Fx)(D:Addr)(T:Sm)(acc:List V)(K:Shared->Prop)(p:List V×St):Prop:=∀T',Cs (·=D) F T T'->Mono T T'->Inv X F p.2 T'->AccAt X F T' D (acc++p.1)->K T'.s
theorem Yp{f:V->St->Option (List V×St)}{q:List V×St}{P:Prop}(h:turns f (v::l) st=some q)(k:∀p r,f v st=some p->turns f l p.2=some r->q=(p.1++r.1,r.2)->P):P:=
 bK h fun p hp h=>mK (C:=fun q'=>q=q'->P) h (fun r hr e=>k p r hp hr e) rfl
inductive CI(X:Cx)(F:Fx)(D:Addr)(N:Nat)(fp wr:List Addr)(Sf:Nat->Heap->Prop)(TS T₁:Sm)(acc:List V)(f:V->St->Option (List V×St))(its:List V)(p:List V×St)(kk:Nat)(s':Shared):Prop where
 |mk (j:Nat) (T':Sm) (st':St) (done:List V) (rest:List V×St):s'=T'.s->kk=N+1 - j->j<=N->Cs (·=D) F T₁ T'->Mono T₁ T'->Inv X F st' T'->LI F (·=D) fp wr Sf TS j T'->AccAt X F T' D (acc++done)->turns f (its.drop j) st'=some rest->p=(done++rest.1,rest.2)->CI X F D N fp wr Sf TS T₁ acc f its p kk s'
theorem SC(H:Snd X o n)(hA:AO A n){elt:Expr}{gs0:List Comprehension}{sc:Scope}{pos:Pos}{d:Nat}{g:Comprehension}(hg:gs0[d]?=some g)(ha:g.is_async=0)(hn:∀g',gs0[d+1]?=some g'->g'.is_async=0)(hs:∀g',gs0[d+1]?=some g'->∀x,foldedSetIterable g'.iter F.env x=pure x)
 {tg:Tg} {acc:List V} {p:List V×St} {inner:St->Option (List V×St)} {R:Result->Shared->Prop} (htg:Dm g.target=some tg) (hok:Cr F.fn it.pr tg=true)
 (hin:∀{st:St} {q:List V×St} {acc:List V} {T:Sm} {E:Value->Shared->Prop} {K:Shared->Prop},inner st=some q->Inv X F st T->AccAt X F T D acc->acc.length+q.1.length<=lim->KA X F D T acc K q->JP X.prog X.w A elt gs0 sc pos (d+1) (.ref D) F.env K E T.s)
 (hS:SrcAt X F₀ A g.target it T₀ TS I N fp wr P Md Sf) (hwr:∀b∈wr,¬Al T₁.s.heap b) (L₀:LI F (·=D) fp wr Sf TS 0 T) (x₀:Cs (·=D) F T₁ T) (m₀:Mono T₁ T)
 (he:turns (compTurn' o F.fn tg g.ifs inner) it.items st=some p) (i:Inv X F st T) (hacc:AccAt X F T D acc) (hl:acc.length+p.1.length<=lim) (k:KA X F D T₁ acc (fun s=>R (.ok .next) s) p) :
 codeAny (model X.prog X.w) A (.compLoop (.ListComp elt gs0 sc pos) d (.ref I) (.ref D) F.env) R T.s:=by
 refine codeAny_loop rfl (CI X F D N fp wr Sf TS T₁ acc (compTurn' o F.fn tg g.ifs inner) it.items p) ?_ (N+1)
  ⟨0,T,st,[],p,rfl,rfl,BK _,x₀,m₀,i,L₀,(As acc).symm▸hacc,he,rfl⟩
 rintro kk s₁ ⟨j,T₂,st₂,done,rest,rfl,rfl,hj,x₂,m₂,i₂,L₂,acc₂,he₂,hp⟩
 have hD:D∉wr:=fun q=>(L₂.fp D (hS.turns.sub D q)).2 rfl
 refine wpAny_noted (Yn hg ha hn hs (S9 hS.turns hS.item hS.len hwr L₂ i₂ x₂ (fun hjn T₃ d₃=>?_) (fun x v s₂ hx hgo=>?_) hj))
 ·cases hjn
  rw[List.drop_eq_nil_of_le (BQ hS.len)] at he₂
  cases he₂
  cases hp
  exact k T₃ d₃.ext (m₂.trans d₃.mono) d₃.inv ((As done).symm▸acc₂.drawn hD d₃)
 ·have hlt:j < it.items.length:=(FC.mp hx).1
  rw[List.drop_eq_getElem_cons hlt,(FC.mp hx).2] at he₂
  refine Yp he₂ fun a b e1 e2 e3=>bK e1 fun st₃ f1 e1=>bK e1 fun c f2 f3=>hgo fun T₃ d₃ L₃ hit=>Rz hA htg hok f1 d₃.inv hit fun T₄ a₄=>Yo H hA f2 a₄.inv fun T₅ a₅=>?_
  have a₅:=a₄.trans a₅.s
  have acc₅:=(acc₂.drawn hD d₃).aft a₅
  have x₅:Cs (·=D) F T₃ T₅:=.of a₅.ext
  have L₅:=L₃.ext hS.turns hS.al x₅ a₅.mono
  have more:N+1 - (j+1) < N+1 - j:=Nat.sub_lt_sub_left (E2 hj) (Cc j)
  have hlt':j < N:=hS.len▸hlt
  rw[e3] at hp
  refine cK f3 (fun hc f3=>?_) fun hc f3=>?_
  ·rw[A5 hc]
   refine hin f3 a₅.inv acc₅ ?_ fun T₆ x₆ m₆ i₆ acc₆=>⟨rfl,_,more,j+1,T₆,a.2,done++a.1,b,rfl,rfl,hlt',(d₃.ext.trans x₅).trans x₆,((m₂.trans d₃.mono).trans a₅.mono).trans m₆,i₆,L₅.ext hS.turns hS.al x₆ m₆,AJ _ _ _▸acc₆,e2,by rw[hp,AJ]⟩
   rw[hp,AC,AC] at hl
   rw[AC,Dd]
   exact A9 (C9 (C9 (BJ _ _) _) _) hl
  ·rw[A3 (by rw[hc];exact CT)]
   cases f3
   exact⟨rfl,_,more,j+1,T₅,c.2,done,b,rfl,rfl,hlt',d₃.ext.trans x₅,(m₂.trans d₃.mono).trans a₅.mono,a₅.inv,L₅,acc₅,e2,hp⟩
end
open PySem PyProof.Rows PySem.Calls PySem.W
section
variable{X:Cx}{F F₀:Fx}{o:Ops}{n:Nat}{st st':St}{A:Around}{T T₀ T₁ TS T' T'':Sm}{E:Value->Shared->Prop}{e t:Expr}{u:Value}{v:V}{a b I D:Addr}{l:List V}{us:List Value}
theorem SD{g:Comprehension}{env:Env}(h:GE g=true):g.is_async=0/\∀x,foldedSetIterable g.iter env x=pure x:=
 Ad h fun h1 h2=>⟨BP h1,fun x=>by
  revert h2
  generalize g.iter=e
  intro h2
  cases e with
  |Set a b c=>cases h2
  |_=>rfl⟩
theorem Yq(i:Inv X F st T)(hv:AA X.I T v u){acc:List V}(hacc:AccAt X F T D acc)(hl:acc.length+1<=lim){K:Shared->Prop}(k:KA X F D T acc K ([v],st)):WP X A (call (.builtin "list.append") [.ref D,u]) (fun _ s=>K s) E T:=by
 obtain⟨us,⟨m,e⟩,r⟩:=hacc.at_
 refine wpAny_list_append_plain (items:=us.toArray) ⟨m,e⟩ (fun h' hp hsb=>?_) (r.lim (Nat.le_of_succ_le hl))
 obtain⟨m',hp⟩:=hp
 have hk:∀b o,b≠D->T.s.heap.get? b=some o->h'.get? b=some o:=fun b o hb e=>(hsb.2 b hb).trans e
 have hn:∀b,T.M.F b\/T.M.W b\/FA F.env b->b≠D:=fun b q z=>q.elim (fun q=>hacc.f (z▸q)) fun q=>hacc.w (z▸q)
 have m₁:Mono T (T.hp h' T.s.toks):=⟨fun _ f=>f,fun b o f=>hk b o (hn b (.inl f)),Bw _⟩
 refine k (T.hp h' T.s.toks) ⟨⟨h',_,rfl⟩,fun b o e n=>hk b o (fun q=>n (.inr q)) e,fun b q=>?_,fun _ f=>f,fun _ f=>.inl f,fun _ f=>.inl f,Bw _⟩ m₁ (i.hp fun b o q=>hk b o (hn b q)) ⟨⟨us++[u],⟨m',?_⟩,(r.mono m₁).append (.one (hv.mono m₁))⟩,hacc.f,hacc.w⟩
 ·exact(Classical.em (b=D)).elim (fun z=>z▸⟨_,hp⟩) fun z=>q.imp fun o e=>hk b o z e
 ·rw[List.push_toArray] at hp
  exact hp
theorem Yr(H:Snd X o n)(HT:Top X)(hA:AO A n){elt:Expr}{gs0:List Comprehension}{sc:Scope}{pos:Pos}(hok:∀g∈gs0,GE g=true){gs:List Comprehension}:∀{pre:List Comprehension},gs0=pre++gs->∀{st:St} {p:List V×St} {acc:List V} {T:Sm} {E:Value->Shared->Prop} {K:Shared->Prop},
 IJ X.G o F.fn elt gs st=some p->Inv X F st T->AccAt X F T D acc->acc.length+p.1.length<=lim->KA X F D T acc K p->JP X.prog X.w A elt gs0 sc pos pre.length (.ref D) F.env K E T.s:=by
 induction gs with
 |nil=>
  intro pre hgs st p acc T E K he i hacc hl k
  unfold JP
  rw[show gs0[pre.length]?=none by rw[hgs,As];exact List.getElem?_eq_none (Am _)]
  refine mQ (C:=fun p:List V×St=>acc.length+p.1.length<=lim/\KA X F D T acc K p) he ⟨hl,k⟩ fun q hq k=>JH H hA i hq fun u T₁ a₁ q₁=>Yq a₁.inv q₁ (hacc.aft a₁.s) k.1 fun T₂ x₂ m₂ i₂ acc₂=>k.2 T₂ ((Cs.ofW a₁.ext).trans x₂) (a₁.mono.trans m₂) i₂ acc₂
 |cons g gs ih=>
  intro pre hgs st p acc T E K he i hacc hl k
  have hg:gs0[pre.length]?=some g:=by rw[hgs,HX (Am _),Nat.sub_self];rfl
  have gk:∀{g:Comprehension} {j:Nat},gs0[j]?=some g->g.is_async=0/\∀x,foldedSetIterable g.iter F.env x=pure x:=fun {g j} hj=>SD (hok g (Fa hj))
  unfold JP
  rw[hg]
  refine bK he fun q hq he=>bK hq fun q' h1 hq=>bK hq fun tg htg hq=>iK hq fun ht hq=>?_
  cases hq
  refine OG H HT hA (MC htg) ht h1 i fun I T₁ a₁ q=>wpAny_runOwn ?_
  obtain⟨N,fp,wr,P,Md,Sf,S⟩:=q
  have acc₁:=hacc.aft a₁.s
  have inner:=fun {st:St} {p:List V×St} {acc:List V} {T:Sm} {E:Value->Shared->Prop} {K:Shared->Prop}=>ih (pre:=pre++[g]) (by rw[hgs,AJ];rfl) (st:=st) (p:=p) (acc:=acc) (T:=T) (E:=E) (K:=K)
  rw[AC] at inner
  have loop:codeAny (model X.prog X.w) A (.compLoop (.ListComp elt gs0 sc pos) pre.length (.ref I) (.ref D) F.env) (fun r s'=>match r with |.ok f=>K s' |.error e=>cameBackBy (model X.prog X.w) A F.env E e s') T₁.s:=
   SC (T₁:=T) H hA hg (gk hg).1 (fun g' hg'=>(gk hg').1) (fun g' hg' x=>(gk hg').2 x) htg ht inner S (fun b hb=>(S.wr b hb).2) ⟨S.st0,fun b hb=>⟨(S.fp b hb).1,fun e=>(S.fp b hb).2.elim (fun q=>acc₁.f (e▸q)) fun q=>q (e▸hacc.al)⟩,fun b hb=>(S.wr b hb).1,.refl _⟩ (.ofW a₁.ext) a₁.mono he a₁.inv acc₁ hl k
  exact S8 hg (gk hg).1 loop (S.self 0 T₁.s _ _ S.st0 loop)
noncomputable def Gu(env:Env):List (Str×NameKind)->List (Str×Addr)->List (Str×Addr)
 |[],cs=>cs
 |p::r,cs=>Gu env r (if (p.2 == .free)=true then(p.1,(env.cells.lookup p.1).getD 0)::cs else cs)
theorem Ys{env:Env}{f:Str×NameKind->List (Str×Addr)->Sem (ForInStep (List (Str×Addr)))}(hf:∀p cs,f p cs=if (p.2 == .free)=true then(do let c <-cellOf env p.1;pure (.yield ((p.1,c)::cs))) else pure (.yield cs)){names:List (Str×NameKind)} :
 ∀{cs:List (Str×Addr)},(∀x,(x,.free)∈names->∃c,env.cells.lookup x=some c)->forIn names cs f=pure (Gu env names cs):=by
 induction names with
 |nil=>exact fun _=>List.forIn_nil
 |cons p r ih=>
  intro cs h
  rw[List.forIn_cons,hf]
  show _=pure (Gu env r (if (p.2 == .free)=true then(p.1,(env.cells.lookup p.1).getD 0)::cs else cs))
  by_cases hk:(p.2 == NameKind.free)=true
  ·obtain⟨x,k⟩:=p
   cases eq_of_beq hk
   obtain⟨c,hc⟩:=h x (.head _)
   rw[A5 hk,A5 hk,hc]
   have hcell:cellOf env x=pure c:=by unfold cellOf;rw[hc]
   rw[hcell,pure_bind,pure_bind]
   exact ih fun y hy=>h y (.tail _ hy)
  ·rw[A3 hk,A3 hk,pure_bind]
   exact ih fun y hy=>h y (.tail _ hy)
end
open PySem PyProof.Rows PySem.Calls PySem.W
section
variable{env:Env}{sc:Scope}{x:Str}{c:Addr}{fn:Fn}
theorem Yt(h:∀x,(x,.free)∈sc.names->∃c,env.cells.lookup x=some c):closureFor sc env=pure (Gu env sc.names []):=by
 unfold closureFor
 dsimp only
 rw[Ys (fun p cs=>?_) h]
 ·rfl
 ·by_cases hk:(p.2 == NameKind.free)=true
  ·rw[A5 hk]
  ·rw[A3 hk]
theorem Yu{names:List (Str×NameKind)}:∀{cs:List (Str×Addr)},(∀x,(x,.free)∈names->∃c,env.cells.lookup x=some c)->(∀x c,cs.lookup x=some c->env.cells.lookup x=some c)->(Gu env names cs).lookup x=some c->env.cells.lookup x=some c:=by
 induction names with
 |nil=>exact fun _ h e=>h x c e
 |cons p r ih=>
  intro cs hf h e
  refine ih (fun z hz=>hf z (.tail _ hz)) (fun z c hz=>?_) e
  by_cases hk:(p.2 == NameKind.free)=true
  ·rw[A5 hk] at hz
   obtain⟨y,k⟩:=p
   cases eq_of_beq hk
   obtain⟨c',hc'⟩:=hf y (.head _)
   rw[hc',HY] at hz
   cases q:z == y with
   |true=>rw[q] at hz;cases hz;rw[eq_of_beq q];exact hc'
   |false=>rw[q] at hz;exact h z c hz
  ·rw[A3 hk] at hz;exact h z c hz
theorem Yv{names:List (Str×NameKind)}:∀{cs:List (Str×Addr)},(cs.lookup x).isSome=true->((Gu env names cs).lookup x).isSome=true:=by
 induction names with
 |nil=>exact id
 |cons p r ih=>
  intro cs h
  refine ih ?_
  by_cases hk:(p.2 == NameKind.free)=true
  ·rw[A5 hk,HY]
   cases x == p.1 with
   |true=>rfl
   |false=>exact h
  ·rw[A3 hk];exact h
theorem Yw{names:List (Str×NameKind)}:∀{cs:List (Str×Addr)},(x,.free)∈names->((Gu env names cs).lookup x).isSome=true:=by
 induction names with
 |nil=>exact fun h=>Eo h
 |cons p r ih=>
  intro cs h
  cases h with
  |head=>exact Yv (names:=r) (by show(List.lookup x ((x,(env.cells.lookup x).getD 0)::cs)).isSome=true;rw[HY,beq_self_eq_true];rfl)
  |tail _ h=>exact ih h
theorem Gv{α:Type}{v:α}{l:List (Str×α)}(h:l.lookup x=some v):(x,v)∈l:=by
 induction l with
 |nil=>cases h
 |cons p l ih=>
  rw[HY] at h
  cases q:x == p.1 with
  |true=>rw[q] at h;cases h;rw[eq_of_beq q];exact .head _
  |false=>rw[q] at h;exact .tail _ (ih h)
theorem Yx{k:NameKind}{l:List (Str×NameKind)}(hn:Ll l=true)(h:(x,k)∈l):l.lookup x=some k:=by
 induction l with
 |nil=>cases h
 |cons p l ih=>
  refine Ad hn fun h1 h2=>?_
  rw[HY]
  cases h with
  |head=>rw[beq_self_eq_true]
  |tail _ h=>
   have ih:=ih h2 h
   cases q:x == p.1 with
   |true=>rw[<-eq_of_beq q,ih] at h1;cases h1
   |false=>exact ih
noncomputable def IR(env:Env)(x:Str)(k:NameKind):NameKind:=if (k == NameKind.free&&env.scope.kind == .function&&env.kindOf x == some .cell)=true then NameKind.cell else k
theorem Yy{l:List (Str×NameKind)}:(l.map fun (n,k)=>if (k == NameKind.free&&env.scope.kind == .function&&env.kindOf n == some .cell) then(n,NameKind.cell) else(n,k)).lookup x=(l.lookup x).map (IR env x):=by
 induction l with
 |nil=>rfl
 |cons p l ih=>
  obtain⟨y,k⟩:=p
  have e:(if (k == NameKind.free&&env.scope.kind == .function&&env.kindOf y == some .cell)=true then(y,NameKind.cell) else(y,k))=(y,IR env y k):=by
   unfold IR
   by_cases hc:(k == NameKind.free&&env.scope.kind == .function&&env.kindOf y == some .cell)=true
   ·rw[A5 hc,A5 hc]
   ·rw[A3 hc,A3 hc]
  rw[Dc,HY]
  show List.lookup x ((if (k == NameKind.free&&env.scope.kind == .function&&env.kindOf y == some .cell)=true then(y,NameKind.cell) else(y,k))::_)=_
  rw[e,HY,HY]
  cases q:x == y with
  |true=>rw[eq_of_beq q];rfl
  |false=>exact ih
theorem Yz{names:List (Str×NameKind)}{v:V}{vars:List (Str×V)}(h:AG x (seen names vars)=some v):names.lookup x=some .free/\AG x vars=some v:=by
 induction vars with
 |nil=>cases h
 |cons p vars ih=>
  show _/\(if x=p.1 then some p.2 else AG x vars)=some v
  unfold seen at h
  by_cases q:(names.lookup p.1 == some NameKind.free)=true
  ·rw[List.filter_cons_of_pos (p:=fun p:Str×V=>names.lookup p.1 == some NameKind.free) q] at h
   have h:(if x=p.1 then some p.2 else AG x (seen names vars))=some v:=h
   by_cases e:x=p.1
   ·rw[A5 e] at h ⊢;exact⟨e▸eq_of_beq q,h⟩
   ·rw[A3 e] at h ⊢;exact ih h
  ·rw[List.filter_cons_of_neg (p:=fun p:Str×V=>names.lookup p.1 == some NameKind.free) q] at h
   have ih:=ih h
   rw[A3 fun e=>q (by rw[<-e,ih.1];rfl)]
   exact ih
structure ScOk(fn:Fn)(sc:Scope):Prop where
 kind:sc.kind=.function
 names:∀p∈sc.names,(p.2=.local\/p.2=.globalImplicit\/(p.2=.free/\(fn.names.lookup p.1=some .cell\/fn.names.lookup p.1=some .free)))/\p.1≠"__debug__"/\p.1≠"__classdict__"
 nod:Ll sc.names=true
theorem Z0(h:Gm fn sc=true):ScOk fn sc:=
 Ad h fun h h3=>Ad h fun h1 h2=>⟨eq_of_beq h1,fun p hp=>Ad (CO.mp h2 p hp) fun h h5=>Ad h fun h h4=>
  ⟨(Iz.mp h).elim (fun h=>(Iz.mp h).elim (fun h=>.inl (eq_of_beq h)) fun h=>.inr (.inl (eq_of_beq h))) fun h=>Ad h fun h1 h2=>.inr (.inr ⟨eq_of_beq h1,(Iz.mp h2).imp eq_of_beq eq_of_beq⟩),
   of_decide_eq_false (FY _ |>.mp h4),of_decide_eq_false (FY _ |>.mp h5)⟩,h3⟩
theorem ScOk.free(S:ScOk fn sc)(h:(x,NameKind.free)∈sc.names):fn.names.lookup x=some .cell\/fn.names.lookup x=some .free:=(S.names _ h).1.elim (fun h=>by cases h) fun h=>h.elim (fun h=>by cases h) fun h=>h.2
theorem ScOk.nocell(S:ScOk fn sc)(h:(x,NameKind.cell)∈sc.names){P:Prop}:P:=(S.names _ h).1.elim (fun h=>by cases h) fun h=>h.elim (fun h=>by cases h) fun h=>by cases h.1
end
noncomputable def Fk(env:Env)(sc:Scope)(L:Addr):Env:={ newEnv sc L env.globals (Gu env sc.names []) env.qual none .none (some env) builtinsNs with scope:=relabel sc env }
noncomputable def JQ(F:Fx)(sc:Scope)(L:Addr):Fx:=⟨F.fn.sc sc.names,Fk F.env sc L⟩
section
variable{X:Cx}{F:Fx}{o:Ops}{n:Nat}{st st':St}{A:Around}{T T' T'':Sm}{Q E:Value->Shared->Prop}{sc:Scope}{L:Addr}{h:Heap}{tk:Nat}
theorem Inv.free(S:ScOk F.fn sc)(i:Inv X F st T)(x:Str)(hx:(x,NameKind.free)∈sc.names):∃c,F.env.cells.lookup x=some c:=i.frm.cells x ((S.free hx).elim (fun h=>.inl (i.frm.cel x h)) (i.frm.fre x))
theorem Inv.inC(S:ScOk F.fn sc)(i:Inv X F st T){x:Str}{c:Addr}(h:(Gu F.env sc.names []).lookup x=some c):F.env.cells.lookup x=some c:=Yu (i.free S) (fun _ _ h=>by rw[List.lookup_nil] at h;cases h) h
theorem Inv.faC(S:ScOk F.fn sc)(i:Inv X F st T){a:Addr}(h:FA (Fk F.env sc L) a):a=L\/FA F.env a:=h.imp id fun q=>.inr (q.imp fun x hx=>i.inC S hx)
theorem FS.comp(S:ScOk F.fn sc){a:Addr}(h:FS (JQ F sc L) a):a=L:=h.elim id fun q=>q.elim fun x q=>S.nocell (Gv q.1)
theorem ME(x:Str):(Fk F.env sc L).kindOf x=(sc.names.lookup x).map (IR F.env x):=Yy
theorem SE{x:Str}(h:sc.names.lookup x=some .free):(Fk F.env sc L).kindOf x=some .cell\/(Fk F.env sc L).kindOf x=some .free:=by
 rw[ME,h]
 show some (IR F.env x .free)=_\/some (IR F.env x .free)=_
 unfold IR
 by_cases hc:(NameKind.free == NameKind.free&&F.env.scope.kind == .function&&F.env.kindOf x == some .cell)=true
 ·rw[A5 hc];exact .inl rfl
 ·rw[A3 hc];exact .inr rfl
theorem Z1(S:ScOk F.fn sc)(i:Inv X F st T)(hL:¬Al T.s.heap L)(hn:h.Ns L (fun _=>.none))(hk:∀b o,T.s.heap.get? b=some o->h.get? b=some o):Inv X (JQ F sc L) ⟨seen sc.names st.vars,st.store⟩ (T.hp h tk):=by
 have a₁:AE X F T st (T.hp h tk):=.grow i hk
 have nodef:∀{x:Str},(∀p∈sc.names,p.1≠x)->sc.names.lookup x=.none:=fun {x} hx=>by
  cases hl:sc.names.lookup x with
  |none=>rfl
  |some k=>exact absurd rfl (hx _ (Gv hl))
 obtain⟨m,cm,_,hc,hv⟩:=a₁.inv.frm.has
 refine⟨a₁.inv.mid,fun a q=>(i.faC S q).elim (fun e=>e▸⟨fun q=>hL (i.mid.fal _ q),fun q=>hL (i.wal q)⟩) (i.ffa a),{ kind:=S.kind,dbg:=⟨nodef fun p hp=>(S.names p hp).2.1,nodef fun p hp=>(S.names p hp).2.2⟩,loc:=fun x hx=>?_,cel:=fun x hx=>S.nocell (Gv hx),fre:=fun x hx=>SE hx,glo:=fun x hx=>?_,glb:=i.frm.glb,blt:=i.frm.blt,cells:=fun x hx=>?_,apart:=fun x y c hx hy=>i.frm.apart x y c (i.inC S hx) (i.inC S hy),above:=fun x c hx e=>?_,has:=⟨_,cm,hn,fun x c hx=>hc x c (i.inC S hx),fun x v hx=>?_⟩ }⟩
 ·show(Fk F.env sc L).kindOf x=_
  rw[ME,show sc.names.lookup x=_ from hx];rfl
 ·show(Fk F.env sc L).kindOf x=_
  rw[ME,show sc.names.lookup x=_ from hx];rfl
 ·have hf:sc.names.lookup x=some .free:=by
   have hx:(Fk F.env sc L).kindOf x=some .cell\/(Fk F.env sc L).kindOf x=some .free:=hx
   rw[ME] at hx
   cases hl:sc.names.lookup x with
   |none=>rw[hl] at hx;rcases hx with e |e <;> cases e
   |some k=>
    rw[hl] at hx
    rcases(S.names _ (Gv hl)).1 with e |e |e
    ·cases e;rcases hx with e |e <;> cases e
    ·cases e;rcases hx with e |e <;> cases e
    ·exact A2 some e.1
  exact J4.mp (Yw (cs:=[]) (Gv hf))
 ·exact hL ((show c=L from e)▸i.faal (.inr ⟨x,i.inC S hx⟩))
 ·obtain⟨h1,h2⟩:=Yz hx
  obtain⟨u,r,q⟩:=hv x v h2
  refine⟨u,r,.inr ⟨SE h1,?_⟩⟩
  refine q.elim (fun q=>?_) fun q=>q.2
  exact(S.free (Gv h1)).elim (fun z=>by cases (i.frm.cel x z).symm.trans q.1) fun z=>(i.frm.fre x z).elim (fun z=>by cases z.symm.trans q.1) fun z=>by cases z.symm.trans q.1
theorem Inv.back{F':Fx}(i:Inv X F st T)(x:Ext T.M.W T T')(i':Inv X F' st' T'):AE X F T (st.sto st'.store) T':=
 have m:Mono T T':=x.mono i.mid.fw
 ⟨x,m,i'.mid,fun a f=>⟨fun q=>(x.fnew a q).elim (i.ffa a f).1 fun q=>q.elim (i.ffa a f).2 fun q=>q (i.faal f),fun q=>(x.wnew a q).elim (i.ffa a f).2 fun q=>q (i.faal f)⟩,i.frm.mono m fun b o f e=>x.keep b o e (i.ffa b f).2⟩
structure CompEnd(X:Cx)(F:Fx)(T:Sm)(p:R×St)(T':Sm)(acc:Value)(L:Addr):Prop where
 aft:AE X F T p.2 T'
 rr:RR X F T T' p.1 acc
 new:¬Al T.s.heap L
 f:¬T'.M.F L
 w:¬T'.M.W L
 ne:acc≠.ref L
 ns:∃m,T'.s.heap.Ns L m
theorem SF(H:Snd X o n)(HT:Top X){elt:Expr}{gs:List Comprehension}{pos pos':Pos}{use:Option (Value->Sem Unit)}{p:R×St}(hA:AO A n)(he:Lm X.G o F.fn elt gs sc st=some p)(i:Inv X F st T)
 (k:∀acc L T',CompEnd X F T p T' acc L->compPost (model X.prog X.w) A E use Q acc L (.ok .next) T'.s) :
 WP X A (comprehension (.ListComp elt gs sc pos) sc F.env pos' (newList []) (firstAsync gs) (firstIter gs F.env) use) Q E T:=by
 cases gs with
 |nil=>exact nK he
 |cons g gs=>
  refine iK he fun hok he=>Ad hok fun hsc hgs=>bK he fun q hq he=>bK hq fun q' h1 hq=>bK hq fun tg htg hq=>iK hq fun ht hq=>?_
  cases hq
  refine bK he fun r hr he=>pK he fun hlen he=>?_
  cases he
  have S:=Z0 hsc
  have gk:∀g'∈g::gs,∀env,g'.is_async=0/\∀x,foldedSetIterable g'.iter env x=pure x:=fun g' hg' env=>SD (CO.mp hgs g' hg')
  have has:firstAsync (g::gs)=false:=by
   obtain⟨a,b,c,d⟩:=g
   have:=(gk _ (.head _) F.env).1
   dsimp only at this
   subst this
   rfl
  have hfi:firstIter (g::gs) F.env=eval g.iter F.env:=by obtain⟨a,b,c,d⟩:=g;rfl
  rw[has,hfi]
  refine wpAny_comprehension_free (g:=g) (gs:=gs) rfl (gk g (.head _) F.env).2 (Yt (i.free S)) S.kind (fun x hx hl=>Yx S.nod (by rw[<-hl];exact hx)) ?_
  refine OG H HT hA (MC htg) ht h1 i fun I T₁ a₁ q=>?_
  obtain⟨N,fp,wr,P,Md,Sf,Sr⟩:=q
  refine wpAny_newObj_type (wpAny_newFunctionEnv (fun y hy e=>S.nocell (x:=y.1) (e▸hy)) (fun _ h=>Eo h) (fun h₂ hns hsb=>?_) S.kind)
  dsimp only at hns hsb ⊢
  generalize hH:T₁.s.heap.push { cls:=.type "list",dict:=none,data:=.seq ([]:List Value).toArray }=H2 at hns hsb ⊢
  have hD0:H2.get? T₁.s.heap.objs.size=some (seqObj "list" (List.toArray []) 0):=by rw[<-hH];exact D2 _ rfl
  have hLz:H2.objs.size=T₁.s.heap.objs.size+1:=by rw[<-hH,Heap.size_push]
  have kH2:∀b o,H2.get? b=some o->h₂.get? b=some o:=fun b o e=>hsb.extBut b o (CA (Co e)) (DZ _ e)
  have hk:∀b o,T₁.s.heap.get? b=some o->h₂.get? b=some o:=fun b o e=>kH2 b o (by rw[<-hH];exact DZ _ e)
  have hLn:¬Al T₁.s.heap H2.objs.size:=fun q=>absurd (hLz▸q.lt:T₁.s.heap.objs.size+1 < T₁.s.heap.objs.size) (C2.mpr (Cb _))
  have hDn:¬Al T₁.s.heap T₁.s.heap.objs.size:=EU _
  have hDL:T₁.s.heap.objs.size≠H2.objs.size:=by rw[hLz];exact(Nat.succ_ne_self _).symm
  generalize hLe:H2.objs.size=L at *
  generalize hDe:T₁.s.heap.objs.size=D at *
  have a₂:AE X F T₁ q'.2 (T₁.hp h₂ T₁.s.toks):=.grow a₁.inv hk
  have i₁:=(Inv.back i a₁.ext a₁.inv).inv
  have i₂:Inv X (JQ F sc L) ⟨seen sc.names st.vars,q'.2.store⟩ (T₁.hp h₂ T₁.s.toks):=Z1 S i₁ hLn hns hk
  have acc₂:AccAt X (JQ F sc L) (T₁.hp h₂ T₁.s.toks) D []:=⟨⟨[],⟨0,kH2 _ _ hD0⟩,rfl⟩,fun q=>hDn (i₁.mid.fal _ q),fun q=>q.elim (fun q=>hDn (i₁.wal q)) fun q=>(i₁.faC S q).elim hDL fun q=>hDn (i₁.faal q)⟩
  have inner:=fun {st:St} {p:List V×St} {acc:List V} {T:Sm} {E:Value->Shared->Prop} {K:Shared->Prop}=>Yr (F:=JQ F sc L) H HT hA (elt:=elt) (gs0:=g::gs) (sc:=sc) (pos:=pos) (D:=D) (CO.mp hgs) (gs:=gs) (pre:=[g]) rfl (st:=st) (p:=p) (acc:=acc) (T:=T) (E:=E) (K:=K)
  have m₂:=a₁.mono.trans a₂.mono
  have loop:codeAny (model X.prog X.w) A (.compLoop (.ListComp elt (g::gs) sc pos) 0 (.ref I) (.ref D) (Fk F.env sc L)) (compPost (model X.prog X.w) A E use Q (.ref D) L) (T₁.hp h₂ T₁.s.toks).s:=by
   refine SC (F:=JQ F sc L) (T₁:=T) (T:=T₁.hp h₂ T₁.s.toks) H hA (elt:=elt) (gs0:=g::gs) (sc:=sc) (pos:=pos) (d:=0) rfl (gk g (.head _) F.env).1 (fun g' hg'=>(gk g' (.tail _ (Fa hg')) F.env).1) (fun g' hg' x=>(gk g' (.tail _ (Fa hg')) _).2 x) htg ht inner Sr (fun b hb=>(Sr.wr b hb).2)
    ⟨Sr.turns.frame 0 _ _ Sr.st0 fun b _ o e=>hk b o e,fun b hb=>⟨fun q=>q.elim (fun q=>(Sr.fp b hb).1 (.inl q)) fun q=>(i₁.faC S q).elim (fun e=>hLn (e▸Sr.al 0 _ Sr.st0 b hb)) fun q=>(Sr.fp b hb).1 (.inr q),fun (e:b=D)=>hDn (e▸Sr.al 0 _ Sr.st0 b hb)⟩,fun b hb=>(Sr.wr b hb).1,a₂.mono⟩
    (.ofW (a₁.trans a₂).ext) m₂ hr i₂ acc₂ (by rw[List.length_nil,De];exact hlen) fun T' x' m' i' acc'=>?_
   have x'':Ext T.M.W T T':=x'.weaken fun a q=>q.elim (fun q=>q.elim .inl fun q=>.inr fun z=>hLn (FS.comp S q▸a₁.ext.al _ z)) fun q=>.inr fun z=>hDn ((show a=D from q)▸a₁.ext.al _ z)
   obtain⟨us,e,rr⟩:=acc'.at_
   obtain⟨m',_,hnm,_⟩:=i'.frm.has
   have hLF:=i'.ffa L (.inl rfl)
   exact k _ _ T' ⟨Inv.back i x'' i',⟨D,us,rfl,fun q=>hDn (a₁.ext.al _ q),acc'.f,fun q=>q.elim (fun q=>acc'.w (.inl q)) fun q=>hDn (a₁.ext.al _ (i.faal q)),e,rr,hlen⟩,fun q=>hLn (a₁.ext.al _ q),hLF.1,hLF.2,fun e=>hDL (Value.ref.inj e),⟨m',hnm⟩⟩
  unfold Fk at loop
  rw[show builtinsNs=F.env.builtins from i.frm.blt.symm] at loop
  exact S8 rfl (gk g (.head _) F.env).1 loop (Sr.self 0 _ _ _ (Sr.turns.frame 0 _ _ Sr.st0 fun b _ o e=>hk b o e) loop)
end
open PySem PyProof.Rows PySem.Calls PySem.W
section
variable{x:Str}{kindOf:Str->Option NameKind}
theorem Z2{l:List (Str×NameKind)}:∀{n:Nat} {acc:List (Str×Addr)},(acc.lookup x).isSome=true->((cellsFrom n l acc).lookup x).isSome=true:=by
 induction l with
 |nil=>exact fun h=>h
 |cons p l ih=>
  intro n acc h
  obtain⟨y,k⟩:=p
  unfold cellsFrom
  by_cases hk:(k == NameKind.cell)=true
  ·rw[A5 hk]
   refine ih ?_
   rw[HY]
   cases x == y with
   |true=>rfl
   |false=>exact h
  ·rw[A3 hk];exact ih h
theorem SG{l:List (Str×NameKind)}:∀{n:Nat} {acc:List (Str×Addr)},(x,NameKind.cell)∈l->((cellsFrom n l acc).lookup x).isSome=true:=by
 induction l with
 |nil=>exact fun h=>Eo h
 |cons p l ih=>
  intro n acc h
  obtain⟨y,k⟩:=p
  unfold cellsFrom
  cases h with
  |head=>
   rw[A5 (beq_self_eq_true _)]
   exact Z2 (by rw[HY,beq_self_eq_true];rfl)
  |tail _ h=>
   by_cases hk:(k == NameKind.cell)=true
   ·rw[A5 hk];exact ih h
   ·rw[A3 hk];exact ih h
theorem Z3{binds:List (Str×Value)}:∀{m:Str->Option Value},(∀p∈binds,p.1≠x)->bindL kindOf binds m x=m x:=by
 induction binds with
 |nil=>exact fun _=>rfl
 |cons p r ih=>
  intro m h
  obtain⟨y,v⟩:=p
  rw[bindL,ih fun p hp=>h p (.tail _ hp)]
  by_cases hk:kindOf y=some .local
  ·rw[A5 hk];exact A3 fun e=>h _ (.head _) e.symm
  ·rw[A3 hk]
theorem Z4{binds:List (Str×Value)}:∀{m:Str->Option Value},(∀p∈binds,p.1≠x)->bindC kindOf binds m x=m x:=by
 induction binds with
 |nil=>exact fun _=>rfl
 |cons p r ih=>
  intro m h
  obtain⟨y,v⟩:=p
  rw[bindC,ih fun p hp=>h p (.tail _ hp)]
  by_cases hk:kindOf y=some .local
  ·rw[A5 hk]
  ·rw[A3 hk];exact A3 fun e=>h _ (.head _) e.symm
structure Bnd(I:Iota)(T:Sm)(kindOf:Str->Option NameKind)(b:List (Str×Value))(m cm:Str->Option Value)(x:Str)(v:V)(u:Value):Prop where
 rep:AA I T v u
 loc:kindOf x=some .local->bindL kindOf b m x=some u
 cel:kindOf x≠some .local->bindC kindOf b cm x=some u
theorem Z5{I:Iota}{T:Sm}{v:V}{ps:List Str}:∀{vs:List V} {us:List Value} {m cm:Str->Option Value},ps.Nodup->A7 (AA I T) vs us->AG x (ps.zip vs)=some v->x∈ps/\∃u,Bnd I T kindOf (ps.zip us) m cm x v u:=by
 induction ps with
 |nil=>exact fun _ _ e=>by cases e
 |cons p ps ih=>
  intro vs us m cm hn r e
  cases vs with
  |nil=>cases e
  |cons w vs=>
   obtain⟨u,ws,rfl,r1,r2⟩:=r
   obtain⟨hn1,hn2⟩:=BZ.mp hn
   have e:(if x=p then some w else AG x (ps.zip vs))=some v:=e
   by_cases hx:x=p
   ·rw[A5 hx] at e
    cases e
    cases hx
    have hout:∀q∈ps.zip ws,q.1≠x:=fun q hq e=>hn1 (e▸(List.of_mem_zip hq).1)
    exact⟨.head _,u,r1,fun hk=>by rw[List.zip_cons_cons,bindL,Z3 hout,A5 hk];exact A5 rfl,fun hk=>by rw[List.zip_cons_cons,bindC,Z4 hout,A3 hk];exact A5 rfl⟩
   ·rw[A3 hx] at e
    obtain⟨h1,u',q⟩:=ih (m:=if kindOf p=some .local then fun y=>if y=p then some u else m y else m) (cm:=if kindOf p=some .local then cm else fun y=>if y=p then some u else cm y) hn2 r2 e
    exact⟨.tail _ h1,u',q.rep,fun hk=>by rw[List.zip_cons_cons,bindL];exact q.loc hk,fun hk=>by rw[List.zip_cons_cons,bindC];exact q.cel hk⟩
end
noncomputable def Mm.shut(M:Mm):Mm:=⟨fun a=>M.F a\/M.W a,[],[]⟩
section
variable{X:Cx}{F:Fx}{o:Ops}{n:Nat}{st st':St}{A:Around}{T T' T'':Sm}{Q E:Value->Shared->Prop}{σ:List Cell}{u:Value}{v:V}{l:List V}{us:List Value}
theorem SH{f:V->Option D}{P:V->Value->Prop}{P':D->Value->Prop}(ih:∀v d u,f v=some d->P v u->P' d u){l:List V}:∀{ds:List D} {us:List Value},l.mapM f=some ds->A7 P l us->A7 P' ds us/\ds.length=l.length:=by
 induction l with
 |nil=>intro ds us e r;rw[List.mapM_nil] at e;cases e;exact⟨r,rfl⟩
 |cons v l ihl=>
  intro ds us e r
  rw[List.mapM_cons] at e
  obtain⟨u,ws,rfl,r1,r2⟩:=r
  refine bK e fun d hd e=>bK e fun ds' hs e=>?_
  cases e
  obtain⟨q1,q2⟩:=ihl hs r2
  exact⟨⟨u,ws,rfl,ih v d u hd r1,q1⟩,A2 (·+1) q2⟩
theorem SI(S:Mid X σ T){n:Nat}:∀{v:V} {d:D} {u:Value},FK n σ v=some d->AA X.I T v u->AR X.I (T.mm T.M.shut) d u:=by
 have md:∀{d:D} {u:Value},AR X.I T d u->AR X.I (T.mm T.M.shut) d u:=fun r=>AR.monoF (T:=T) (T':=T.mm T.M.shut) ⟨fun _ f=>Or.inl f,fun _ _ _ e=>e⟩ r
 induction n with
 |zero=>
  intro v d u e r
  cases v with
  |d x=>cases e;exact md r
  |_=>cases e
 |succ n ih=>
  have seq:∀{ty:String} {a:Addr} {l:List V} {us:List Value} {ds:List D},T.M.F a\/T.M.W a->T.seq ty a us->A7 (AA X.I T) l us->l.length<=lim->l.mapM (FK n σ)=some ds->(T.mm T.M.shut).M.F a/\(T.mm T.M.shut).seq ty a us/\ds.length<=lim/\Do X.I (T.mm T.M.shut) ds us:=fun f o r z e=>
   have q:=SH (P':=AR X.I (T.mm T.M.shut)) (fun v d u=>ih) e r
   ⟨f,o,q.2▸z,Go.mpr q.1⟩
  intro v d u e r
  cases v with
  |d x=>cases e;exact md r
  |tup l=>
   refine AA.tup_k (P:=fun u=>AR X.I (T.mm T.M.shut) d u) r fun a us f o z r=>mK (C:=fun d=>AR X.I (T.mm T.M.shut) d (.ref a)) e fun ds hd=>?_
   exact⟨a,us,rfl,seq (.inl f) o r z hd⟩
  |loc j=>
   refine AA.loc_k (I:=X.I) (P:=fun u=>AR X.I (T.mm T.M.shut) d u) r fun a ha=>bK e fun l hl e=>mK (C:=fun d=>AR X.I (T.mm T.M.shut) d (.ref a)) e fun ds hd=>?_
   have hf:T.M.F a\/T.M.W a:=by
    cases hc:σ[j]? with
    |none=>rw[hc] at hl;exact nK hl
    |some c=>
     rw[hc] at hl
     cases c with
     |lst l=>exact S.cell_k ha hc fun g hg q=>.inr (Mm.W_of hg (q.1▸DE a))
     |froz l=>exact S.cell_k ha hc fun g hg q=>by obtain⟨_,b,us,e,f,_⟩:=q;cases e;exact .inl f
     |_=>exact nK hl
   exact O0 S ha hl fun us o r z=>⟨a,us,rfl,seq hf o r z hd⟩
theorem Z6(S:Mid X σ T'){r r':R}(e:J9 σ r=some r')(h:RC X T T' r u):RC X T (T'.mm T'.M.shut) r' u:=by
 cases r with
 |val v=>exact mK (C:=fun r'=>RC X T (T'.mm T'.M.shut) r' u) e fun d hd=>SI S hd h
 |fresh l=>
  refine mK (C:=fun r'=>RC X T (T'.mm T'.M.shut) r' u) e fun ds hd=>h.imp fun a q=>q.imp fun us q=>⟨q.1,?_⟩
  have z:=SH (P':=AR X.I (T'.mm T'.M.shut)) (fun v d u=>SI S) hd q.2.rep
  exact⟨q.2.new,fun f=>f.elim q.2.nf q.2.nw,fun h=>Eo h,q.2.obj,A7.map.mpr z.1,by rw[A4,z.2];exact q.2.len⟩
noncomputable def OH(f:Fn)(fd:FuncData)(s:Shared)(fa:Addr):Fx:=⟨f,callEnvC fd s.heap.objs.size fa⟩
theorem Z7{f:Fn}{fa:Addr}{fo:Obj}{fd:FuncData}{vs:List V}{s₁:Shared}(hf:FnAt T.s.heap fa f fo fd)(m:Mid X σ T)(hr:A7 (AA X.I T) vs us)
 (hi:InCallC T.s (callEnvC fd T.s.heap.objs.size fa).locals (bindL (callEnvC fd T.s.heap.objs.size fa).kindOf (f.params.zip us) fun _=>none) (callEnvC fd T.s.heap.objs.size fa).cells (bindC (callEnvC fd T.s.heap.objs.size fa).kindOf (f.params.zip us) fun _=>none) s₁) :
 ∃T₁,T₁.s=s₁/\Inv X (OH f fd T.s fa) ⟨f.params.zip vs,σ⟩ T₁/\Ext T.M.W T T₁/\(∀a,FA (OH f fd T.s fa).env a->¬Al T.s.heap a):=by
 obtain⟨h',tk,rfl,hk⟩:=hi.done
 have hko:∀x,(callEnvC fd T.s.heap.objs.size fa).kindOf x=f.names.lookup x:=fun x=>A2 (List.lookup x) hf.names
 have hnew:∀a,FA (callEnvC fd T.s.heap.objs.size fa) a->¬Al T.s.heap a:=fun a h q=>h.elim (fun h=>FF T.s.heap.objs.size ((show a=T.s.heap.objs.size from h)▸q.lt)) fun w=>w.elim fun x h=>FF _ (AN q.lt (hi.above x a (mem_of_lookup h)))
 have hfree:∀x,f.names.lookup x≠some .free:=fun x e=>by cases CO.mp hf.free _ (Gv e)
 have mo:Mono T (T.hp h' tk):=⟨fun _ f=>f,fun b o _=>hk b o,Bw _⟩
 refine⟨T.hp h' tk,rfl,⟨m.hp fun b o _=>hk b o,fun a h=>⟨fun q=>hnew a h (m.fal a q),fun q=>hnew a h (m.wal q)⟩,{ kind:=hf.kind,dbg:=hf.dbg,loc:=fun x hx=>(hko x).trans hx,cel:=fun x hx=>(hko x).trans hx,fre:=fun x hx=>absurd hx (hfree x),glo:=fun x hx=>(hko x).trans hx,glb:=hf.glb,blt:=hf.blt,cells:=fun x hx=>?_,apart:=fun x y c hx hy=>name_of_addr hi.apart (mem_of_lookup hx) (mem_of_lookup hy),above:=fun x c hx=>CV (hi.above x c (mem_of_lookup hx)),has:=⟨_,_,hi.toInCall.ns,hi.cell,fun x v hx=>?_⟩ }⟩,.hp _ (fun b o _=>hk b o) fun b _ q=>q.imp fun o=>hk b o,hnew⟩
 ·refine hx.elim (fun hx=>?_) fun hx=>absurd ((hko x).symm.trans hx) (hfree x)
  exact J4.mp (SG (hf.names▸Gv ((hko x).symm.trans hx)))
 ·obtain⟨hm,u,B⟩:=Z5 (kindOf:=(callEnvC fd T.s.heap.objs.size fa).kindOf) (m:=fun _=>none) (cm:=fun _=>none) hf.pnod hr hx
  refine⟨u,B.rep.mono mo,(Iz.mp (CO.mp hf.kinds x hm)).imp (fun h=>?_) fun h=>?_⟩
  ·exact⟨(hko x).trans (eq_of_beq h),B.loc ((hko x).trans (eq_of_beq h))⟩
  ·have hc:=(hko x).trans (eq_of_beq h)
   exact⟨.inl hc,B.cel (by rw[hc];intro h;cases h)⟩
theorem AO.deeper{env:Env}(h:AO A (n+1)):AO (A.deeper env) n:=⟨h.h,by have:=h.d;show A.depth+1+n < _;rw[DG];exact this,Aa (EP (by show A.units+3+8*n<=A.units+8*(n+1);rw[Dd,Nat.mul_succ,Nat.add_comm 3];exact C9 (C9 (by decide) _) _) 300) h.u⟩
theorem SJ(H:Snd X o n)(HT:Top X){f:Fn}{fa:Addr}{fo:Obj}{fd:FuncData}{vs:List V}{p:Fl×St}{R:Result->Shared->Prop}(hA:AO A (n+1))(hl:vs.length=f.params.length)(he:o.ex f f.body ⟨f.params.zip vs,σ⟩=some p)(hf:FnAt T.s.heap fa f fo fd)(m:Mid X σ T)(hr:A7 (AA X.I T) vs us)
 (k:∀u T',AftC X T p.2.store T'->RC X T T' (Lz p.1) u->R (.ok (.ret u)) T'.s):codeAny (model X.prog X.w) A (.call (.ref fa) ⟨us,[]⟩) R T.s:=by
 have hkind:∀x∈f.params.zip us,fd.scope.names.lookup x.1=some .local\/(fd.scope.names.lookup x.1=some .cell/\((cellsFrom (T.s.heap.objs.size+1) fd.scope.names []).lookup x.1).isSome=true):=fun x hx=>by
  rw[hf.names]
  exact(Iz.mp (CO.mp hf.kinds x.1 (List.of_mem_zip hx).1)).imp eq_of_beq fun h=>⟨eq_of_beq h,SG (Gv (eq_of_beq h))⟩
 refine codeAny_call_cells (Aa (BJ _ _) hA.d) hf.at_ hf.dat (HT.nolim.keeps m.top) hf.code hf.body (hf.bind us (hr.length.trans hl)) hf.clo hkind (fun s₁ hi=>?_) hf.co hf.gen hf.kind
 obtain⟨T₁,rfl,i,x,hnew⟩:=Z7 hf m hr hi
 refine H.ex hA.deeper he i fun fl T' a hfl=>?_
 have xx:AftC X T p.2.store T':=⟨x.trans a.ext fun b q=>q.elim (x.wnew b) fun q=>.inr (hnew b q.fa),a.inv.mid⟩
 have rc:∀{r u},RR X (OH f fd T.s fa) T₁ T' r u->RC X T T' r u:=fun {r u} h=>by
  cases r with
  |val v=>exact h
  |fresh l=>exact h.imp fun b q=>q.imp fun us q=>⟨q.1,fun z=>q.2.new (x.al b z),q.2.nf,fun z=>q.2.nw (.inl z),q.2.obj,q.2.rep,q.2.len⟩
 obtain⟨fl',st'⟩:=p
 cases fl' with
 |next=>cases hfl;exact k _ T' xx rfl
 |ret r=>obtain⟨u,rfl,h⟩:=hfl;exact k _ T' xx (rc h)
theorem Z8(H:Snd X o n)(HT:Top X){f:Fn}{fa:Addr}{fo:Obj}{fd:FuncData}{vs:List V}{p:R×List Cell}{Q:Result->Shared->Prop}(hA:AO A (n+1))(he:RL o f vs σ=some p)(hf:FnAt T.s.heap fa f fo fd)(m:Mid X σ T)(hr:A7 (AA X.I T) vs us)(k:KC X T Q p):codeAny (model X.prog X.w) A (.call (.ref fa) ⟨us,[]⟩) Q T.s:=
 pK he fun hl he=>cK he (fun _ he=>mQ he k fun q hq k=>SJ H HT hA hl hq hf m hr k) fun _ he=>iK he fun hn he=>Gs (C:=fun σ=>Mid X σ T->codeAny (model X.prog X.w) A (.call (.ref fa) ⟨us,[]⟩) Q T.s) hn (fun m=>bK he fun q hq he=>mQ he k fun r' hr' k=>SJ H HT hA hl hq hf m hr fun u T' a rc=>by
  have gp0:T.M.gp=[]:=List.length_eq_zero_iff.mp m.lg
  have ad0:T.M.ad=[]:=List.length_eq_zero_iff.mp m.la
  have xx:=a.ext
  exact k u (T'.mm T'.M.shut) ⟨⟨xx.sh,xx.keep,xx.al,fun b q=>.inl (xx.F b q),fun b q=>q.elim (xx.fnew b) fun q=>.inr (xx.wnew b q),fun _ h=>Eo h,by rw[ad0];exact Bw _⟩,a.mid.top,fun b q=>.inl (a.mid.base b q),fun b q=>q.elim (a.mid.fal b) a.mid.wal,fun b _ h=>Eo h,rfl,rfl,Ca,fun _ _ h=>by cases h⟩ (Z6 a.mid hr' rc)) m
end
open PySem PyProof.Rows PySem.Calls PySem.W
structure ClsG(X:Cx)(K:Frag):Prop where
 inB:K.In X.hB
 nm:X.mg X.G.cls=some (.ref X.C)
 keep:keepIn K (.ref X.C)=true
 ga:findIn K (.ref X.C) "__getattribute__" = some (some (.builtin "object.__getattribute__"))
 gn:findIn K (.ref X.C) "__getattr__" = some none
 sa:findIn K (.ref X.C) "__setattr__" = some (some (.builtin "object.__setattr__"))
 po:plainOver K X.C=true
 hd:hasDictIn K X.C=true
 mks:makesIn K X.C=true
 fld:∀a∈X.G.flds,findIn K (.ref X.C) a=some none
 ini:∃fI o fd,findIn K (.ref X.C) "__init__" = some (some (.ref fI))/\typeIn K (.ref fI)=some (.type "function")/\FnAt X.hB fI X.G.init o fd
 mth:∀m f,AG m X.G.meths=some f->∃a o fd,findIn K (.ref X.C) m=some (some (.ref a))/\typeIn K (.ref a)=some (.type "function")/\FnAt X.hB a f o fd/\m∉X.G.flds
 fin:∀x f,AG x X.G.fns=some f->x≠X.G.cls
theorem FnAt.keeps{h h':Heap}{a:Addr}{f:Fn}{o:Obj}{fd:FuncData}(x:FnAt h a f o fd)(hk:∀b o,h.get? b=some o->h'.get? b=some o):FnAt h' a f o fd:=
 { x with at_:=hk _ _ x.at_,code:=x.code.keeps hk }
section
variable{P:Params}{I:Iota}{T:Sm}{x:Str}{fs:List (Str×V)}{v:V}{u:Value}
theorem OI{y:Str}{t:Tok}(h:¬x=y):(Value.str y t).isStr x=false:=beq_eq_false_iff_ne.mpr fun e=>h e.symm
theorem DR.look:∀{es:List DictEntry},DR P I T fs es->AG x fs=some v->∃e,es.find? (·.key.isStr x)=some e/\AA I T v e.val:=by
 induction fs with
 |nil=>exact fun _ h=>by cases h
 |cons p fs ih=>
  intro es r h
  obtain⟨t,u,es',rfl,r1,r2⟩:=r
  have h:(if x=p.1 then some p.2 else AG x fs)=some v:=h
  rw[List.find?_cons]
  by_cases hx:x=p.1
  ·rw[A5 hx] at h
   cases h
   rw[show(Value.str p.1 t).isStr x=true from hx▸beq_self_eq_true x]
   exact⟨_,rfl,r1⟩
  ·rw[A3 hx] at h
   rw[OI hx]
   exact ih r2 h
theorem DR.miss:∀{es:List DictEntry},DR P I T fs es->AG x fs=.none->es.find? (·.key.isStr x)=.none:=by
 induction fs with
 |nil=>intro es r _;cases r;rfl
 |cons p fs ih=>
  intro es r h
  obtain⟨t,u,es',rfl,r1,r2⟩:=r
  have h:(if x=p.1 then some p.2 else AG x fs)=.none:=h
  rw[List.find?_cons]
  by_cases hx:x=p.1
  ·rw[A5 hx] at h;cases h
  ·rw[A3 hx] at h
   rw[OI hx]
   exact ih r2 h
theorem DR.norefs:∀{es:List DictEntry},DR P I T fs es->es.any (·.refKey)=false:=by
 induction fs with
 |nil=>intro es r;cases r;rfl
 |cons p fs ih=>intro es r;obtain⟨t,u,es',rfl,r1,r2⟩:=r;exact(Bool.false_or _).trans (ih r2)
theorem DR.put{t:Tok}(hv:AA I T v u):∀{es:List DictEntry},DR P I T fs es->DR P I T (AS x v fs) (putL x (PyData.keyHash P x) (.str x t) u es):=by
 induction fs with
 |nil=>intro es r;cases r;exact⟨t,u,[],rfl,hv,rfl⟩
 |cons p fs ih=>
  intro es r
  obtain⟨t',u',es',rfl,r1,r2⟩:=r
  show DR P I T (if x=p.1 then(x,v)::fs else p::AS x v fs) _
  unfold putL
  by_cases hx:x=p.1
  ·rw[A5 hx,show(Value.str p.1 t').isStr x=true from hx▸beq_self_eq_true x]
   rw[<-hx]
   exact⟨t',u,es',rfl,hv,r2⟩
  ·rw[A3 hx,OI hx]
   exact⟨t',u',_,rfl,r1,ih r2⟩
theorem DR.len:∀{es:List DictEntry},DR P I T fs es->es.length=fs.length:=by
 induction fs with
 |nil=>intro es r;cases r;rfl
 |cons p fs ih=>intro es r;obtain⟨t,u,es',rfl,r1,r2⟩:=r;exact A2 (·+1) (ih r2)
theorem Z9{α:Type}{v:α}(l:List (Str×α)):(AS x v l).length<=l.length+1:=by
 induction l with
 |nil=>exact Am _
 |cons p l ih=>
  show(if x=p.1 then(x,v)::l else p::AS x v l).length<=_
  by_cases h:x=p.1
  ·rw[A5 h];exact Cb _
  ·rw[A3 h];exact DH ih
theorem ZA{α:Type}{v:α}{l:List (Str×α)}(h:(l.map (·.1)).Nodup):((AS x v l).map (·.1)).Nodup/\∀y∈(AS x v l).map (·.1),y=x\/y∈l.map (·.1):=by
 induction l with
 |nil=>exact⟨BZ.mpr ⟨B3,Ca⟩,fun y hy=>.inl (Ar.mp hy)⟩
 |cons p l ih=>
  obtain⟨h1,h2⟩:=BZ.mp h
  obtain⟨i1,i2⟩:=ih h2
  rw[show AS x v (p::l)=if x=p.1 then(x,v)::l else p::AS x v l from rfl]
  by_cases e:x=p.1
  ·rw[A5 e]
   exact⟨BZ.mpr ⟨e▸h1,h2⟩,fun z hz=>(Au.mp hz).imp id (.tail _)⟩
  ·rw[A3 e]
   exact⟨BZ.mpr ⟨fun q=>(i2 _ q).elim (fun q=>e q.symm) h1,i1⟩,fun z hz=>(Au.mp hz).elim (fun q=>.inr (q▸.head _)) fun q=>(i2 z q).imp id (.tail _)⟩
theorem ZB(r:AA I T v u):handedIn u=true:=by
 cases v with
 |loc k=>obtain⟨a,_,rfl⟩:=r;rfl
 |tup l=>obtain⟨a,_,rfl,_⟩:=r;rfl
 |d x=>
  cases x with
  |none=>cases r;rfl
  |bool _=>cases r;rfl
  |int _=>obtain⟨t,rfl⟩:=r;rfl
  |key _=>obtain⟨t,rfl⟩:=r;rfl
  |str _=>obtain⟨t,rfl,_⟩:=r;rfl
  |tup _=>obtain⟨a,_,rfl,_⟩:=r;rfl
  |lst _=>obtain⟨a,_,rfl,_⟩:=r;rfl
end
section
variable{X:Cx}{K:Frag}{F:Fx}{o:Ops}{n:Nat}{st st':St}{A:Around}{T T' T'':Sm}{Q E:Value->Shared->Prop}{QU:Unit->Shared->Prop}{σ:List Cell}{u uv:Value}{v:V}{l:List V}{us:List Value}{j:Nat}{a:Addr}{fs:List (Str×V)}{m:Str}{P:Prop}
theorem InsAt.lib{dx:Addr}{es:List DictEntry}{k:Nat}(I:InsAt X T a dx fs es k):InstAt T.s.heap a (instObj X.C dx) X.C (some (dictOf es k)):=⟨I.obj,rfl,rfl,I.dict⟩
theorem OJ(i:Mid X σ T)(ha:T.M.ad[j]?=some a)(h:IL σ[j]?=some fs)(k:∀dx es k,T.M.gp[j]?=some [a,dx]->InsAt X T a dx fs es k->P):P:=by
 cases hc:σ[j]? with
 |none=>rw[hc] at h;exact nK h
 |some c=>
  rw[hc] at h
  cases c with
  |inst fs=>cases h;exact i.cell_k ha hc fun g hg q=>q.elim fun dx q=>q.elim fun es q=>q.elim fun n q=>k dx es n (q.1▸hg) q.2
  |_=>exact nK h
theorem ZC(Y:ClsG X K){expr:Bool}(i:Inv X F st T)(ha:T.M.ad[j]?=some a)(hc:IL st.store[j]?=some fs)(hf:X.G.flds.contains m=true)(hv:AG m fs=some v)(k:KR X F T Q (.val v,st)):WP X A (getAttr (.ref a) m expr) Q E T:=
 OJ i.mid ha hc fun dx es c _ I=>by
  obtain⟨e,q1,q3⟩:=I.rep.look hv
  have hl:lookIn m (dictOf es c)=some (some e.val):=by
   rw[lookIn_dict]
   unfold getL
   rw[q1]
  exact get_value (Y.inB.keeps i.mid.top) I.lib Y.ga (findObj_own Y.hd (Y.fld m (Da.mp hf)) rfl hl) (ZB q3) (k _ _ (.tok i _) (q3.mono (AE.tok i _).mono))
theorem ZD(Y:ClsG X K)(i:Inv X F st T)(ha:T.M.ad[j]?=some a)(hc:IL st.store[j]?=some fs)(hf:X.G.flds.contains m=true)(h8:fs.length < 8)(hv:AA X.I T v uv)(k:KU X F T QU (st.put j (.inst (AS m v fs)))):WP X A (setAttr (.ref a) m uv) QU E T:=
 OJ i.mid ha hc fun dx es c hgp I=>by
  have Xi:K.In T.s.heap:=Y.inB.keeps i.mid.top
  have ht:takerIn K X.C m=some none:=by unfold takerIn;rw[Y.fld m (Da.mp hf)];rfl
  refine set_plain Xi I.lib Y.sa (osa_open (s:={ T.s with toks:=T.s.toks+1 }) Xi I.lib Y.po ht fun b=>?_)
  obtain⟨cd,hcd,hd'⟩:=any_some Y.hd
  have Xj:Frag.In K ({ T.s with toks:=T.s.toks+1 }:Shared).heap:=Xi
  refine A6 (AM (A6 (A6 (wpAny_loadPart I.obj (A6 ((looks_clsIn Xj hcd).here ?_))))))
  rw[hd']
  refine AM (a:=some dx) (A6 (AM (A6 ?_)))
  unfold nsSet
  refine A6 (A6 (Gf (AM (A6 (wpAny_mkText (A6 (wpAny_loadPart I.dict ?_)))))))
  dsimp only [dictOf]
  rw[aRefKeyMayBeTheName_at,show(!es.toArray.any (·.key.isStr m)&&es.toArray.any (·.refKey))=false by have:=I.rep.norefs;simp [this]]
  refine wpAny_updatePart I.dict ?_
  have D':(T.s.heap.update dx (Obj.putName m (PyData.keyHash X.w.params m) (.str m (T.s.toks+1)) uv)).get? dx=some (dictOf (putL m (PyData.keyHash X.w.params m) (.str m (T.s.toks+1)) uv es) (putN m es c)):=by
   rw[<-putName_dict]
   exact Heap.get?_update_self _ I.dict (by rw[putName_dict];rfl)
  have rp:=I.rep.put (t:=T.s.toks+1) (x:=m) hv
  have hs8:(AS m v fs).length<=8:=A9 (Z9 fs) h8
  refine A6 (wpAny_lookBehind D' (pastItsLine_dict (by rw[Fb,rp.len];exact A9 hs8 (by decide))) (AM ?_))
  have hxd:a≠dx:=fun e=>by cases (e▸I.obj).symm.trans I.dict
  have hk:∀b o,b∉[a,dx]->T.s.heap.get? b=some o->(T.s.heap.update dx (Obj.putName m (PyData.keyHash X.w.params m) (.str m (T.s.toks+1)) uv)).get? b=some o:=fun b o hb e=>(Heap.get?_update_ne _ _ _ _ fun q:b=dx=>hb (by rw[q];exact Aj _ (DE dx))).trans e
  have o1':(T.s.heap.update dx (Obj.putName m (PyData.keyHash X.w.params m) (.str m (T.s.toks+1)) uv)).get? a=some (instObj X.C dx):=(Heap.get?_update_ne _ _ _ _ hxd).trans I.obj
  have mo:Mono T (T.hp (T.s.heap.update dx (Obj.putName m (PyData.keyHash X.w.params m) (.str m (T.s.toks+1)) uv)) (T.s.toks+1+1)):=⟨fun _ f=>f,fun b o f=>hk b o fun q=>i.mid.fw b f (Mm.W_of hgp q),Bw _⟩
  exact k _ (AE.upd (c:=.inst (AS m v fs)) i hgp ha hk (fun b hb=>(Au.mp hb).elim (fun e=>by rw[e];exact⟨_,o1'⟩) fun hb=>by rw[Ar.mp hb];exact⟨_,D'⟩) ⟨dx,_,_,rfl,o1',D',rp.mono mo,(ZA I.nod).1,hs8⟩).s
end
open PySem PyProof.Rows PySem.Calls PySem.W
section
variable{I:Iota}{T:Sm}{b:Bool}{k:Int}{v:V}{u:Value}{es:List (Int×V)}
theorem BC.set(hv:AA I T v u):∀{kvs:List (Int×Value)},BC I T b es kvs->(kvs.map (·.1)).Nodup->BC I T b (BL k v es) (stored kvs (I.f b k) u):=by
 induction es with
 |nil=>intro kvs r _;cases r;exact⟨u,[],rfl,hv,rfl⟩
 |cons p es ih=>
  intro kvs r hn
  obtain⟨x,ws,rfl,r1,r2⟩:=r
  obtain⟨h1,h2⟩:=BZ.mp hn
  show BC I T b (if k=p.1 then(k,v)::es else p::BL k v es) _
  by_cases hk:k=p.1
  ·rw[A5 hk,<-hk]
   have hout:ws.map (fun kv=>if kv.1=I.f b k then(kv.1,u) else kv)=ws:=(List.map_congr_left fun q hq=>A3 fun e=>h1 (by rw[<-hk,<-e];exact BU.mpr ⟨q,hq,rfl⟩)).trans (List.map_id ws)
   have:stored ((I.f b k,x)::ws) (I.f b k) u=(I.f b k,u)::ws:=by
    unfold stored
    rw[List.any_cons,Ae rfl,Bool.true_or,A5 rfl,Dc,A5 rfl,hout]
   rw[this]
   exact⟨u,ws,rfl,hv,r2⟩
  ·rw[A3 hk]
   have hj:¬I.f b p.1=I.f b k:=fun e=>hk (Iota.inj e).symm
   have:stored ((I.f b p.1,x)::ws) (I.f b k) u=(I.f b p.1,x)::stored ws (I.f b k) u:=by
    unfold stored
    rw[List.any_cons,decide_eq_false hj,Bool.false_or,Dc,A3 hj]
    by_cases hc:ws.any (fun kv=>decide (kv.1=I.f b k))=true
    ·rw[A5 hc,A5 hc]
    ·rw[A3 hc,A3 hc];rfl
   rw[this]
   exact⟨x,_,rfl,r1,ih r2 h2⟩
theorem BC.del:∀{kvs:List (Int×Value)},BC I T b es kvs->(kvs.map (·.1)).Nodup->BC I T b (CK k es) (without kvs (I.f b k)):=by
 induction es with
 |nil=>intro kvs r _;cases r;exact rfl
 |cons p es ih=>
  intro kvs r hn
  obtain⟨x,ws,rfl,r1,r2⟩:=r
  obtain⟨h1,h2⟩:=BZ.mp hn
  show BC I T b (if k=p.1 then es else p::CK k es) _
  unfold without
  by_cases hk:k=p.1
  ·rw[A5 hk,<-hk,List.filter_cons_of_neg (p:=fun kv:Int×Value=>decide (kv.1≠I.f b k)) (mt DI fun h=>h rfl)]
   rw[show ws.filter (fun kv=>decide (kv.1≠I.f b k))=ws from without_of_not_mem ws _ (hk▸h1)]
   exact r2
  ·rw[A3 hk,List.filter_cons_of_pos (p:=fun kv:Int×Value=>decide (kv.1≠I.f b k)) (Ae fun e=>hk (Iota.inj e).symm)]
   exact⟨x,_,rfl,r1,ih r2 h2⟩
end
theorem OK{α:Type}{k:Int}{v:α}(l:List (Int×α)):(BL k v l).length<=l.length+1:=by
 induction l with
 |nil=>exact Am _
 |cons p l ih=>
  show(if k=p.1 then(k,v)::l else p::BL k v l).length<=_
  by_cases h:k=p.1
  ·rw[A5 h];exact Cb _
  ·rw[A3 h];exact DH ih
theorem SK{α:Type}{k:Int}(l:List (Int×α)):(CK k l).length<=l.length:=by
 induction l with
 |nil=>exact Am _
 |cons p l ih=>
  show(if k=p.1 then l else p::CK k l).length<=_
  by_cases h:k=p.1
  ·rw[A5 h];exact Cb _
  ·rw[A3 h];exact DH ih
theorem SL{α:Type}{k:Int}{l:List (Int×α)}(h:AP k l=.none):CK k l=l:=by
 induction l with
 |nil=>rfl
 |cons p l ih=>
  have h:(if k=p.1 then some p.2 else AP k l)=.none:=h
  by_cases e:k=p.1
  ·rw[A5 e] at h;cases h
  ·rw[A3 e] at h
   show(if k=p.1 then l else p::CK k l)=_
   rw[A3 e,ih h]
section
variable{X:Cx}{F:Fx}{o:Ops}{n:Nat}{st st':St}{A:Around}{T T' T'':Sm}{Q E:Value->Shared->Prop}{QU:Unit->Shared->Prop}{σ:List Cell}{u uv:Value}{v:V}{l:List V}{us us':List Value}{j c tk:Nat}{a:Addr}{m:Str}{P:Prop}{b:Bool}{es es':List (Int×V)}{kvs kvs':List (Int×Value)}{p:R×List Cell}
structure LstAt(X:Cx)(T:Sm)(j:Nat)(a:Addr)(l:List V)(us:List Value)(c:Nat):Prop where
 ad:T.M.ad[j]?=some a
 gp:T.M.gp[j]?=some [a]
 obj:T.s.heap.get? a=some (seqObj "list" (List.toArray us) c)
 rep:A7 (AA X.I T) l us
 len:l.length<=lim
theorem MF(i:Mid X σ T)(ha:T.M.ad[j]?=some a)(h:σ[j]?=some (.lst l))(k:∀us c,LstAt X T j a l us c->P):P:=i.cell_k ha h fun g hg q=>q.2.elim fun us w=>w.1.elim fun c o=>k us c ⟨ha,q.1▸hg,o,w.2.1,w.2.2⟩
theorem LstAt.lim(L:LstAt X T j a l us c):us.toArray.size<=sizeLine:=L.rep.lim L.len
theorem OL(i:Mid X σ T)(ha:T.M.ad[j]?=some a)(h:σ[j]?=some (.dct b es))(k:∀kvs,DctAt X T j a b es kvs->T.M.gp[j]?=some [a]->P):P:=i.cell_k ha h fun g hg q=>q.2.elim fun kvs w=>k kvs ⟨ha,.inl (q.1▸hg),w.1,w.2.1,w.2.2⟩ (q.1▸hg)
theorem DctAt.nod(D:DctAt X T j a b es kvs):(kvs.map (·.1)).Nodup:=D.obj.elim fun _ q=>q.elim fun _ q=>q.elim fun _ q=>q.2.2.2.2.2
theorem IS(i:Inv X F st T)(L:LstAt X T j a l us c)(f:Array Value->Array Value)(hf:f us.toArray=us'.toArray){l':List V}(hr:A7 (AA X.I T) l' us')(hl:l'.length<=lim):AE X F T (st.put j (.lst l')) (T.hp (T.s.heap.update a (Obj.mapSeq f)) tk):=by
 have q:=PySem.IsL.update (h:=T.s.heap) (l:=a) (items:=us.toArray) (n:=c) L.obj f
 rw[hf] at q
 have hk:∀b o,b∉[a]->T.s.heap.get? b=some o->(T.s.heap.update a (Obj.mapSeq f)).get? b=some o:=fun b o hb e=>(Heap.get?_update_ne _ _ _ _ fun z:b=a=>hb (by rw[z];exact DE a)).trans e
 have mo:Mono T (T.hp (T.s.heap.update a (Obj.mapSeq f)) tk):=⟨fun _ f=>f,fun b o f=>hk b o fun z=>i.mid.fw b f (Mm.W_of L.gp z),Bw _⟩
 exact AE.upd (c:=.lst l') i L.gp L.ad hk (fun b hb=>by rw[Ar.mp hb];exact⟨_,q⟩) ⟨rfl,us',⟨_,q⟩,hr.mono mo,hl⟩
theorem OM{h:Heap}(i:Inv X F st T)(D:DctAt X T j a b es kvs)(hg:T.M.gp[j]?=some [a])(hD:h.DictOf (intKind X.prog X.w) a kvs')(hsb:Heap.SameBut a T.s.heap h){b':Bool}(hr:BC X.I T b' es' kvs')(hl:es'.length<=lim):AE X F T (st.put j (.dct b' es')) (T.hp h tk):=by
 have hk:∀b o,b∉[a]->T.s.heap.get? b=some o->h.get? b=some o:=fun b o hb e=>(hsb.2 b fun z=>hb (by rw[z];exact DE a)).trans e
 have mo:Mono T (T.hp h tk):=⟨fun _ f=>f,fun b o f=>hk b o fun z=>i.mid.fw b f (Mm.W_of hg z),Bw _⟩
 exact AE.upd (c:=.dct b' es') i hg D.ad hk (fun b hb=>by rw[Ar.mp hb];exact hD.imp fun o q=>q.elim fun _ q=>q.elim fun _ q=>q.1) ⟨rfl,kvs',hD,hr.mono mo,hl⟩
theorem SM{j:Int}(h0:0<=j)(h:j < 2 ^ 62):Builtin.List.listFitsIndex j=true:=fitsIndex_of h0 (Int.lt_trans h (by decide))
structure MethAt(X:Cx)(A:Around)(Q E:Value->Shared->Prop)(T:Sm)(ty:String)(m:Str)(u:Value)(us:List Value)(id:String):Prop where
 slot:Slot ty m id
 desc:typeOf (.builtin id)=pure (.type "method_descriptor")
 wp:WP X A (call (.builtin id) (u::us)) Q E T
theorem ZE(i:Inv X F st T)(L:LstAt X T j a l us c)(hv:AA X.I T v u)(he:Qt st.store j l v=some p)(k:KR X F T Q (p.1,st.sto p.2)):WP X A (call (.builtin "list.append") [.ref a,u]) Q E T:=
 pK he fun hl he=>by
  have k:=sQ (C:=fun p:R×List Cell=>KR X F T Q (p.1,st.sto p.2)) he k
  have x:=IS (tk:=T.s.toks) i L (us':=us++[u]) (fun xs=>xs.push u) (List.push_toArray _ _) (L.rep.append (.one hv)) (by rw[AC];exact hl)
  exact call_meets PySem.F.slot_list_append ⟨_,L.obj,rfl⟩ PySem.F.entry_list_append (PySem.F.args_list_append_2 _ _) (PySem.list_append a us.toArray c u L.lim) ⟨L.obj,k _ _ x rfl⟩
theorem ZF(us:List Value)(u:Value){i:Int}(h0:0<=i):(have k:=if i < 0 then(i+(us.toArray.size:Int)).toNat else min i.toNat us.toArray.size;(us.toArray.extract 0 k).push u++us.toArray.extract k)=(us.take (min i.toNat us.length)++u::us.drop (min i.toNat us.length)).toArray:=by
 rw[A3 (E1.mpr h0)]
 apply Array.toList_inj.mp
 simp
 rw[List.take_of_length_le (by simp)]
theorem ZG{q:V×V}(i:Inv X F st T)(L:LstAt X T j a l us c)(hi:AA X.I T q.1 u)(hv:AA X.I T q.2 uv)(he:Qu st.store j l q=some p)(k:KR X F T Q (p.1,st.sto p.2)):WP X A (call (.builtin "list.insert") [.ref a,u,uv]) Q E T:=
 bK he fun x hx he=>iK he fun hok he=>bK hx fun z hz hx=>JI (P:=fun v=>AA X.I T v u->WP X A (call (.builtin "list.insert") [.ref a,u,uv]) Q E T) hz (fun hi=>AR.num_k (P:=fun u=>WP X A (call (.builtin "list.insert") [.ref a,u,uv]) Q E T) hi fun t=>Gq (P:=fun z=>WP X A (call (.builtin "list.insert") [.ref a,.int (X.I.f z.1 z.2) t,uv]) Q E T) hx (Ad hok fun hok hl=>Ad hok fun h0 hs=>by
  have h0:=BP h0
  have hl:=BP hl
  have k:=sQ (C:=fun p:R×List Cell=>KR X F T Q (p.1,st.sto p.2)) he k
  have hfit:¬(!Builtin.List.listFitsIndex x)=true:=by
   rw[SM h0 (Int.lt_of_le_of_lt (Int.natAbs_of_nonneg h0▸FZ.mpr (BP hs)) (by decide))];intro h;cases h
  have x1:=IS (tk:=T.s.toks) i L (us':=us.take (min x.toNat us.length)++uv::us.drop (min x.toNat us.length)) (fun xs=>have k:=if x < 0 then(x+(xs.size:Int)).toNat else min x.toNat xs.size;(xs.extract 0 k).push uv++xs.extract k) (ZF us uv h0) (l':=IK l (min x.toNat l.length) q.2)
   (by rw[IK,<-L.rep.length];exact(L.rep.take _).append (.cons hv (L.rep.drop _)))
   (by rw[IK,AC,DD,<-Dd,<-AC,List.take_append_drop];exact hl)
  exact call_meets PySem.F.slot_list_insert ⟨_,L.obj,rfl⟩ PySem.F.entry_list_insert (PySem.F.args_list_insert_3 _ _ _) (PySem.AutoSeq1.list_insert_list_int_val_1 a us.toArray c x t uv hfit L.lim) ⟨L.obj,k _ _ x1 rfl⟩)) hi
theorem ZH(i:Inv X F st T)(L:LstAt X T j a l us c)(hv:AA X.I T v u)(he:Qv st.store j l v=some p)(k:KR X F T Q (p.1,st.sto p.2)):WP X A (call (.builtin "list.extend") [.ref a,u]) Q E T:=
 bK he fun d hd he=>bK he fun e hl he=>iK he fun hok he=>Nx (P:=fun v=>AA X.I T v u->WP X A (call (.builtin "list.extend") [.ref a,u]) Q E T) hd (fun hv=>AA.loc_k (I:=X.I) (P:=fun u=>WP X A (call (.builtin "list.extend") [.ref a,u]) Q E T) hv fun b hb=>O0 i.mid hb hl fun us₁ ⟨c₁,o₁⟩ r₁ z₁=>Ad hok fun _ hz=>by
  have k:=sQ (C:=fun p:R×List Cell=>KR X F T Q (p.1,st.sto p.2)) he k
  have hz':(l++e).length<=lim:=by rw[AC];exact BP hz
  have x:=IS (tk:=T.s.toks) i L (us':=us++us₁) (fun xs=>xs++us₁.toArray) (List.append_toArray _ _) (L.rep.append r₁) hz'
  refine call_meets PySem.F.slot_list_extend ⟨_,L.obj,rfl⟩ PySem.F.entry_list_extend (PySem.F.args_list_extend_2 _ _) (PySem.AutoSeq1.list_extend_list_list_0 a us.toArray c b us₁.toArray c₁ ?_ L.lim (by rw[<-Array.size_append,List.append_toArray];exact Eh ((L.rep.append r₁).lim hz'))) ⟨L.obj,o₁,k _ _ x rfl⟩
  have h2:(us.length+us₁.length:Nat)<=lim:=by rw[<-AC,(L.rep.append r₁).length];exact hz'
  have:=JM
  simp only [Fb,Bool.and_eq_true,not_and,Builtin.List.listTooLong]
  intro _
  simp only [decide_eq_true_eq]
  first |exact C2.mpr (A9 h2 JM) |omega) hv
theorem ON{us:List Value}{i:Nat}(h:i < us.length):us.toArray.eraseIdxIfInBounds i=(us.eraseIdx i).toArray:=by
 apply Array.toList_inj.mp
 simp [Array.eraseIdxIfInBounds,h]
theorem ZI(i:Inv X F st T)(L:LstAt X T j a l us c)(he:Qw st.store j l=some p)(k:KR X F T Q (p.1,st.sto p.2)):WP X A (call (.builtin "list.pop") [.ref a]) Q E T:=
 mQ (C:=fun p:R×List Cell=>KR X F T Q (p.1,st.sto p.2)) he k fun y hy k=>by
  have hy':l[l.length - 1]?=some y:=List.getLast?_eq_getElem?▸hy
  have hlt:=(FC.mp hy').1
  obtain⟨uy,e1,q1⟩:=L.rep.get hy'
  have hlen:=L.rep.length
  rw[<-hlen] at e1 hlt
  have x:=IS (tk:=T.s.toks) i L (us':=us.eraseIdx (us.length - 1)) (fun xs=>xs.eraseIdxIfInBounds (us.toArray.size - 1)) (ON hlt) (l':=l.dropLast) (by rw[<-List.eraseIdx_length_sub_one,<-hlen];exact L.rep.erase _) (A9 (List.length_dropLast▸Nat.sub_le _ _) L.len)
  exact call_meets PySem.F.slot_list_pop ⟨_,L.obj,rfl⟩ PySem.F.entry_list_pop (PySem.F.args_list_pop_1 _) (PySem.MeetsSeq.list_pop_last a us.toArray c uy (List.getElem?_toArray.trans e1) L.lim) ⟨L.obj,k _ _ x (q1.mono x.mono)⟩
theorem ZJ(i:Inv X F st T)(L:LstAt X T j a l us c)(hi:AA X.I T v u)(he:Qx st.store j l v=some p)(k:KR X F T Q (p.1,st.sto p.2)):WP X A (call (.builtin "list.pop") [.ref a,u]) Q E T:=
 bK he fun x hx he=>pK he fun h0 he=>bK hx fun z hz hx=>JI (P:=fun v=>AA X.I T v u->WP X A (call (.builtin "list.pop") [.ref a,u]) Q E T) hz (fun hi=>AR.num_k (P:=fun u=>WP X A (call (.builtin "list.pop") [.ref a,u]) Q E T) hi fun t=>Gq (P:=fun z=>WP X A (call (.builtin "list.pop") [.ref a,.int (X.I.f z.1 z.2) t]) Q E T) hx (by
  cases h0
  cases l with
  |nil=>exact nK he
  |cons y l=>
   have k:=sQ (C:=fun p:R×List Cell=>KR X F T Q (p.1,st.sto p.2)) he k
   obtain⟨uy,us₁,rfl,q1,r1⟩:=L.rep
   have x:=IS (tk:=T.s.toks) i L (us':=us₁) (fun xs=>xs.eraseIdxIfInBounds 0) (ON (us:=uy::us₁) (CC _)) r1 (Nat.le_of_succ_le L.len)
   exact call_meets PySem.F.slot_list_pop ⟨_,L.obj,rfl⟩ PySem.F.entry_list_pop (PySem.F.args_list_pop_2 _ _) (PySem.MeetsSeq.list_pop_at a (uy::us₁).toArray c 0 t 0 uy (by decide) (by simp [seqIndex?]) rfl L.lim) ⟨L.obj,k _ _ x (q1.mono x.mono)⟩)) hi
theorem ZK{as:List V}(i:Inv X F st T)(L:LstAt X T j a l us c)(ha:A7 (AA X.I T) as us')(he:JA st.store j l m as=some p)(k:KR X F T Q (p.1,st.sto p.2))(f:∀id,MethAt X A Q E T "list" m (.ref a) us' id->P):P:=
 eK he (fun hm he=>bK he fun v hv he=>f "list.append" ⟨hm▸PySem.F.slot_list_append,PySem.F.type_list_append,Ep (C:=fun as=>A7 (AA X.I T) as us'->WP X A (call (.builtin "list.append") (.ref a::us')) Q E T) hv (fun ha=>ha.k1 (C:=fun us'=>WP X A (call (.builtin "list.append") (.ref a::us')) Q E T) fun u hu=>ZE i L hu he k) ha⟩) fun he=>
 eK he (fun hm he=>bK he fun v hv he=>f "list.insert" ⟨hm▸PySem.F.slot_list_insert,PySem.F.type_list_insert,IN (C:=fun as=>A7 (AA X.I T) as us'->WP X A (call (.builtin "list.insert") (.ref a::us')) Q E T) hv (fun ha=>ha.k2 (C:=fun us'=>WP X A (call (.builtin "list.insert") (.ref a::us')) Q E T) fun u w hu hw=>ZG i L hu hw he k) ha⟩) fun he=>
 eK he (fun hm he=>bK he fun v hv he=>f "list.extend" ⟨hm▸PySem.F.slot_list_extend,PySem.F.type_list_extend,Ep (C:=fun as=>A7 (AA X.I T) as us'->WP X A (call (.builtin "list.extend") (.ref a::us')) Q E T) hv (fun ha=>ha.k1 (C:=fun us'=>WP X A (call (.builtin "list.extend") (.ref a::us')) Q E T) fun u hu=>ZH i L hu he k) ha⟩) fun he=>
 eK he (fun hm he=>f "list.pop" ⟨hm▸PySem.F.slot_list_pop,PySem.F.type_list_pop,eK he (fun hn he=>Gs (C:=fun as=>A7 (AA X.I T) as us'->WP X A (call (.builtin "list.pop") (.ref a::us')) Q E T) hn (fun ha=>ha.k0 (C:=fun us'=>WP X A (call (.builtin "list.pop") (.ref a::us')) Q E T) (ZI i L he k)) ha) fun he=>bK he fun v hv he=>Ep (C:=fun as=>A7 (AA X.I T) as us'->WP X A (call (.builtin "list.pop") (.ref a::us')) Q E T) hv (fun ha=>ha.k1 (C:=fun us'=>WP X A (call (.builtin "list.pop") (.ref a::us')) Q E T) fun u hu=>ZJ i L hu he k) ha⟩) fun he=>nK he
theorem SN(HT:Top X)(i:Inv X F st T)(D:DctAt X T j a b es kvs)(hv:AA X.I T v u)(he:Nk st.store b es v=some p)(k:KR X F T Q (p.1,st.sto p.2)):WP X A (call (.builtin "dict.get") [.ref a,u]) Q E T:=
 bK he fun q hq he=>iK he fun ho he=>JI (P:=fun v=>AA X.I T v u->WP X A (call (.builtin "dict.get") [.ref a,u]) Q E T) hq (fun hv=>AR.num_k (P:=fun u=>WP X A (call (.builtin "dict.get") [.ref a,u]) Q E T) hv fun t=>by
  have k:=sQ (C:=fun p:R×List Cell=>KR X F T Q (p.1,st.sto p.2)) he k
  refine call_meetsIn PySem.F.slot_dict_get D.obj.typeIs PySem.F.entry_dict_get (PySem.F.args_dict_get_2 _ _) (meets_dict_get (knd:=intKind X.prog X.w) (d:=a) (intKind_is X.prog X.w _ t) (D.nosys HT i.mid)) ⟨_,D.obj.mapOf,k _ _ (.tok i _) ?_⟩
  cases hl:AP q.2 es with
  |some v=>exact D.rep.some_k ho hl fun u e r=>by rw[e];exact r.mono (AE.tok i _).mono
  |none=>rw[((D.rep.cls ho).look q.2).2 hl];exact rfl) hv
theorem ZL{q:V×V}(HT:Top X)(i:Inv X F st T)(hc:st.store[j]?=some (.dct b es))(D:DctAt X T j a b es kvs)(hg:T.M.gp[j]?=some [a])(hv:AA X.I T q.1 u)(hn:AA X.I T q.2 uv)(he:Qy st.store j b es q=some p)(k:KR X F T Q (p.1,st.sto p.2)):WP X A (call (.builtin "dict.pop") [.ref a,u,uv]) Q E T:=
 bK he fun x hx he=>iK he fun ho he=>Ad ho fun ho hno=>JI (P:=fun v=>AA X.I T v u->WP X A (call (.builtin "dict.pop") [.ref a,u,uv]) Q E T) hx (fun hv=>AR.num_k (P:=fun u=>WP X A (call (.builtin "dict.pop") [.ref a,u,uv]) Q E T) hv fun t=>by
  have hu:uv=.none:=by
   revert hn hno
   cases q.2 with
   |d y=>cases y <;> first |exact fun h _=>h |(intro _ h;cases h)
   |_=>intro _ h;cases h
  cases hu
  have k:=sQ (C:=fun p:R×List Cell=>KR X F T Q (p.1,st.sto p.2)) he k
  have r:=D.rep.cls ho
  have hargs:argsOk "dict.pop" ⟨.ref a::.int (X.I.f x.1 x.2) t::[.none],[]⟩:=PySem.F.args_dict_pop_3 _ _ _
  cases hl:AP x.2 es with
  |some v=>
   refine D.rep.some_k ho hl fun xv e1 q=>call_meetsIn PySem.F.slot_dict_pop D.obj.typeIs PySem.F.entry_dict_pop hargs (meets_dict_pop_there (intKind X.prog X.w) a (intKind_is X.prog X.w _ t) [.none] (.inr ⟨_,rfl⟩) rfl) ⟨kvs,xv,D.obj,r.lim D.len,e1,fun h' hm' hs'=>?_⟩
   have x1:=OM (tk:=T.s.toks+1) i D hg hm' hs' (BC.del (k:=x.2) r D.nod) (A9 (SK es) D.len)
   exact k _ _ x1 (by rw[hl];exact q.mono x1.mono)
  |none=>
   refine call_meetsIn PySem.F.slot_dict_pop D.obj.typeIs PySem.F.entry_dict_pop hargs (meets_dict_pop_default (intKind X.prog X.w) a (intKind_is X.prog X.w _ t) (D.nosys HT i.mid) rfl .none) ⟨kvs,D.obj,(r.look x.2).2 hl,?_⟩
   have m1:Mid X (st.store.set j (.dct x.1 (CK x.2 es))) T:=by
    have:=i.mid.upd (h:=T.s.heap) (tk:=T.s.toks) (c:=.dct x.1 (CK x.2 es)) hg D.ad (fun _ _ _ e=>e) ⟨rfl,kvs,D.obj,by rw[SL hl];exact r,by rw[SL hl];exact D.len⟩
    exact this
   have i1:Inv X F (st.put j (.dct x.1 (CK x.2 es))) T:=⟨m1,i.ffa,i.frm⟩
   have a1:=AE.tok i1 (T.s.toks+1)
   exact k _ _ ⟨a1.ext,a1.mono,a1.inv⟩ (by rw[hl];exact rfl)) hv
theorem ZM{as:List V}(HT:Top X)(i:Inv X F st T)(hc:st.store[j]?=some (.dct b es))(D:DctAt X T j a b es kvs)(hg:T.M.gp[j]?=some [a])(ha:A7 (AA X.I T) as us')(he:Lq st.store j b es m as=some p)(k:KR X F T Q (p.1,st.sto p.2))(f:∀id,MethAt X A Q E T "dict" m (.ref a) us' id->P):P:=
 eK he (fun hm he=>bK he fun v hv he=>f "dict.get" ⟨hm▸PySem.F.slot_dict_get,PySem.F.type_dict_get,Ep (C:=fun as=>A7 (AA X.I T) as us'->WP X A (call (.builtin "dict.get") (.ref a::us')) Q E T) hv (fun ha=>ha.k1 (C:=fun us'=>WP X A (call (.builtin "dict.get") (.ref a::us')) Q E T) fun u hu=>SN HT i D hu he k) ha⟩) fun he=>
 eK he (fun hm he=>bK he fun v hv he=>f "dict.pop" ⟨hm▸PySem.F.slot_dict_pop,PySem.F.type_dict_pop,IN (C:=fun as=>A7 (AA X.I T) as us'->WP X A (call (.builtin "dict.pop") (.ref a::us')) Q E T) hv (fun ha=>ha.k2 (C:=fun us'=>WP X A (call (.builtin "dict.pop") (.ref a::us')) Q E T) fun u w hu hw=>ZL HT i hc D hg hu hw he k) ha⟩) fun he=>nK he
end
open PySem PyProof.Rows PySem.Calls PySem.W
section
variable{X:Cx}{K:Frag}{F:Fx}{o:Ops}{n:Nat}{st st':St}{A:Around}{T T' T'':Sm}{Q E:Value->Shared->Prop}{QU:Unit->Shared->Prop}{σ:List Cell}{u uv:Value}{v:V}{l:List V}{us us':List Value}{j c tk:Nat}{a:Addr}{m:Str}{P:Prop}{b:Bool}{es es':List (Int×V)}{kvs kvs':List (Int×Value)}{e:Expr}{t:Tok}{q:Bool×Int}
theorem ZN{i₀:Int}(i:Inv X F st T)(L:LstAt X T j a l us c)(h0:0<=i₀)(hlt:i₀.toNat < l.length)(hv:AA X.I T v uv)(k:KU X F T QU (st.put j (.lst (l.set i₀.toNat v)))):WP X A (PySem.setItem (.ref a) (.int i₀ t) uv) QU E T:=by
 have hT:T.s.TypeIs (.ref a) "list":=⟨_,L.obj,rfl⟩
 have hfit:Builtin.List.listFitsIndex i₀=true:=SM h0 (Int.lt_trans ((Int.toNat_lt h0).mp (C1 hlt L.len)) (by decide))
 unfold WP PySem.setItem
 try with_reducible refine DJ ?_
 refine A6 (wpAny_sequenceKey hT (by decide) ?_)
 refine A6 (wpAny_callSpecial?_slot (name:=Str.ofString "__setitem__") hT slot_list_setitem (wpAny_call_entry slot_list_setitem hT entry_list_setitem ?_ (args_list_setitem _ _ _)))
 show wpAny _ _ (Builtin.List.listSubscript? (.int i₀ t) >>= _) _ _ T.s
 refine A6 (wpAny_listSubscript_int hfit ?_)
 clear hfit
 obtain⟨d,rfl⟩:=Int.eq_ofNat_of_zero_le h0
 have x:=IS (tk:=T.s.toks) i L (us':=us.set d uv) (fun xs=>xs.setIfInBounds d uv) (by simp) (L.rep.set hv d) (by rw[List.length_set];exact L.len)
 have hj:d < us.length:=L.rep.length▸hlt
 show wpAny _ _ ((seqItemAt a d >>= fun r=>pure (r.map (d,·))) >>= _) _ _ T.s
 refine A6 (A6 (wpAny_seqItemAt L.obj rfl (AM ?_)))
 rw[show us.toArray[d]?=some us[d] from List.getElem?_toArray.trans (D3 hj)]
 show wpAny _ _ (setSeqItemAt a d uv >>= _) _ _ T.s
 refine A6 (wpAny_setSeqItemAt L.obj rfl ?_)
 first
  |exact A6 (AM (AM ⟨.none,rfl,AM (k _ x.s)⟩))
  |exact AM ⟨.none,rfl,AM (k _ x.s)⟩
theorem ZO(HT:Top X)(i:Inv X F st T)(ha:T.M.ad[j]?=some a)(hv:AA X.I T v uv)(he:Nr st.store j q v st.store[j]?=some σ)(k:KU X F T QU (st.sto σ)):WP X A (PySem.setItem (.ref a) (.int (X.I.f q.1 q.2) t) uv) QU E T:=by
 cases hc:st.store[j]? with
 |none=>rw[hc] at he;exact nK he
 |some d=>
  rw[hc] at he
  cases d with
  |lst l=>exact bK he fun x hx he=>iK he fun ho he=>Gq (P:=fun q=>WP X A (PySem.setItem (.ref a) (.int (X.I.f q.1 q.2) t) uv) QU E T) hx (Ad ho fun h0 h1=>MF i.mid ha hc fun us c L=>ZN i L (BP h0) (BP h1) hv (sQ (C:=fun σ=>KU X F T QU (st.sto σ)) he k))
  |dct b es=>exact iK he fun ho he=>Ad ho fun ho hz=>OL i.mid ha hc fun kvs D hg=>wpAny_setItem_pairs (intKind_is X.prog X.w _ t) D.obj (fun h' hm' hs'=>sQ (C:=fun σ=>KU X F T QU (st.sto σ)) he k _ (OM (tk:=T.s.toks+1) i D hg hm' hs' (BC.set (k:=q.2) hv (D.rep.cls ho) D.nod) (A9 (OK es) (BP hz))).s) (by have:=BP hz;rw[D.rep.length];exact A9 (BH this) JM)
  |_=>exact nK he
theorem ZP(HT:Top X)(i:Inv X F st T)(ha:T.M.ad[j]?=some a)(he:Lw st.store j q st.store[j]?=some σ)(k:KU X F T QU (st.sto σ)):WP X A (PySem.delItem (.ref a) (.int (X.I.f q.1 q.2) t)) QU E T:=by
 cases hc:st.store[j]? with
 |none=>rw[hc] at he;exact nK he
 |some d=>
  rw[hc] at he
  cases d with
  |lst l=>
   refine bK he fun x hx he=>mQ (C:=fun σ=>KU X F T QU (st.sto σ)) he k fun y hy k=>Gq (P:=fun q=>WP X A (PySem.delItem (.ref a) (.int (X.I.f q.1 q.2) t)) QU E T) hx (MF i.mid ha hc fun us c L=>?_)
   have hlt:y < us.length:=by
    rw[L.rep.length]
    exact Kn hy (fun h0 h1 e=>e▸(Int.toNat_lt h0).mpr h1) fun h0 h1 e=>by omega
   have x1:=IS (tk:=T.s.toks) i L (us':=us.eraseIdx y) (fun xs=>xs.eraseIdxIfInBounds y) (ON hlt) (L.rep.erase y) (A9 (List.length_eraseIdx_le l y) L.len)
   have hfit:Builtin.List.listFitsIndex x=true:=by
    have hk1:-(1000000:Int)<=x/\x < 1000000:=by
     have z:l.length<=1000000:=L.len
     exact Kn hy (fun h0 h1 _=>by omega) fun h0 h1 _=>by omega
    unfold Builtin.List.listFitsIndex
    simp
    omega
   exact P.delItem_list (n:=c) L.obj hfit (by rw[Fb,L.rep.length];exact hy) (k _ x1.s) L.lim
  |dct b es=>
   refine iK he fun ho he=>Ad ho fun ho hs=>OL i.mid ha hc fun kvs D hg=>?_
   unfold WP PySem.delItem
   try with_reducible refine DJ ?_
   refine A6 (wpAny_sequenceKey D.obj.typeIs (by decide) ?_)
   refine A6 (wpAny_callSpecial?_slot (name:=Str.ofString "__delitem__") D.obj.typeIs PySem.F.slot_dict_delitem
    (call_meetsIn PySem.F.slot_dict_delitem D.obj.typeIs PySem.F.entry_dict_delitem (PySem.F.args_dict_delitem_2 _ _) (meets_dict_delitem_pairs (intKind X.prog X.w) a (intKind_is X.prog X.w _ t)) ⟨kvs,D.obj,D.rep.lim D.len,by rw[D.rep.isSome ho];exact hs,fun h' hm' hs'=>?_⟩))
   exact AM (sQ (C:=fun σ=>KU X F T QU (st.sto σ)) he k _ (OM (tk:=T.s.toks+1) i D hg hm' hs' (BC.del (k:=q.2) (D.rep.cls ho) D.nod) (A9 (SK es) D.len)).s)
  |_=>exact nK he
theorem OO(H:Snd X o n){fn:Fn}{env:Env}{pos:Pos}{es:List Expr}:∀{st:St} {p:List V×St},DN o fn es st=some p->backTo pos (starEach es env)=es.map fun e=>(false,eval e env):=by
 induction es with
 |nil=>exact fun _=>rfl
 |cons e es ih=>exact fun he=>bK he fun q hq he=>mK (C:=fun _=>backTo pos (starEach (e::es) env)=(e::es).map fun e=>(false,eval e env)) he fun r hr=>by rw[bK hq fun _ h _=>GG H h,ih hr];rfl
theorem ZQ(es:List Expr)(env:Env):(es.map fun e=>(false,eval e env)).any (fun x=>x.1)=false:=by
 induction es with
 |nil=>rfl
 |cons e es ih=>exact ih
theorem MG(H:Snd X o n){pos:Pos}{f:Value}(hA:AO A n){es:List Expr}{p:List V×St}{QA:Args->Shared->Prop}(he:DN o F.fn es st=some p)(i:Inv X F st T)(k:JL X F T (fun us s=>QA ⟨us,[]⟩ s) p):WP X A (evalArgs f true (backTo pos (starEach es F.env)) []) QA E T:=by
 have hb:=OO (env:=F.env) H (pos:=pos) he
 cases es with
 |nil=>exact PyProof.Rows.evalArgs_none (sQ (C:=JL X F T (fun us s=>QA ⟨us,[]⟩ s)) he k [] T (.refl i) rfl)
 |cons e es=>
  have:=Ny (pos:=pos) (E:=E) H hA he i k
  unfold WP at this ⊢
  rw[hb] at this ⊢
  exact evalArgs_plain this
theorem SO(H:Snd X o n){fn:Fn}{env:Env}{pos:Pos}{es:List Expr}{p:List V×St}(he:DN o fn es st=some p):((backTo pos (starEach es env)).any (·.1)||([]:List (Option Str×Sem Value)).any (·.1.isNone))=false:=by
 rw[OO H he,ZQ]
 rfl
theorem SP{name:Str}{env:Env}{b:Expr}(h:Lr b=false):attributeBase b name env (eval b env)=eval b env:=by
 cases b with
 |Call f as ks pos=>
  cases f with
  |Name x p=>
   cases as with
   |nil=>
    cases ks with
    |nil=>exact Bool.noConfusion h
    |cons _ _=>rfl
   |cons _ _=>rfl
  |_=>rfl
 |_=>rfl
theorem SQ(H:Snd X o n){b:Expr}{apos pos:Pos}{as:List Expr}{p:List V×St}(hok:Dn b apos pos as.length=true)(hst:DN o F.fn as st'=some p)
 (h:WP X A (eval b F.env) (fun ov s₁=>∀pl,wpAny (model X.prog X.w) A (getMethod ov m pl) (fun fm s₂=>wpAny (model X.prog X.w) A (callWith pos fm.1 fm.2 (backTo pos (starEach as F.env)) []) Q E s₂) E s₁) E T):WP X A (eval (.Call (.Attribute b m apos) as [] pos) F.env) Q E T:=
 Ad hok fun hok hlen=>Ad hok fun hb hline=>by
  unfold WP
  rw[arm_eval_Call,SP (FY _ |>.mp hb)]
  refine A6 (Dg h (fun ov s₁ h₁=>A6 (G8 ?_)) fun _ _ e=>e)
  have hform:methodCallForm (as.length+([]:List Keyword).length) (backTo pos (starEach as F.env)) (backToKw pos (keywordEach [] F.env))=true:=by
   unfold methodCallForm
   rw[OO H hst]
   have h1:(as.map fun e=>(false,eval e F.env)).all (fun x=>!x.1)=true:=by simp
   rw[h1]
   exact Ae (show as.length+0+0 < 30 from AN (BP hlen) (by decide))
  have hpos:methodCallPos true b F.env apos pos=pure pos:=by unfold methodCallPos;simp [hline]
  unfold methodCall calleeOf
  rw[hform]
  refine A6 (DJ (Dg (h₁ _) (fun fm s₂ h₂=>?_) fun _ _ e=>e))
  obtain⟨f,first⟩:=fm
  exact A6 (wpAny_of_eq hpos h₂)
theorem SR{pos:Pos}{id:String}{self:Value}{args:List (Bool×Sem Value)}{s:Shared}(hp:(args.any (·.1)||([]:List (Option Str×Sem Value)).any (·.1.isNone))=false)
 (h:wpAny (model X.prog X.w) A (evalArgs (.builtin id) true args []) (fun a s₁=>wpAny (model X.prog X.w) A (call (.builtin id) (self::a.pos) a.kw) Q E s₁) E s):wpAny (model X.prog X.w) A (callWith pos (.builtin id) [self] args []) Q E s:=
 callWith_of (P:=fun _=>True) hp (fun h _=>⟨.machine,.inr (.inl rfl),Looks.now⟩) (Dg h (fun a s₁ h₁=>⟨trivial,h₁⟩) fun _ _ e=>e)
theorem Inv.ofC(i:Inv X F st T)(x:AftC X T σ T'):AE X F T (st.sto σ) T':=
 have m:Mono T T':=x.ext.mono i.mid.fw
 ⟨x.ext,m,x.mid,fun a f=>⟨fun q=>(x.ext.fnew a q).elim (i.ffa a f).1 fun q=>q.elim (i.ffa a f).2 fun q=>q (i.faal f),fun q=>(x.ext.wnew a q).elim (i.ffa a f).2 fun q=>q (i.faal f)⟩,i.frm.mono m fun b o f e=>x.ext.keep b o e (i.ffa b f).2⟩
theorem RC.rr{r:R}(i:Inv X F st T)(h:RC X T T' r u):RR X F T T' r u:=by
 cases r with
 |val v=>exact h
 |fresh l=>exact h.imp fun b q=>q.imp fun us q=>⟨q.1,q.2.new,q.2.nf,fun z=>z.elim q.2.nw fun z=>q.2.new (i.faal z),q.2.obj,q.2.rep,q.2.len⟩
theorem ZR{y:D×List Cell}(i:Inv X F st T)(hv:AA X.I T v u)(h:Qs v st.store=some y)(k:∀T',T'.s=T.s->AE X F T (st.sto y.2) T'->AR X.I T' y.1 u->P):P:=
 oK h (fun d hd h=>Nx (P:=fun v=>AA X.I T v u->P) hd (fun hv=>bK h fun p hp h=>mQ (C:=fun y:D×List Cell=>∀T',T'.s=T.s->AE X F T (st.sto y.2) T'->AR X.I T' y.1 u->P) h k fun ds hds k=>AA.loc_k (I:=X.I) (P:=fun u=>(∀T',T'.s=T.s->AE X F T (st.sto p.2) T'->AR X.I T' (.lst ds) u->P)->P) hv (fun a ha k=>S5 (.refl i) ha hp fun T' us e x f o r z=>Gp (P:=fun l=>A7 (AA X.I T') l us->l.length<=lim->P) hds (fun r z=>k T' e x ⟨a,us,rfl,f,o,A4 (as:=ds) V.d▸z,Go.mpr ((A7.map (f:=V.d) (P:=AA X.I T')).mp r)⟩) r z) k) hv)
  fun _ h=>mQ (C:=fun y:D×List Cell=>∀T',T'.s=T.s->AE X F T (st.sto y.2) T'->AR X.I T' y.1 u->P) h k fun x hx k=>JF (P:=fun v=>AA X.I T v u->P) hx (k T rfl (.refl i)) hv
theorem ZS{vs:List V}:∀{st:St} {T:Sm} {us:List Value} {y:List V×List Cell},Inv X F st T->A7 (AA X.I T) vs us->Ln vs st.store=some y->(∀T' ds,T'.s=T.s->AE X F T (st.sto y.2) T'->y.1=ds.map .d->A7 (AR X.I T') ds us->P)->P:=by
 induction vs with
 |nil=>intro st T us y i r e k;cases r;cases e;exact k T [] rfl (.refl i) rfl rfl
 |cons v vs ih=>
  intro st T us y i r e k
  obtain⟨u,ws,rfl,r1,r2⟩:=r
  exact bK e fun q hq e=>mQ (C:=fun y:List V×List Cell=>∀T' ds,T'.s=T.s->AE X F T (st.sto y.2) T'->y.1=ds.map .d->A7 (AR X.I T') ds (u::ws)->P) e k fun p hp k=>ZR i r1 hq fun T₁ e₁ a₁ d₁=>ih (st:=st.sto q.2) a₁.inv (r2.mono a₁.mono) hp fun T₂ ds e₂ a₂ hd r₂=>k T₂ (q.1::ds) (e₂.trans e₁) (a₁.trans a₂) (A2 (V.d q.1::·) hd) (.cons (d₁.mono a₂.mono) r₂)
theorem SS(H:Snd X o n){f:Fn}{fa:Addr}{fo:Obj}{fd:FuncData}{vs:List V}{p:R×St}(hA:AO A n)(he:Lo o f vs st=some p)(hf:FnAt X.hB fa f fo fd)(i:Inv X F st T)(hr:A7 (AA X.I T) vs us)(k:KR X F T Q p):WP X A (call (.ref fa) us) Q E T:=
 cK he (fun _ he=>mQ he k fun q hq k=>wpAny_call (H.call hA hq (hf.keeps i.mid.top) i.mid hr fun u T' a rc=>k u T' (i.ofC a) (rc.rr i))) fun _ he=>bK he fun q hq he=>bK he fun q' hc he=>iK he fun hem he=>ZS i hr hq fun T₁ ds e₁ a₁ hd r₁=>by
  have i₁:=a₁.inv
  have k:=sQ he k
  rw[hd] at hc
  have mc:Mid X [] (T₁.mm ⟨T₁.M.F,[],[]⟩):=⟨i₁.mid.top,i₁.mid.base,i₁.mid.fal,fun a _ h=>Eo h,rfl,rfl,Ca,fun _ _ h=>by cases h⟩
  have r₂:A7 (AA X.I (T₁.mm ⟨T₁.M.F,[],[]⟩)) (ds.map .d) us:=A7.map.mpr (r₁.imp fun d u h=>AR.monoF (T:=T₁) (T':=T₁.mm ⟨T₁.M.F,[],[]⟩) ⟨fun _ f=>f,fun _ _ _ e=>e⟩ h)
  have w:WP X A (call (.ref fa) us) Q E (T₁.mm ⟨T₁.M.F,[],[]⟩):=wpAny_call (H.call hA hc (hf.keeps i₁.mid.top) mc r₂ fun u T' a rc=>?_)
  ·unfold WP at w ⊢
   rw[<-e₁]
   exact w
  ·have keep:∀b ob,T₁.s.heap.get? b=some ob->T'.s.heap.get? b=some ob:=fun b ob e=>a.ext.keep b ob e fun h=>Eo h
   have fnew:∀b,T'.M.F b->T₁.M.F b\/¬Al T₁.s.heap b:=fun b q=>(a.ext.fnew b q).imp_right fun q=>q.elim (fun h=>Eo h) id
   have mo:Mono T₁ (T'.mm ⟨fun b=>T₁.M.F b\/T'.M.F b,T₁.M.ad,T₁.M.gp⟩):=⟨fun b q=>.inl q,fun b ob _ e=>keep b ob e,Bw _⟩
   have a₂:AftC X T₁ q.2 (T'.mm ⟨fun b=>T₁.M.F b\/T'.M.F b,T₁.M.ad,T₁.M.gp⟩):=
    ⟨⟨a.ext.sh,fun b ob e _=>keep b ob e,a.ext.al,fun b q=>.inl q,fun b q=>q.elim .inl fun q=>(fnew b q).imp_right .inr,fun b q=>.inl q,Bw _⟩,
     a.mid.top,fun b q=>.inl (i₁.mid.base b q),fun b q=>q.elim (fun q=>a.ext.al b (i₁.mid.fal b q)) (a.mid.fal b),fun b q z=>q.elim (fun q=>i₁.mid.fw b q z) fun q=>(fnew b q).elim (fun q=>i₁.mid.fw b q z) fun q=>q (i₁.wal z),i₁.mid.la,i₁.mid.lg,i₁.mid.nod,fun l c e=>(i₁.mid.cell l c e).imp fun a q=>q.imp fun g q=>⟨q.1,q.2.1,q.2.2.mono mo fun b ob _=>keep b ob⟩⟩
   have hs:q'.2=[]:=List.isEmpty_iff.mp hem
   have ad0:T'.M.ad=[]:=List.length_eq_zero_iff.mp (by rw[a.mid.la,hs];rfl)
   have mo':Mono T' (T'.mm ⟨fun b=>T₁.M.F b\/T'.M.F b,T₁.M.ad,T₁.M.gp⟩):=⟨fun b q=>.inr q,fun _ _ _ e=>e,by rw[ad0];exact List.nil_prefix⟩
   have x₂:=i₁.ofC a₂
   refine k u (T'.mm ⟨fun b=>T₁.M.F b\/T'.M.F b,T₁.M.ad,T₁.M.gp⟩) (a₁.trans x₂) ?_
   show RR X F T _ q'.1 u
   revert rc
   cases q'.1 with
   |val v=>exact fun rc=>AA.mono mo' rc
   |fresh l=>exact fun rc=>rc.imp fun b z=>z.imp fun us z=>⟨z.1,fun y=>z.2.new (a₁.ext.al b y),fun y=>y.elim (fun y=>z.2.new (i₁.mid.fal b y)) z.2.nf,fun y=>z.2.new (y.elim i₁.wal i₁.faal),z.2.obj,z.2.rep.mono mo',z.2.len⟩
end
open PySem PyProof.Rows PySem.Calls PySem.W
section
variable{X:Cx}{K:Frag}{F:Fx}{o:Ops}{n:Nat}{st st':St}{A:Around}{T T' T'':Sm}{Q E:Value->Shared->Prop}{σ:List Cell}{u:Value}{v:V}{l:List V}{us:List Value}{j:Nat}{a:Addr}{m:Str}{P:Prop}{e:Expr}{p:R×St}
theorem ST{ty:String}{x y:String}(h:Slot ty m x)(g:Slot ty m y):x=y:=by
 have h2:(some (Value.builtin x))=some (Value.builtin y):=by
  have h:=h.lookup.symm.trans g.lookup
  injection h
 cases h2
 rfl
theorem ZT{as:List V}{q:R×List Cell}(he:JA σ j l m as=some q)(k:∀id,Slot "list" m id->typeOf (.builtin id)=pure (.type "method_descriptor")->P):P:=
 eK he (fun hm _=>k _ (hm▸PySem.F.slot_list_append) PySem.F.type_list_append) fun he=>eK he (fun hm _=>k _ (hm▸PySem.F.slot_list_insert) PySem.F.type_list_insert) fun he=>eK he (fun hm _=>k _ (hm▸PySem.F.slot_list_extend) PySem.F.type_list_extend) fun he=>eK he (fun hm _=>k _ (hm▸PySem.F.slot_list_pop) PySem.F.type_list_pop) fun he=>nK he
theorem ZU{b:Bool}{es:List (Int×V)}{as:List V}{q:R×List Cell}(he:Lq σ j b es m as=some q)(k:∀id,Slot "dict" m id->typeOf (.builtin id)=pure (.type "method_descriptor")->P):P:=
 eK he (fun hm _=>k _ (hm▸PySem.F.slot_dict_get) PySem.F.type_dict_get) fun he=>eK he (fun hm _=>k _ (hm▸PySem.F.slot_dict_pop) PySem.F.type_dict_pop) fun he=>nK he
theorem OP(H:Snd X o n)(hA:AO A n){ty id:String}{pos:Pos}{as:List Expr}{p:List V×St}{pl:Sem Bool}(i:Inv X F st T)(hT:T.s.TypeIs (.ref a) ty)(hp:PlainAttrs ty)(slot:Slot ty m id)(hty:typeOf (.builtin id)=pure (.type "method_descriptor"))(hnd:∃ob,T.s.heap.get? a=some ob/\ob.dict=none)(h2:DN o F.fn as st=some p)
 (k:∀us T₂,AE X F T p.2 T₂->A7 (AA X.I T₂) p.1 us->WP X A (call (.builtin id) (.ref a::us)) Q E T₂) :
 WP X A (getMethod (.ref a) m pl) (fun fm s₂=>wpAny (model X.prog X.w) A (callWith pos fm.1 fm.2 (backTo pos (starEach as F.env)) []) Q E s₂) E T:=
 getMethod_builtin hT hp slot hty (fun a' e=>by cases e;exact hnd) (SR (SO H h2) (MG H hA h2 i fun us T₂ a₂ q₂=>k us T₂ a₂ q₂))
theorem ZV{q:Nat×St}(H:Snd X o n)(hA:AO A n)(i:Inv X F st T)(h:I7 o F.fn e st=some q)(k:∀a T',AE X F T q.2 T'->T'.M.ad[q.1]?=some a->Q (.ref a) T'.s):WP X A (eval e F.env) Q E T:=
 Kh H hA i (f:=some) (y:=q) (A2 (Option.bind · some) h) fun q' a T' x ha e=>by cases e;exact k a T' x ha
theorem MH{c:Option Cell}{d:Nat}(h:JB m c=d)(k1:d=1->∀l,c=some (.lst l)->P)(k2:d=2->∀e,Hc c=some e->P)(k3:d=3->∀fs,c=some (.inst fs)->AG m fs=.none->P)(k0:d=0->P):P:=by
 cases c with
 |none=>exact k0 h.symm
 |some c=>
  cases c with
  |lst l=>exact k1 h.symm l rfl
  |froz l=>exact k0 h.symm
  |dct b es=>exact k2 h.symm _ rfl
  |fdct b es=>exact k2 h.symm _ rfl
  |inst fs=>
   have h:(if (AG m fs).isNone=true then 3 else 0)=d:=h
   by_cases hn:(AG m fs).isNone=true
   ·rw[A5 hn] at h;exact k3 h.symm fs rfl (Ge.mp hn)
   ·rw[A3 hn] at h;exact k0 h.symm
theorem ZW(H:Snd X o n)(HT:Top X)(Y:ClsG X K){b:Expr}{apos pos:Pos}{as:List Expr}(hA:AO A n)(hok:Dn b apos pos as.length=true)(he:Qz X.G o F.fn b m as st=some p)(i:Inv X F st T)(k:KR X F T Q p):WP X A (eval (.Call (.Attribute b m apos) as [] pos) F.env) Q E T:=
 bK he fun d h1 he=>bK he fun q h2 he=>iK he fun hk he=>SQ H hok h2 (ZV H hA i h1 fun a T₁ a₁ ha pl=>by
  have hk:=beq_iff_eq.mp hk
  have ha₂:∀{T₂:Sm},Mono T₁ T₂->T₂.M.ad[d.1]?=some a:=fun mo=>mo.loc ha
  cases hc:q.2.store[d.1]? with
  |none=>rw[hc] at he;exact nK he
  |some c=>
   rw[hc] at he hk
   cases c with
   |froz l=>exact nK he
   |lst l=>
    refine mQ he k fun r hr k=>ZT hr fun id slot hty=>MH hk (fun _ l₀ hc₀=>MF a₁.inv.mid ha hc₀ fun us c L=>?_) (fun e=>by cases e) (fun e=>by cases e) fun e=>by cases e
    exact OP H hA a₁.inv ⟨_,L.obj,rfl⟩ PySem.F.plainAttrs_list slot hty ⟨_,L.obj,rfl⟩ h2 fun ws T₂ a₂ q₂=>MF a₂.inv.mid (ha₂ a₂.mono) hc fun us₂ c₂ L₂=>ZK a₂.inv L₂ q₂ hr (k.then (a₁.trans a₂)) fun id' M=>ST M.slot slot▸M.wp
   |dct b es=>
    refine mQ he k fun r hr k=>ZU hr fun id slot hty=>MH hk (fun e=>by cases e) (fun _ e₀ hc₀=>M2 a₁.inv.mid ha hc₀ fun kvs D=>?_) (fun e=>by cases e) fun e=>by cases e
    exact OP H hA a₁.inv D.obj.typeIs PySem.F.plainAttrs_dict slot hty (D.obj.imp fun ob z=>z.elim fun _ z=>z.elim fun _ z=>⟨z.1,z.2.1.2.1⟩) h2 fun ws T₂ a₂ q₂=>OL a₂.inv.mid (ha₂ a₂.mono) hc fun kvs₂ D₂ hg₂=>ZM HT a₂.inv hc D₂ hg₂ q₂ hr (k.then (a₁.trans a₂)) fun id' M=>ST M.slot slot▸M.wp
   |fdct b es=>
    refine pK he fun hm he=>mQ he k fun r hr k=>bK hr fun v hv hr=>MH hk (fun e=>by cases e) (fun _ e₀ hc₀=>M2 a₁.inv.mid ha hc₀ fun kvs D=>?_) (fun e=>by cases e) fun e=>by cases e
    exact OP H hA a₁.inv D.obj.typeIs PySem.F.plainAttrs_dict (hm▸PySem.F.slot_dict_get) PySem.F.type_dict_get (D.obj.imp fun ob z=>z.elim fun _ z=>z.elim fun _ z=>⟨z.1,z.2.1.2.1⟩) h2 fun ws T₂ a₂ q₂=>M2 a₂.inv.mid (ha₂ a₂.mono) (A2 Hc hc) fun kvs₂ D₂=>Ep (C:=fun as=>A7 (AA X.I T₂) as ws->WP X A (call (.builtin "dict.get") (.ref a::ws)) Q E T₂) hv (fun q=>q.k1 (C:=fun ws=>WP X A (call (.builtin "dict.get") (.ref a::ws)) Q E T₂) fun u hu=>SN HT a₂.inv D₂ hu hr (k.then (a₁.trans a₂))) q₂
   |inst fs=>
    refine bK he fun f hf he=>MH hk (fun e=>by cases e) (fun e=>by cases e) (fun _ fs₀ hc₀ hnone=>OJ a₁.inv.mid ha (A2 IL hc₀) fun dx es cc _ I=>?_) fun e=>by cases e
    obtain⟨fa,fo,fd,g1,g2,g3,g4⟩:=Y.mth m f hf
    have hsh:shadowIn (some (dictOf es cc)) m=some false:=by
     show(lookIn m (dictOf es cc)).map (·.isSome)=some false
     rw[lookIn_dict]
     unfold getL
     rw[I.rep.miss hnone,I.rep.norefs]
     rfl
    exact method_fn (Y.inB.keeps a₁.inv.mid.top) I.lib Y.ga Y.gn g1 g2 hsh (callWith_function (o:=fo) (fd:=fd) (MG H hA h2 a₁.inv fun ws T₂ a₂ q₂=>⟨⟨a₂.inv.mid.top _ _ g3.at_,g3.dat⟩,SS H hA he g3 a₂.inv (.cons ⟨a,ha₂ a₂.mono,rfl⟩ q₂) (k.then (a₁.trans a₂))⟩)))
theorem SU(HT:Top X){x:Str}{w:Value}{pos:Pos}(hb:IF F.fn x=true)(hv:X.mg x=some w)(i:Inv X F st T)(k:Q w T.s):WP X A (eval (.Name x pos) F.env) Q E T:=
 Name_function_global i.frm.kind (i.frm.glo x (beq_iff_eq.mp hb)) (loadGlobal_global (mg:=X.mg) (by rw[i.frm.glb];exact HT.g.keeps i.mid.top) hv k) (Kk i.frm.dbg.1 (beq_iff_eq.mp hb))
theorem ZX(H:Snd X o n)(HT:Top X){x:Str}{p' pos:Pos}{as:List Expr}{g:Fn}{q:List V×St}(hA:AO A n)(hx:IF F.fn x=true)(hg:AG x X.G.fns=some g)(h1:DN o F.fn as st=some q)(he:Lo o g q.1 q.2=some p)(i:Inv X F st T)(k:KR X F T Q p):WP X A (eval (.Call (.Name x p') as [] pos) F.env) Q E T:=by
 obtain⟨fa,fo,fd,g1,g2⟩:=HT.fns x g hg
 exact wpAny_Call_Name_kw (SU HT hx g1 i (callWith_function (o:=fo) (fd:=fd) (MG H hA h1 i fun ws T₂ a₂ q₂=>⟨⟨a₂.inv.mid.top _ _ g2.at_,g2.dat⟩,SS H hA he g2 a₂.inv q₂ (k.then a₂)⟩)))
theorem AO.make{C:Addr}{us:List Value}(h:AO A (n+1)):AO (A.under (.builtin "type.__call__" ⟨.ref C::us,[]⟩)) n:=by
 refine⟨h.h,?_,?_⟩
 ·have:=h.d
  show A.depth+1+n < _
  rw[DG];exact this
 ·have:=h.u
  have e:(A.under (.builtin "type.__call__" ⟨.ref C::us,[]⟩)).units<=A.units+8:=by
   show A.units+Code.cUnits _<=_
   exact C9 (Nat.le_of_ble_eq_true rfl) _
  exact Aa (EP (A9 (EP e _) (by rw[Dd,Nat.mul_succ,Nat.add_comm 8];exact Am _)) 300) this
theorem ZY{r:R}(h:R5 r=true)(hr:RC X T T' r u):u=.none:=by
 cases r with
 |fresh _=>cases h
 |val v=>cases v with
  |d x=>cases x with
   |none=>exact hr
   |_=>cases h
  |_=>cases h
theorem ZZ(H:Snd X o n)(HT:Top X)(Y:ClsG X K){x:Str}{p' pos:Pos}{as:List Expr}(hA:AO A (n+1))(hx:IF F.fn x=true)(hg:x=X.G.cls)(he:R6 X.G o F.fn as st=some p)(i:Inv X F st T)(k:KR X F T Q p):WP X A (eval (.Call (.Name x p') as [] pos) F.env) Q E T:=
 bK he fun q h1 he=>bK he fun r hc he=>iK he fun hno he=>by
  have k:=sQ he k
  obtain⟨fI,fo,fd,g1,g2,g3⟩:=Y.ini
  refine wpAny_Call_Name_kw (SU HT hx (by rw[hg];exact Y.nm) i (callWith_of (P:=fun h=>Frag.In K h) (SO H h1) (fun h X=>keeps_K Y.keep h X) (MG H (hA.less (Cb _)) h1 i fun us T₁ a₁ q₁=>⟨Y.inB.keeps a₁.inv.mid.top,wpAny_call ?_⟩)))
  have Xi:Frag.In K T₁.s.heap:=Y.inB.keeps a₁.inv.mid.top
  obtain⟨⟨hh,g,d,t,os⟩,M⟩:=T₁
  refine make_core (makes_of Xi Y.mks) (looks_findIn Xi g1) (fun self=>bind_fn Xi self g2) (.inl rfl) ?_
  have big:∀a,hh.objs.size<=a->¬Al hh a:=fun a ha q=>absurd q.lt (C2.mpr ha)
  have a₂:AE X F ⟨⟨hh,g,d,t,os⟩,M⟩ q.2 ⟨⟨(hh.push emptyDict).push (instObj X.C hh.objs.size),g,d,t,os⟩,M⟩:=AE.grow (tk:=t) a₁.inv fun b ob e=>DZ _ (DZ _ e)
  have oa:((hh.push emptyDict).push (instObj X.C hh.objs.size)).get? (hh.objs.size+1)=some (instObj X.C hh.objs.size):=by rw[<-Heap.size_push hh emptyDict];exact D2 _ rfl
  have hnew:∀b∈[hh.objs.size+1,hh.objs.size],¬Al hh b:=fun b hb=>(Au.mp hb).elim (fun e=>e▸big _ (Cb _)) fun hb=>Ar.mp hb▸big _ (Am _)
  have a₃:=a₂.new (a:=hh.objs.size+1) (g:=[hh.objs.size+1,hh.objs.size]) (c:=.inst []) (fun b hb=>⟨fun q=>hnew b hb (a₁.inv.mid.fal b q),fun q=>hnew b hb (q.elim a₁.inv.wal a₁.inv.faal),hnew b hb⟩) (by simp) ⟨hh.objs.size,[],0,rfl,oa,DZ _ (D2 _ rfl),rfl,Ca,BK _⟩
  have had:(M.new (hh.objs.size+1) [hh.objs.size+1,hh.objs.size]).ad[q.2.store.length]?=some (hh.objs.size+1):=by
   show(M.ad++[hh.objs.size+1])[q.2.store.length]?=_
   rw[<-a₁.inv.mid.la];exact Gd
  refine H.call (T:=⟨⟨(hh.push emptyDict).push (instObj X.C hh.objs.size),g,d,t,os⟩,M.new (hh.objs.size+1) [hh.objs.size+1,hh.objs.size]⟩) hA.make hc (g3.keeps a₃.inv.mid.top) a₃.inv.mid (.cons ⟨hh.objs.size+1,had,rfl⟩ (q₁.mono a₃.mono)) fun u T' x' q'=>⟨ZY hno q',?_⟩
  have xx:AftC X ⟨⟨hh,g,d,t,os⟩,M⟩ r.2 T':=⟨a₃.ext.trans x'.ext a₃.ext.wnew,x'.mid⟩
  exact k _ T' (a₁.trans (a₁.inv.ofC xx)) ⟨hh.objs.size+1,Mono.loc (T:=⟨⟨(hh.push emptyDict).push (instObj X.C hh.objs.size),g,d,t,os⟩,M.new (hh.objs.size+1) [hh.objs.size+1,hh.objs.size]⟩) (x'.ext.mono a₃.inv.mid.fw) had,rfl⟩
theorem Za(H:Snd X o n)(HT:Top X){elt:Expr}{gs:List Comprehension}{sc:Scope}{pos:Pos}(hA:AO A n)(he:Lm X.G o F.fn elt gs sc st=some p)(i:Inv X F st T)(k:KR X F T Q p):WP X A (eval (.ListComp elt gs sc pos) F.env) Q E T:=by
 unfold WP
 rw[eval_ListComp]
 refine SF H HT hA he i fun acc L T' C=>?_
 obtain⟨mm,hns⟩:=C.ns
 refine⟨mm,hns,fun h' hsb=>?_⟩
 have hk:∀b ob,b≠L->T'.s.heap.get? b=some ob->h'.get? b=some ob:=fun b ob hb e=>(hsb.2 b hb).trans e
 have hfa:¬FA F.env L:=fun q=>C.new (i.faal q)
 have hn:∀b,T'.M.F b\/T'.M.W b\/FA F.env b->b≠L:=fun b q z=>q.elim (fun q=>C.f (z▸q)) fun q=>q.elim (fun q=>C.w (z▸q)) fun q=>hfa (z▸q)
 have mo:Mono T' (T'.hp h' T'.s.toks):=⟨fun _ f=>f,fun b o f=>hk b o (hn b (.inl f)),Bw _⟩
 have x:=C.aft.ext
 obtain⟨h₁,t₁,e⟩:=x.sh
 refine k acc (T'.hp h' T'.s.toks) ⟨⟨⟨h',T'.s.toks,by show { T'.s with heap:=h',toks:=T'.s.toks }=_;rw[e]⟩,fun a ob e1 n1=>hk a ob (fun q=>C.new (q▸⟨_,e1⟩)) (x.keep a ob e1 n1),fun a q=>(x.al a q).imp fun ob e1=>hk a ob (fun z=>C.new (z▸q)) e1,x.F,x.fnew,x.wnew,x.ad⟩,C.aft.mono.trans mo,C.aft.inv.hp fun b o q=>hk b o (hn b q)⟩ ?_
 have hr:=C.rr
 revert hr
 cases p.1 with
 |val v=>exact fun hr=>AA.mono mo hr
 |fresh l=>exact fun hr=>hr.imp fun b z=>z.imp fun us z=>⟨z.1,z.2.new,z.2.nf,z.2.nw,z.2.obj.imp fun c e=>hk b _ (fun q=>C.ne (q▸z.1)) e,z.2.rep.mono mo,z.2.len⟩
end
open PySem PyProof.Rows PySem.Calls PySem.W
section
variable{α:Type}{y:Str}{v:α}{l:List (Str×α)}
noncomputable def JR:List (Str×V)->St->St
 |[],st=>st
 |p::r,st=>JR r (st.set p.1 p.2)
theorem SV(l:List (Str×V)):∀(st:St),(JR l st).store=st.store:=by
 induction l with
 |nil=>exact fun _=>rfl
 |cons p l ih=>exact fun st=>ih _
theorem OQ(h:AG y l=some v):(y,v)∈l:=by
 induction l with
 |nil=>cases h
 |cons p l ih=>
  have h:(if y=p.1 then some p.2 else AG y l)=some v:=h
  by_cases e:y=p.1
  ·rw[A5 e] at h;cases h;rw[e];exact .head _
  ·rw[A3 e] at h;exact .tail _ (ih h)
theorem SW(hn:(l.map (·.1)).Nodup)(h:(y,v)∈l):AG y l=some v:=by
 induction l with
 |nil=>cases h
 |cons p l ih=>
  obtain⟨h1,h2⟩:=BZ.mp hn
  show(if y=p.1 then some p.2 else AG y l)=some v
  cases h with
  |head=>exact A5 rfl
  |tail _ h=>rw[A3 fun e:y=p.1=>h1 (BU.mpr ⟨_,h,e⟩)];exact ih h2 h
theorem SX{β:Type}{l:List β}(h:l.Nodup):l.reverse.Nodup:=List.pairwise_reverse.mpr (List.Pairwise.imp (fun h e=>h e.symm) h)
theorem Zb(hn:(l.map (·.1)).Nodup):AG y l.reverse=AG y l:=by
 have hn':(l.reverse.map (·.1)).Nodup:=by rw[List.map_reverse];exact SX hn
 cases h:AG y l with
 |some v=>exact SW hn' (List.mem_reverse.mpr (OQ h))
 |none=>
  cases h':AG y l.reverse with
  |none=>rfl
  |some v=>cases h.symm.trans (SW hn (List.mem_reverse.mp (OQ h')))
theorem SY{l:List (Str×V)}:∀{st:St},(l.map (·.1)).Nodup->AG y (JR l st).vars=(AG y l).or (AG y st.vars):=by
 induction l with
 |nil=>exact fun _=>rfl
 |cons p l ih=>
  intro st hn
  obtain⟨h1,h2⟩:=BZ.mp hn
  show AG y (JR l (st.set p.1 p.2)).vars=(if y=p.1 then some p.2 else AG y l).or _
  rw[ih h2]
  show(AG y l).or (AG y (AS p.1 p.2 st.vars))=_
  rw[RN]
  by_cases h:y=p.1
  ·rw[A5 h,A5 h]
   cases hl:AG y l with
   |none=>rfl
   |some u=>exact absurd (BU.mpr ⟨_,OQ hl,h⟩) h1
  ·rw[A3 h,A3 h]
theorem Zc{l:List Str}(h:Ly l=true):l.Nodup:=by
 induction l with
 |nil=>exact Ca
 |cons x l ih=>exact Ad (show(!l.contains x&&Ly l)=true from h) fun h1 h2=>BZ.mpr ⟨fun q=>absurd h1 (by rw[Da.mpr q];exact CT),ih h2⟩
theorem Zd{β γ:Type}{l:List β}:∀{m:List γ},l.length=m.length->l.reverse.zip m.reverse=(l.zip m).reverse:=by
 induction l with
 |nil=>intro m h;cases m with
  |nil=>rfl
  |cons _ _=>cases h
 |cons a l ih=>intro m h;cases m with
  |nil=>cases h
  |cons b m=>
   have h':l.length=m.length:=Nat.succ.inj h
   rw[List.reverse_cons,List.reverse_cons,List.zip_append (by rw[List.length_reverse,List.length_reverse,h']),ih h']
   show _=((a,b)::l.zip m).reverse
   rw[List.reverse_cons]
   rfl
end
section
variable{X:Cx}{K:Frag}{F:Fx}{o:Ops}{n:Nat}{st st':St}{A:Around}{T T' T'':Sm}{Q:Unit->Shared->Prop}{E:Value->Shared->Prop}{u:Value}{v:V}{us:List Value}{t:Expr}
theorem Inv.vars(i:Inv X F st T)(h:∀y,AG y st'.vars=AG y st.vars)(hs:st'.store=st.store):Inv X F st' T:=
 ⟨hs.symm▸i.mid,i.ffa,{ i.frm with has:=by obtain⟨m,cm,q1,q2,q3⟩:=i.frm.has;exact⟨m,cm,q1,q2,fun x v hx=>q3 x v ((h x).symm.trans hx)⟩ }⟩
theorem MJ(H:Snd X o n)(HT:Top X)(Y:ClsG X K)(hA:AO A n)(he:Gn X.G o F.fn t v st=some st')(i:Inv X F st T)(hv:AA X.I T v u)(k:KU X F T Q st'):WP X A (assign t F.env u) Q E T:=by
 cases t with
 |Name x pos=>exact iK he fun hx he=>wpAny_assign_Name (IQ hx i hv (sQ he k))
 |Attribute b m pos=>
  unfold WP
  rw[assign_Attribute]
  refine A6 (DJ (Kh H hA i he fun q a T₁ a₁ ha he=>bK he fun fs hc he=>iK he fun hf he=>Ad hf fun h1 h2=>A6 (G8 (A6 (DJ (ZD Y a₁.inv ha hc h1 (BP h2) (hv.mono a₁.mono) fun T₂ a₂=>wpAny_release ?_))))))
  exact sQ he k T₂ (a₁.s.trans a₂)
 |Subscript b e pos=>
  unfold WP
  rw[assign_Subscript]
  exact A6 (DJ (Kh H hA i he fun q a T₁ a₁ ha he=>A6 (DJ (JJ H hA a₁.inv he fun z tk T₂ a₂ he=>mQ he k fun σ hσ k=>A6 (G8 (A6 (DJ (ZO HT a₂.inv (a₂.mono.loc ha) (hv.mono (a₁.mono.trans a₂.mono)) hσ fun T₃ a₃=>wpAny_release (k T₃ ((a₁.trans a₂).s.trans a₃))))))))))
 |_=>exact nK he
theorem JS{fn:Fn}{env:Env}{ts:List Expr}(h:Gn X.G o fn t v st=some st'):assignEach (t::ts) env=(false,assign t env)::assignEach ts env:=by
 cases t with
 |Starred a b=>exact nK h
 |_=>rfl
theorem Ze(H:Snd X o n)(HT:Top X)(Y:ClsG X K)(hA:AO A n){ts:List Expr}:∀{vs:List V} {us:List Value} {st st':St} {T:Sm},GF X.G o F.fn ts vs st=some st'->Inv X F st T->A7 (AA X.I T) vs us->KU X F T Q st'->WP X A (assignInOrder ((assignEach ts F.env).map (·.2)) us) Q E T:=by
 induction ts with
 |nil=>exact fun he i r k=>PyProof.Rows.assignInOrder_nil (iK he fun _ he=>sQ he k _ (AE.refl i).s)
 |cons t ts ih=>
  intro vs us st st' T he i r k
  cases vs with
  |nil=>exact nK he
  |cons v vs=>
   obtain⟨u,ws,rfl,r1,r2⟩:=r
   refine bK he fun st₁ h1 h2=>?_
   unfold WP
   rw[JS h1]
   exact PyProof.Rows.assignInOrder_cons (MJ H HT Y hA h1 i r1 fun T₁ a₁=>ih h2 a₁.inv (r2.mono a₁.mono) (k.then a₁))
structure StL(fn:Fn)(env:Env)(ts:List Expr)(vs:List V):Prop where
 len:vs.length=ts.length
 lenE:(assignEach ts env).length=ts.length
 idx:(assignEach ts env).findIdx? (·.1)=none
theorem SZ{fn:Fn}{env:Env}{ts:List Expr}:∀{vs:List V} {st st':St},GF X.G o fn ts vs st=some st'->StL fn env ts vs:=by
 induction ts with
 |nil=>exact fun he=>iK he fun hn _=>Gs (C:=fun vs=>StL fn env [] vs) hn ⟨rfl,rfl,rfl⟩
 |cons t ts ih=>
  intro vs st st' he
  cases vs with
  |nil=>exact nK he
  |cons v vs=>
   refine bK he fun st₁ h1 h2=>?_
   have q:=ih (vs:=vs) h2
   refine⟨A2 (·+1) q.len,?_,?_⟩
   ·rw[JS h1];exact A2 (·+1) q.lenE
   ·rw[JS h1,List.findIdx?_cons,A3 CT,q.idx];rfl
structure StN(fn:Fn)(xs:List Str)(vs:List V)(st st':St):Prop where
 len:vs.length=xs.length
 can:∀x∈xs,Cg fn x=true
 eq:st'=JR (xs.zip vs) st
theorem Zf{fn:Fn}{ts:List Expr}:∀{xs:List Str} {vs:List V} {st st':St},JC ts=some xs->GF X.G o fn ts vs st=some st'->StN fn xs vs st st':=by
 induction ts with
 |nil=>intro xs vs st st' hn h;cases hn;exact iK h fun hv h=>Gs (C:=fun vs=>StN fn [] vs st st') hv (by cases h;exact⟨rfl,fun _ h=>Eo h,rfl⟩)
 |cons t ts ih=>
  intro xs vs st st' hn h
  cases vs with
  |nil=>exact nK h
  |cons v vs=>
   refine bK hn fun x hx hn=>mK (C:=fun xs=>StN fn xs (v::vs) st st') hn fun xs' hn=>bK h fun st₁ h1 h2=>?_
   have h1:=JK (C:=fun t=>Gn X.G o fn t v st=some st₁->(if Cg fn x=true then some (st.set x v) else .none)=some st₁) hx (fun p h=>h) h1
   refine iK h1 fun hc h1=>?_
   cases h1
   have q:=ih hn h2
   exact⟨A2 (·+1) q.len,fun y hy=>(Au.mp hy).elim (fun e=>e▸hc) (q.can y),q.eq⟩
theorem Zg{xs:List Str}:∀{vs:List V} {us:List Value} {st:St} {T:Sm},vs.length=xs.length->(∀x∈xs,Cg F.fn x=true)->Inv X F st T->A7 (AA X.I T) vs us->KU X F T Q (JR (xs.zip vs) st)->WP X A (assignInOrder (xs.map fun n=>bindName F.env n) us) Q E T:=by
 induction xs with
 |nil=>exact fun _ _ i _ k=>PyProof.Rows.assignInOrder_nil (k _ (AE.refl i).s)
 |cons x xs ih=>
  intro vs us st T hl hc i r k
  cases vs with
  |nil=>cases hl
  |cons v vs=>
   obtain⟨u,ws,rfl,r1,r2⟩:=r
   exact PyProof.Rows.assignInOrder_cons (wpAny_bindName (IQ (hc x (.head _)) i r1 fun T₁ a₁=>ih (Nat.succ.inj hl) (fun y hy=>hc y (.tail _ hy)) a₁.inv (r2.mono a₁.mono) (k.then a₁)))
theorem Zh(H:Snd X o n)(HT:Top X)(Y:ClsG X K)(hA:AO A n){ts:List Expr}:∀{st st':St} {T:Sm},Lx X.G o F.fn v ts st=some st'->Inv X F st T->AA X.I T v u->KU X F T Q st'->WP X A (assignAll u ((assignEach ts F.env).map (·.2))) Q E T:=by
 induction ts with
 |nil=>exact fun he i r k=>AM (sQ he k _ (AE.refl i).s)
 |cons t ts ih=>
  intro st st' T he i r k
  refine bK he fun st₁ h1 h2=>?_
  unfold WP
  rw[JS h1]
  cases ts with
  |nil=>exact MJ H HT Y hA h1 i r (sQ h2 k)
  |cons t' ts'=>
   obtain⟨f,rest,hf⟩:∃f rest,(assignEach (t'::ts') F.env).map (·.2)=f::rest:=bK h2 fun _ h _=>⟨_,_,by rw[JS h];rfl⟩
   have rec':=fun {T:Sm}=>ih (st:=st₁) (st':=st') (T:=T) h2
   unfold WP at rec'
   show wpAny (model X.prog X.w) A (assignAll u (assign t F.env::(assignEach (t'::ts') F.env).map (·.2))) Q E T.s
   rw[hf] at rec' ⊢
   exact A6 (m:=holding [u] (assign t F.env u)) (DJ (MJ H HT Y hA h1 i r fun T₁ a₁=>rec' a₁.inv (r.mono a₁.mono) (k.then a₁)))
theorem Zi(H:Snd X o n){pos:Pos}(hA:AO A n){ts:List Expr}:∀{es:List Expr} {p:List V×St} {st:St} {T:Sm} {Q:List Value->Shared->Prop},Kd o F.fn ts es st=some p->Inv X F st T->JL X F T Q p->WP X A (spliced (backTo pos (starEach es F.env))) Q E T:=by
 induction ts with
 |nil=>exact fun {es p st T Q} he i k=>iK he fun hn he=>Gs (C:=fun es=>WP X A (spliced (backTo pos (starEach es F.env))) Q E T) hn (spliced_nil (sQ (C:=JL X F _ _) he k [] _ (.refl i) rfl))
 |cons t ts ih=>
  intro es p st T Q he i k
  cases es with
  |nil=>exact nK he
  |cons e es=>
   refine bK he fun a h1 he=>?_
   unfold WP
   rw[bK h1 fun _ h _=>GG H h]
   exact spliced_cons (JH H hA i h1 fun u T₁ a₁ q₁=>mQ he k fun b h2 k=>ih h2 a₁.inv fun us T₂ a₂ q₂=>k (u::us) T₂ (a₁.trans a₂) (.cons (q₁.mono a₂.mono) q₂))
end
open PySem PyProof.Rows PySem.Calls PySem.W
theorem MK{α β:Type}{c:Prop}[Decidable c]{a x:α}{f:β->α}{P:β->Prop}{b:β}(e:a=f b)(hb:P b)(h:¬c->∃q,x=f q/\P q):∃q,(if c then a else x)=f q/\P q:=
 (Decidable.em c).elim (fun hc=>⟨b,(A5 hc).trans e,hb⟩) fun hc=>(h hc).elim fun q hq=>⟨q,(A3 hc).trans hq.1,hq.2⟩
theorem Zj{ts es:List Expr}{k k':Nat}{p p':Pos}{env:Env}(hc:¬es.all (constantsAlone 8)=true):∃q,swappedStores [.Tuple ts k p] (.Tuple es k' p') env=pure q/\∀names,q=some names->names.length=ts.length/\
 names=ts.filterMap (fun |.Name id pos=>if env.kindOf id == some .local&&pos.line == ((ts.head?.map (·.pos.line)).getD 0) then some id else none |_=>none):=by
 have n0:∀{P:List Str->Prop} (names:List Str),(Option.none:Option (List Str))=some names->P names:=fun _ h=>nK h
 refine MK rfl n0 fun _=>MK rfl n0 fun _=>MK rfl n0 fun hl=>MK rfl n0 fun _=>⟨_,A3 hc,fun names h=>?_⟩
 cases h
 refine⟨?_,rfl⟩
 have hl:=Bool.or_eq_false_iff.mp (Bool.not_eq_true _▸hl)
 exact Decidable.of_not_not (fun q=>bne_iff_ne.mpr q |>.symm.trans hl.1 |> Bool.noConfusion)
theorem Zk{c:Str->Pos->Bool}{t:Expr}{x:Str}(h:(fun |.Name id pos=>if c id pos then some id else none |_=>none:Expr->Option Str) t=some x):FH t=some x:=by
 cases t with
 |Name id pos=>exact iK h fun _ h=>h
 |_=>exact nK h
theorem Zl{c:Str->Pos->Bool}{ts:List Expr}:∀{names:List Str},names=ts.filterMap (fun |.Name id pos=>if c id pos then some id else none |_=>none)->names.length=ts.length->JC ts=some names:=by
 generalize hg:(fun |.Name id pos=>if c id pos then some id else none |_=>none:Expr->Option Str)=g
 have hk:∀{t:Expr} {x:Str},g t=some x->FH t=some x:=fun {t x} h=>Zk (hg▸h)
 clear hg
 induction ts with
 |nil=>intro names h _;rw[h];rfl
 |cons t ts ih=>
  intro names h hl
  rw[FB] at h
  cases e:g t with
  |none=>
   rw[e] at h
   exact absurd hl (CA (E2 (h▸List.length_filterMap_le g ts)))
  |some x=>
   rw[e] at h
   rw[h] at hl ⊢
   show(FH t).bind _=_
   rw[hk e]
   exact A2 (Option.map (x::·)) (ih rfl (Nat.succ.inj hl))
section
variable{X:Cx}{K:Frag}{F:Fx}{o:Ops}{n:Nat}{st st':St}{A:Around}{T T' T'':Sm}{Q:Flow->Shared->Prop}{E:Value->Shared->Prop}{u:Value}{v:V}{ws:List Value}{t e:Expr}
noncomputable def KN(X:Cx)(F:Fx)(T:Sm)(Q:Flow->Shared->Prop)(st:St):Prop:=∀T',AftS X F T st T'->Q .next T'.s
theorem A7.rev{α:Type}{P:α->Value->Prop}{l:List α}:∀{us:List Value},A7 P l us->A7 P l.reverse us.reverse:=by
 induction l with
 |nil=>intro us r;cases r;exact rfl
 |cons a l ih=>intro us r;obtain⟨u,us',rfl,r1,r2⟩:=r;rw[List.reverse_cons,List.reverse_cons];exact(ih r2).append (.one r1)
theorem Sa(H:Snd X o n)(HT:Top X)(Y:ClsG X K){us:List Expr}{k₁:Nat}{p₁:Pos}{l:List V}{Ta:Addr}{QU:Unit->Shared->Prop}(hA:AO A n)(h2:GF X.G o F.fn us l st=some st')(i:Inv X F st T)(hT:T.s.heap.IsTuple Ta ws.toArray)(r:A7 (AA X.I T) l ws)(k:KU X F T QU st'):WP X A (assign (.Tuple us k₁ p₁) F.env (.ref Ta)) QU E T:=by
 have L:=SZ (env:=F.env) h2
 refine wpAny_assign_Tuple hA.h hT (by rw[Fb,r.length,L.len,L.lenE]) L.idx fun h' hk'=>?_
 have a₁:AE X F T st (T.hp h' T.s.toks):=.grow i fun b ob e=>hk' b ob (CA (Co e)) e
 exact Ze H HT Y hA h2 a₁.inv (r.mono a₁.mono) (k.then a₁.s)
theorem Zm(H:Snd X o n)(HT:Top X)(Y:ClsG X K){us es:List Expr}{k₁ k₂:Nat}{p₁ p₂ pos:Pos}{p:List V×St}(hA:AO A n)(ht:JD us=true)(hc:¬es.all (constantsAlone 8)=true)(h1:Kd o F.fn us es st=some p)(h2:GF X.G o F.fn us p.1 p.2=some st')(i:Inv X F st T)(k:KN X F T Q st') :
 WP X A (exec (.Assign [.Tuple us k₁ p₁] (.Tuple es k₂ p₂) pos) F.env) Q E T:=by
 unfold WP
 rw[PyProof.Rows.exec_Assign]
 refine A6 (G8 ?_)
 show wpAny _ _ ((pure false:Sem Bool) >>= _) _ _ _
 refine A6 (AM (A6 (Tuple_ (Zi H hA h1 i fun ws T₁ a₁ q₁=>?_))))
 have L:=SZ (env:=F.env) h2
 have hz:ws.length<=sizeLine:=by rw[q₁.length,L.len];exact A9 (BP (Bb.mp ht).1) (by decide)
 refine wpAny_newTuple ?_ hz
 have a₂:AE X F T₁ p.2 (T₁.hp (T₁.s.heap.push { cls:=.type "tuple",data:=.seq ws.toArray }) T₁.s.toks):=.grow a₁.inv (DS _ _)
 have hT:(T₁.s.heap.push { cls:=.type "tuple",data:=.seq ws.toArray }).IsTuple T₁.s.heap.objs.size ws.toArray:=⟨_,D2 _ rfl,rfl,0,rfl⟩
 have a₁₂:=a₁.trans a₂
 obtain⟨sw,hsw,hnm⟩:=Zj (ts:=us) (k:=k₁) (k':=k₂) (p:=p₁) (p':=p₂) (env:=F.env) hc
 refine A6 (wpAny_of_eq hsw ?_)
 cases sw with
 |none=>exact A6 (m:=assign (.Tuple us k₁ p₁) F.env (.ref T₁.s.heap.objs.size)) (Sa H HT Y hA h2 a₂.inv hT (q₁.mono a₂.mono) fun T₃ a₃=>AM (k T₃ (a₁₂.s.trans a₃)))
 |some names=>
  obtain⟨hnl,hne⟩:=hnm names rfl
  have hnames:=Zl (c:=fun id pos=>F.env.kindOf id == some .local&&pos.line == ((us.head?.map (·.pos.line)).getD 0)) hne hnl
  have N:=Zf hnames h2
  have hnd:names.Nodup:=Zc (by have:=(Bb.mp ht).2;rw[hnames] at this;exact this)
  show wpAny _ _ (rule _ >>= _) _ _ _
  refine A6 (wpAny_rule ?_)
  rw[show names.length=ws.toArray.size by rw[Fb,q₁.length,N.len]]
  refine A6 (wpAny_unpackItems_tuple (s:={ T₁.s with heap:=T₁.s.heap.push { cls:=.type "tuple",data:=.seq ws.toArray } }) hA.h hT fun h' hk'=>?_)
  have a₃:AE X F (T₁.hp (T₁.s.heap.push { cls:=.type "tuple",data:=.seq ws.toArray }) T₁.s.toks) p.2 (T₁.hp h' T₁.s.toks):=.grow a₂.inv fun b ob e=>hk' b ob (CA (Co e)) e
  refine A6 (Zg (xs:=names.reverse) (vs:=p.1.reverse) (by rw[List.length_reverse,List.length_reverse,N.len]) (fun x hx=>N.can x (List.mem_reverse.mp hx)) a₃.inv (q₁.mono (a₂.mono.trans a₃.mono)).rev fun T₄ a₄=>AM ?_)
  have hz1:((names.zip p.1).map (·.1)).Nodup:=by rw[List.map_fst_zip (BQ N.len.symm)];exact hnd
  have z:=(a₁₂.trans a₃).s.trans a₄
  refine k T₄ ⟨z.ext,z.mono,z.inv.vars (fun y=>?_) ?_⟩
  ·rw[N.eq,SY hz1,Zd N.len.symm,SY (by rw[List.map_reverse];exact SX hz1),Zb hz1]
  ·rw[N.eq,SV,SV]
theorem Sb(H:Snd X o n){fn:Fn}{env:Env}{tt:Option Expr}{line:Nat}{q:R×St}(h:o.ev fn e st=some q)(hne:Gk e=false):swapsWith e tt line env=pure false:=by
 cases e with
 |ListComp a b c d=>cases hne
 |SetComp a b c d=>exact nK ((H.setc _ _ _ _ _ _).symm.trans h)
 |DictComp a b c d e=>exact nK ((H.dctc _ _ _ _ _ _ _).symm.trans h)
 |_=>rfl
theorem Zn{us:List Expr}{k₁:Nat}{p₁:Pos}{env:Env}(h:He e=.none):swappedStores [.Tuple us k₁ p₁] e env=pure none:=by
 cases e with
 |Tuple a b c=>cases h
 |_=>rfl
theorem Zo{us:List Expr}{k₁:Nat}{p₁:Pos}{env:Env}{line:Nat}:swapsWithSole [.Tuple us k₁ p₁] e line env=pure false:=by
 show swapsWith e (some (.Tuple us k₁ p₁)) line env=pure false
 cases e <;> rfl
theorem Zp(H:Snd X o n)(HT:Top X)(Y:ClsG X K){us:List Expr}{k₁:Nat}{p₁ pos:Pos}{p:V×St}{l:List V}(hA:AO A n)(hne:He e=.none)(h1:Ej o false F.fn e st=some p)(hl:Ha p.1=some l)(h2:GF X.G o F.fn us l p.2=some st')(i:Inv X F st T)(k:KN X F T Q st'):WP X A (exec (.Assign [.Tuple us k₁ p₁] e pos) F.env) Q E T:=by
 unfold WP
 rw[PyProof.Rows.exec_Assign]
 refine A6 (G8 (A6 (wpAny_of_eq Zo ?_)))
 refine A6 (JH H hA i h1 fun u T₁ a₁ q₁=>A6 (wpAny_of_eq (Zn hne) ?_))
 refine O1 (C:=fun u=>wpAny (model X.prog X.w) A (assignAll u ((assignEach [.Tuple us k₁ p₁] F.env).map (·.2)) >>= fun _=>pure Flow.next) Q E T₁.s) q₁ hl fun Ta ws f ⟨m,o⟩ r _=>?_
 exact A6 (m:=assign (.Tuple us k₁ p₁) F.env (.ref Ta)) (Sa H HT Y hA h2 a₁.inv ⟨_,o,rfl,m,rfl⟩ r fun T₃ a₃=>AM (k T₃ (a₁.s.trans a₃)))
theorem Zq{x:Str}{px:Pos}{L:Addr}{acc:Value}{b:Bool}{p:R×St}{q:V×St}(hx:Cg F.fn x=true)(i:Inv X F st T)(C:CompEnd X F T p T' acc L)(hkp:Nf b p.1 p.2=some q)(k:KN X F T Q (q.2.set x q.1)) :
 compPost (model X.prog X.w) A E (some fun v=>assignAll v ((assignEach [.Name x px] F.env).map (·.2))) (fun _ s'=>Q .next s') acc L (.ok .next) T'.s:=
 RS C.aft C.rr hkp fun T₁ e₁ hmore a₁ q₁=>by
  rw[<-e₁]
  show wpAny (model X.prog X.w) A (assign (.Name x px) F.env acc) _ E T₁.s
  have hLfa:¬FA F.env L:=fun q=>C.new (i.faal q)
  have hLF:¬T₁.M.F L:=fun q=>C.f ((hmore L C.ne).1 q)
  have hLW:¬T₁.M.W L:=fun q=>C.w ((hmore L C.ne).2 q)
  refine wpAny_assign_Name (IQ hx a₁.inv q₁ fun T₂ a₂=>?_)
  obtain⟨m,hns⟩:=C.ns
  have hLal:Al T₁.s.heap L:=by rw[e₁];exact hns.imp fun o q=>q.elim fun _ q=>q.elim fun _ q=>q.1
  have hL2:¬T₂.M.F L/\¬T₂.M.W L:=⟨fun q=>(a₂.ext.fnew L q).elim hLF fun q=>q.elim hLW fun q=>q hLal,fun q=>(a₂.ext.wnew L q).elim hLW fun q=>q hLal⟩
  refine⟨m,hns.at' fun ob e=>a₂.ext.keep L ob (e₁▸e) fun q=>q.elim hLW fun q=>hLfa q.fa,fun h' hsb=>?_⟩
  have hk:∀b ob,b≠L->T₂.s.heap.get? b=some ob->h'.get? b=some ob:=fun b ob hb e=>(hsb.2 b hb).trans e
  have hn:∀b,T₂.M.F b\/T₂.M.W b\/FA F.env b->b≠L:=fun b q z=>q.elim (fun q=>hL2.1 (z▸q)) fun q=>q.elim (fun q=>hL2.2 (z▸q)) fun q=>hLfa (z▸q)
  have xx:=a₁.s.trans a₂
  obtain⟨h₁,t₁,e⟩:=xx.ext.sh
  exact k (T₂.hp h' T₂.s.toks) ⟨⟨⟨h',T₂.s.toks,by show { T₂.s with heap:=h',toks:=T₂.s.toks }=_;rw[e]⟩,fun a ob e1 n1=>hk a ob (fun q=>C.new (q▸⟨_,e1⟩)) (xx.ext.keep a ob e1 n1),fun a q=>(xx.ext.al a q).imp fun ob e1=>hk a ob (fun z=>C.new (z▸q)) e1,xx.ext.F,xx.ext.fnew,xx.ext.wnew,xx.ext.ad⟩,
   xx.mono.trans ⟨fun _ f=>f,fun b o f=>hk b o (hn b (.inl f)),Bw _⟩,a₂.inv.hp fun b o q=>hk b o (hn b q)⟩
noncomputable def Ks(X:Cx)(o:Ops)(n:Nat)(fn:Fn):Prop:=∀{elt gs sc p st q},o.ev fn (.ListComp elt gs sc p) st=some q->∃o' n',n'<=n/\Snd X o' n'/\Lm X.G o' fn elt gs sc st=some q
theorem Zr(H:Snd X o n)(HT:Top X)(Y:ClsG X K){pos:Pos}{p:V×St}{b:Bool}(hA:AO A n)(h1:Ej o b F.fn e st=some p)(h2:Gn X.G o F.fn t p.1 p.2=some st')(i:Inv X F st T)(k:KN X F T Q st')(hs:swapsWithSole [t] e pos.line F.env=pure false):WP X A (exec (.Assign [t] e pos) F.env) Q E T:=by
 unfold WP
 rw[PyProof.Rows.exec_Assign]
 have hsw:swappedStores [t] e F.env=pure none:=by
  cases t with
  |Tuple a b c=>exact nK h2
  |List a b=>exact nK h2
  |_=>rfl
 refine A6 (G8 (A6 (wpAny_of_eq hs (A6 (JH H hA i h1 fun u T₁ a₁ q₁=>A6 (wpAny_of_eq hsw ?_))))))
 rw[JS h2]
 exact A6 (m:=assign t F.env u) (MJ H HT Y hA h2 a₁.inv q₁ fun T₂ a₂=>AM (k T₂ (a₁.s.trans a₂)))
theorem Zs(H:Snd X o n)(HT:Top X)(Y:ClsG X K)(HE:Ks X o n F.fn){pos:Pos}{p:V×St}{b:Bool}(hA:AO A n)(h1:Ej o b F.fn e st=some p)(h2:Gn X.G o F.fn t p.1 p.2=some st')(i:Inv X F st T)(k:KN X F T Q st'):WP X A (exec (.Assign [t] e pos) F.env) Q E T:=by
 have plain:=Zr (pos:=pos) (E:=E) H HT Y hA h1 h2 i k
 cases hlc:Gk e with
 |false=>exact plain (bK h1 fun q hq _=>Sb H hq hlc)
 |true=>
  revert h1 plain
  refine XJ (C:=fun e=>Ej o b F.fn e st=some p->(swapsWithSole [t] e pos.line F.env=pure false->WP X A (exec (.Assign [t] e pos) F.env) Q E T)->WP X A (exec (.Assign [t] e pos) F.env) Q E T) hlc fun elt gs sc pe h1 plain=>?_
  cases t with
  |Name x px=>
   obtain⟨b,hb⟩:∃b,swapsWithSole [.Name x px] (.ListComp elt gs sc pe) pos.line F.env=pure b:=⟨_,rfl⟩
   cases b with
   |false=>exact plain hb
   |true=>
    refine bK h1 fun q hq hkp=>iK h2 fun hx h2=>?_
    unfold WP
    rw[PyProof.Rows.exec_Assign]
    refine A6 (G8 (A6 (wpAny_of_eq hb ?_)))
    obtain⟨o',n',hn',H',he⟩:=HE hq
    exact A6 (A6 (Dg (SF (Q:=fun _ s'=>Q .next s') H' HT (hA.less hn') he i fun acc L T₁ C=>Zq hx i C hkp (sQ h2 k)) (fun _ s' hq=>AM (AM hq)) fun _ _ e=>e))
  |Attribute _ _ _=>exact plain rfl
  |Subscript _ _ _=>exact plain rfl
  |_=>exact nK h2
theorem Zt(H:Snd X o n)(HT:Top X)(Y:ClsG X K){ts:List Expr}{pos:Pos}{p:V×St}(hA:AO A n)(hts:one ts=.none)(h1:Ej o false F.fn e st=some p)(h2:Lx X.G o F.fn p.1 ts p.2=some st')(i:Inv X F st T)(k:KN X F T Q st'):WP X A (exec (.Assign ts e pos) F.env) Q E T:=by
 unfold WP
 rw[PyProof.Rows.exec_Assign]
 have hs:swapsWithSole ts e pos.line F.env=pure false/\swappedStores ts e F.env=pure none:=by
  cases ts with
  |nil=>exact⟨rfl,rfl⟩
  |cons a l=>
   cases l with
   |nil=>cases hts
   |cons b l=>
    refine⟨rfl,?_⟩
    cases a <;> rfl
 refine A6 (G8 (A6 (wpAny_of_eq hs.1 (A6 (JH H hA i h1 fun u T₁ a₁ q₁=>A6 (wpAny_of_eq hs.2 (A6 ?_)))))))
 exact Zh H HT Y hA h2 a₁.inv q₁ fun T₂ a₂=>AM (k T₂ (a₁.s.trans a₂))
end
open PySem PyProof.Rows PySem.Calls PySem.W
section
variable{X:Cx}{K:Frag}{F:Fx}{o:Ops}{n:Nat}{st st':St}{A:Around}{T T' T'':Sm}{Q:Flow->Shared->Prop}{E:Value->Shared->Prop}{u:Value}{v:V}{t e:Expr}
theorem Zu(H:Snd X o n){fn:Fn}{env:Env}{q:It×St}(he:FJ X.G o fn e st=some q)(x:Value):foldedSetIterable e env x=pure x:=by
 cases e with
 |Set a b c=>exact nK ((A2 (Option.bind · _) (H.set _ _ _ _ _)).symm.trans he)
 |_=>rfl
theorem Zv{x:Str}{Q:Value->Shared->Prop}(i:Inv X F st T)(hx:Cg F.fn x=true)(hv:AG x st.vars=some v)(k:∀u,AA X.I T v u->Q u T.s):WP X A (loadName F.env x) Q E T:=by
 obtain⟨m,cm,hn,hc,hvs⟩:=i.frm.has
 obtain⟨u,hu,q⟩:=hvs x v hv
 refine Rx hx (fun hx=>?_) fun hx=>?_
 ·have hk:=i.frm.loc x hx
  exact q.elim (fun q=>wpAny_loadName_local i.frm.kind q.1 hn q.2 (k u hu)) fun q=>q.1.elim (fun z=>by cases hk.symm.trans z) fun z=>by cases hk.symm.trans z
 ·have hk:=i.frm.cel x hx
  refine q.elim (fun q=>by cases hk.symm.trans q.1) fun q=>?_
  obtain⟨c,hcx⟩:=i.frm.cells x (.inl hk)
  have hcell:=hc x c hcx
  rw[q.2] at hcell
  exact wpAny_loadName_cell i.frm.kind hk hcx hcell (k u hu)
theorem Zw(H:Snd X o n)(HT:Top X)(hA:AO A n){QU:Unit->Shared->Prop}{ts:List Expr}:∀{st st':St} {T:Sm},Ke o F.fn ts st=some st'->Inv X F st T->KU X F T QU st'->WP X A (deleteEach ts F.env) QU E T:=by
 induction ts with
 |nil=>exact fun he i k=>wpAny_deleteEach_nil (sQ he k _ (AE.refl i).s)
 |cons t ts ih=>
  intro st st' T he i k
  exact bK he fun p hp he=>XH (C:=fun t=>WP X A (deleteEach (t::ts) F.env) QU E T) hp fun pos=>wpAny_deleteEach_cons (wpAny_delete_Subscript (Kh H hA i he fun q a T₁ a₁ ha he=>JJ H hA a₁.inv he fun z tk T₂ a₂ he=>bK he fun st₃ h3 he=>mK (C:=fun st₃=>Ke o F.fn ts st₃=some st'->wpAny (model X.prog X.w) A (PySem.delItem (.ref a) (.int (X.I.f z.1.1 z.1.2) tk)) (fun _ s=>wpAny (model X.prog X.w) A (deleteEach ts F.env) QU E s) E T₂.s) h3 (fun σ hσ he=>ZP HT a₂.inv (a₂.mono.loc ha) hσ fun T₃ a₃=>ih he a₃.inv (k.then ((a₁.trans a₂).s.trans a₃))) he))
theorem Sc{fl:Fl}{f:Flow}(h:JE fl=true)(hr:RQ X F T T' fl f):f=.next:=by
 cases fl with
 |next=>exact hr
 |ret _=>cases h
structure ForSt(X:Cx)(F:Fx)(o:Ops)(tg:Tg)(body:List Stmt)(it:It)(st':St)(T TS:Sm)(N:Nat)(fp wr:List Addr)(Sf:Nat->Heap->Prop)(kk:Nat)(s:Shared)(j:Nat)(T':Sm)(st'':St):Prop where
 s:s=T'.s
 kk:kk=N+1 - j
 le:j<=N
 ext:Cs (fun _=>False) F T T'
 mono:Mono T T'
 inv:Inv X F st'' T'
 li:LI F (fun _=>False) fp wr Sf TS j T'
 rest:forLoop' o F.fn tg body (it.items.drop j) st''=some st'
theorem Cs.s{B:Addr->Prop}(x:Cs (fun _=>False) F T T'):Ext (Wr F T) T T':=x.weaken fun _ q=>.inl (q.elim id False.elim)
theorem Zx(H:Snd X o n)(HT:Top X){body:List Stmt}{pos:Pos}{p:It×St}{tg:Tg}(hA:AO A n)(h1:FJ X.G o F.fn e st=some p)(htg:Dm t=some tg)(hok:Cr F.fn p.1.pr tg=true)(h2:forLoop' o F.fn tg body p.1.items p.2=some st')(i:Inv X F st T)(k:KN X F T Q st'):WP X A (exec (.For t e body [] pos) F.env) Q E T:=by
 refine wpAny_For (OG H HT hA (MC htg) hok h1 i fun I T₁ a₁ q=>?_) (Zu H h1)
 obtain⟨N,fp,wr,P,Md,Sf,S⟩:=q
 refine codeAny_forLoop_any (fun kk s'=>∃j T' st'',ForSt X F o tg body p.1 st' T T₁ N fp wr Sf kk s' j T' st'') ?_ (N+1)
  ⟨0,T₁,p.2,rfl,rfl,BK _,.ofW a₁.ext,a₁.mono,a₁.inv,⟨S.st0,fun b hb=>⟨(S.fp b hb).1,id⟩,fun b hb=>(S.wr b hb).1,.refl _⟩,h2⟩
 rintro kk s₂ ⟨j,T₂,st₂,L⟩
 cases L.s
 cases L.kk
 refine S9 S.turns S.item S.len (fun b hb=>(S.wr b hb).2) L.li L.inv L.ext (fun hjn T₃ d₃=>?_) (fun x v s₃ hx hgo=>?_) L.le
 ·cases hjn
  have he:=L.rest
  rw[List.drop_eq_nil_of_le (BQ S.len)] at he
  exact wpAny_execs_nil (sQ he k T₃ ⟨d₃.ext.s (B:=fun _=>False),L.mono.trans d₃.mono,d₃.inv⟩)
 ·have hlt:j < p.1.items.length:=(FC.mp hx).1
  have he:=L.rest
  rw[List.drop_eq_getElem_cons hlt,(FC.mp hx).2] at he
  refine bK he fun st₃ f1 he=>bK he fun q f2 he=>iK he fun hn he=>hgo fun T₄ d₄ L₄ hit=>Rz hA htg hok f1 d₄.inv hit fun T₅ a₅=>H.ex hA f2 a₅.inv fun fl T₆ a₆ hfl=>?_
  cases Sc hn hfl
  have a₅₆:=a₅.trans a₆
  have xx:Cs (fun _=>False) F T₄ T₆:=.of a₅₆.ext
  have hj:j < N:=S.len▸hlt
  exact⟨_,Nat.sub_lt_sub_left (E2 L.le) (Cc j),j+1,T₆,q.2,rfl,rfl,hj,d₄.ext.trans xx,(L.mono.trans d₄.mono).trans a₅₆.mono,a₆.inv,L₄.ext S.turns S.al xx a₅₆.mono,he⟩
theorem Zy(H:Snd X o n){body:List Stmt}{pos:Pos}{N:Nat}(hA:AO A n)(h2:whileLoop' o F.fn t body N st=some st')(i:Inv X F st T)(k:KN X F T Q st'):WP X A (exec (.While t body [] pos) F.env) Q E T:=by
 refine wpAny_While (codeAny_whileLoop (fun kk s'=>∃T' st'',s'=T'.s/\AftS X F T st'' T'/\whileLoop' o F.fn t body kk st''=some st') ?_ N ⟨T,st,rfl,(AE.refl i).s,h2⟩)
 rintro kk s₁ ⟨T₁,st₁,rfl,a₁,he⟩
 cases kk with
 |zero=>exact nK he
 |succ kk=>
  refine bK he fun q h1 he=>H.tt hA h1 a₁.inv fun T₂ a₂=>cK he (fun hb he=>?_) fun hb he=>?_
  ·rw[A5 hb]
   refine bK he fun r h3 he=>iK he fun hn he=>H.ex hA h3 a₂.inv fun fl T₃ a₃ hfl=>?_
   cases Sc hn hfl
   exact⟨kk,Cc _,T₃,r.2,rfl,(a₁.trans a₂.s).trans a₃,he⟩
  ·rw[A3 (by rw[hb];exact CT)]
   exact wpAny_execs_nil (sQ he k T₂ (a₁.trans a₂.s))
theorem Zz(H:Snd X o n)(HT:Top X)(Y:ClsG X K)(HE:Ks X o n F.fn){ts:List Expr}{pos:Pos}(hA:AO A n)(he:RI X.G o F.fn ts e st=some st')(i:Inv X F st T)(k:KN X F T Q st'):WP X A (exec (.Assign ts e pos) F.env) Q E T:=
 oK he (fun t ht he=>Ep (C:=fun ts=>WP X A (exec (.Assign ts e pos) F.env) Q E T) ht (oK he (fun us hu he=>Nw (C:=fun t=>WP X A (exec (.Assign [t] e pos) F.env) Q E T) hu fun c q=>iK he fun hok he=>oK he (fun es hes he=>Nw (C:=fun e=>WP X A (exec (.Assign [.Tuple us c q] e pos) F.env) Q E T) hes fun c' q'=>cK he (fun _ he=>nK he) fun hc he=>bK he fun p h1 h2=>Zm H HT Y hA hok (by rw[hc];nofun) h1 h2 i k) fun hne he=>bK he fun p h1 he=>bK he fun l hl h2=>Zp H HT Y hA hne h1 hl h2 i k)
  fun _ he=>bK he fun p h1 h2=>Zs H HT Y HE hA h1 h2 i k)) fun hn he=>iK he fun _ he=>bK he fun p h1 h2=>Zt H HT Y hA hn h1 h2 i k
theorem a0(H:Snd X o n){x:Str}{px pos:Pos}(hA:AO A n)(he:RJ o F.fn x e st=some st')(i:Inv X F st T)(k:KN X F T Q st'):WP X A (exec (.AugAssign (.Name x px) .Add e pos) F.env) Q E T:=
 iK he fun hx he=>bK he fun v hv he=>bK he fun a ha he=>bK ha fun q hq ha=>wpAny_AugAssign_Name (Zv i hx hv fun u hu=>JI (P:=fun v=>AA X.I T v u->wpAny (model X.prog X.w) A (eval e F.env) _ E T.s) hq (fun hu=>AR.num_k (P:=fun u=>wpAny (model X.prog X.w) A (eval e F.env) (fun v₂ s₂=>wpAny (model X.prog X.w) A (inplaceOp .Add u v₂) _ E s₂) E T.s) hu fun t1=>Gq (P:=fun q=>wpAny (model X.prog X.w) A (eval e F.env) (fun v₂ s₂=>wpAny (model X.prog X.w) A (inplaceOp .Add (.int (X.I.f q.1 q.2) t1) v₂) _ E s₂) E T.s) ha (Nu H hA i he k fun z t2 T₁ a₁ k=>P.iadd_int (IQ (v:=.d (.int (a+z.1))) hx (AE.tok a₁.inv (T₁.s.toks+1)).inv ⟨_,rfl⟩ fun T₂ a₂=>k T₂ ((a₁.trans (AE.tok a₁.inv (T₁.s.toks+1))).s.trans a₂)))) hu)
theorem nx{k:KX X F T Q (next st')}:KN X F T Q st':=fun T' a=>k .next T' a rfl
theorem a5(H:Snd X o n)(HT:Top X)(Y:ClsG X K)(HE:Ks X o n F.fn){c:Stmt}{p:Fl×St}(hA:AO A n)(he:Nt X.G o F.fn c st=some p)(i:Inv X F st T)(k:KX X F T Q p):WP X A (exec c F.env) Q E T:=by
 cases c with
 |Assign ts e pos=>exact mQ he k fun st₁ he k=>Zz H HT Y HE hA he i (nx (k:=k))
 |AugAssign t op e pos=>
  cases op with
  |Add=>exact bK he fun x hx he=>mQ he k fun st₁ he k=>JK (C:=fun t=>WP X A (exec (.AugAssign t .Add e pos) F.env) Q E T) hx fun px=>a0 H hA he i (nx (k:=k))
  |_=>exact nK he
 |If t b e pos=>
  refine bK he fun q h1 he=>wpAny_If (H.tt hA h1 i fun T₁ a₁=>cK he (fun hb he=>?_) fun hb he=>?_)
  ·rw[A5 hb];exact H.ex hA he a₁.inv (k.then a₁.s)
  ·rw[A3 (by rw[hb];exact CT)];exact H.ex hA he a₁.inv (k.then a₁.s)
 |For t e body els pos=>
  cases els with
  |cons _ _=>exact nK he
  |nil=>exact bK he fun q h1 he=>bK he fun tg htg he=>iK he fun hok he=>mQ he k fun st₂ h2 k=>Zx H HT hA h1 htg hok h2 i (nx (k:=k))
 |While t body els pos=>
  cases els with
  |cons _ _=>exact nK he
  |nil=>exact mQ he k fun st₂ h2 k=>Zy H hA h2 i (nx (k:=k))
 |Return e pos=>
  cases e with
  |some e=>exact mQ he k fun q h1 k=>wpAny_Return_some (H.ev hA h1 i fun u T' a q=>k _ T' a.s ⟨u,rfl,q⟩)
  |none=>exact wpAny_Return_none (sQ he k _ T (AE.refl i).s ⟨_,rfl,rfl⟩)
 |Expr e pos=>
  refine eK he (fun _ he=>nK he) fun he'=>?_
  cases hlc:Gk e with
  |true=>exact eK he (fun _ he=>nK he) fun _=>absurd he (by show(if Gk e=true then _ else _)≠_;rw[A5 hlc];intro h;cases h)
  |false=>exact mQ he' k fun q h1 k=>wpAny_Expr_any (H.ev hA h1 i fun u T' a _=>k .next T' a.s rfl) (by unfold interactive;rw[i.frm.kind];rfl) (Sb H h1 hlc)
 |Delete ts pos=>exact mQ he k fun st₂ h2 k=>wpAny_Delete (Zw H HT hA h2 i fun T' a=>k .next T' a rfl)
 |_=>exact nK he
theorem a6(H:Snd X o n)(HT:Top X)(Y:ClsG X K)(HE:Ks X o n F.fn){ss:List Stmt}{p:Fl×St}(hA:AO A n)(he:RK X.G o F.fn ss st=some p)(i:Inv X F st T)(k:KX X F T Q p):WP X A (execs ss F.env) Q E T:=by
 cases ss with
 |nil=>exact wpAny_execs_nil (sQ he k .next T (AE.refl i).s rfl)
 |cons c rest=>
  refine bK he fun q h1 he=>wpAny_execs_cons (a5 H HT Y HE hA h1 i fun fl T₁ a₁ q₁=>?_)
  obtain⟨f,st₁⟩:=q
  cases f with
  |next=>cases q₁;exact H.ex hA he a₁.inv (k.then a₁)
  |ret r=>obtain⟨u,rfl,q⟩:=q₁;exact sQ he k _ T₁ a₁ ⟨u,rfl,q⟩
end
open PySem PyProof.Rows PySem.Calls PySem.W PySem.Spec
theorem a7:typeLookup (.type "list") "keys" = pure none:=by rw[typeLookup_type,builtinLookup_eq_fast];kernel_rfl
theorem a8{prog:Program}{w:World}{A:Around}{E:Value->Shared->Prop}{s:Shared}{a:Addr}{o:Obj}{xs:Array Value}{k:Nat}{name:Str}{Q:Option Value->Shared->Prop}
 (hx:s.heap.get? a=some o) (hc:o.cls=.type "list") (hdat:o.data=.seq xs k) (hd:o.dict=none) (hmiss:typeLookup (.type "list") name=pure none) (hname:(["__module__","__name__","__qualname__","__doc__","__annotations__"]:List Str).contains name=false) (hA:A.handled=none)
 (h:∀h' tk,(∀b o,s.heap.get? b=some o->h'.get? b=some o)->Q none { s with heap:=h',toks:=tk }) (hsz:name.length+100<=sizeLine:=by size_fits) :
 wpAny (model prog w) A (getAttr? (.ref a) name) Q E s:=by
 obtain⟨c,dct,dat,sl⟩:=o
 simp only at hc hdat hd
 subst hc hdat hd
 obtain⟨hp,g,d,tk,os⟩:=s
 have hT:∀tk',(⟨hp,g,d,tk',os⟩:Shared).TypeIs (.ref a) "list":=fun _=>⟨_,hx,rfl⟩
 have f1:=sub_AttributeError
 have f3:=F.slot_list_getattribute.lookup
 have f4:=F.slot_list_getattribute.bind (.ref a)
 have f5:=am_list_getattr_none
 unfold getAttr? getAttrBy? getAttrBy
 repeat (any_goals (first |assumption |exact hT _ |((with_reducible show wpAny _ _ (call (Value.builtin "list.__getattribute__") _ _) _ _ _);refine call_meets F.slot_list_getattribute (hT _) am_entry_list_getattribute (F.args_list_getattribute_2 _ _) (meets_getattribute_miss_list a xs k sl name _ hmiss hname hsz) ⟨hx,hA,fun h' tk' e hx'=>?_⟩) |wp_step))
 obtain⟨t',u',he⟩:=hx'.there
 show wpAny _ _ (getattributeRaised _ _ _ _ _ _ _) _ _ _
 unfold getattributeRaised
 repeat (any_goals (first |assumption |wp_step))
 exact h _ _ hx'.keeps
theorem Sd:entryFor table "dict.update.loop" = some Builtin.«dict.update.loop»:=entryFor_of_tree (by kernel_rfl)
theorem ML:plainId "dict.update.loop" = true:=by decide +kernel
section
variable{X:Cx}{F:Fx}{o:Ops}{n:Nat}{st st':St}{A:Around}{T T' T'':Sm}{Q E:Value->Shared->Prop}{I:Iota}{c:Bool}{l:List V}{us:List Value}{prs:List (Int×V)}{r:R}{u:Value}
structure PrD(I:Iota)(T:Sm)(c:Bool)(p:Int×V)(u:Value)(a:Addr)(m:Nat)(t:Tok)(ux:Value):Prop where
 u:u=.ref a
 f:T.M.F a
 obj:T.s.heap.get? a=some (seqObj "tuple" (List.toArray [.int (I.f c p.1) t,ux]) m)
 rep:AA I T p.2 ux
theorem a9{d x:D}{q:Bool×Int}{C:D->Prop}(h:Nh d=some (q,x))(k:C (.tup [DO q,x])):C d:=by
 cases d with
 |tup l=>
  cases l with
  |nil=>exact nK h
  |cons y l=>
   cases l with
   |nil=>exact nK h
   |cons z l=>
    cases l with
    |cons _ _=>exact nK h
    |nil=>
     have h:(Dh y).map (fun q=>(q,z))=some (q,x):=h
     cases hq:Dh y with
     |none=>rw[hq] at h;cases h
     |some q'=>rw[hq] at h;cases h;exact Ko (C:=fun y=>C (.tup [y,_])) hq k
 |_=>exact nK h
theorem aA:∀{l:List V} {us:List Value} {prs:List (Int×V)},IA c l=some prs->A7 (AA I T) l us->A7 (fun p u=>∃a m t ux,PrD I T c p u a m t ux) prs us/\prs.length=l.length:=by
 intro l
 induction l with
 |nil=>intro us prs h r;cases h;exact⟨r,rfl⟩
 |cons v l ih=>
  intro us prs h r
  obtain⟨u,ws,rfl,r1,r2⟩:=r
  refine bK h fun d hd h=>bK h fun p hp h=>iK h fun hc h=>mK (C:=fun prs=>A7 (fun p u=>∃a m t ux,PrD I T c p u a m t ux) prs (u::ws)/\prs.length=l.length+1) h fun s hs=>?_
  have q:=ih hs r2
  refine⟨.cons ?_ q.1,A2 (·+1) q.2⟩
  obtain⟨⟨zb,zi⟩,x⟩:=p
  cases beq_iff_eq.mp hc
  refine JF (P:=fun v=>AA I T v u->_) hd (fun r1=>a9 (C:=fun d=>AR I T d u->_) hp (fun r1=>?_) r1) r1
  obtain⟨a,us,rfl,f,⟨m,o⟩,_,u1,w1,rfl,q1,u2,w2,rfl,q2,rfl⟩:=r1
  exact AR.num_k (P:=fun u1=>T.s.heap.get? a=some (seqObj "tuple" (List.toArray [u1,u2]) m)->∃a' m t ux,PrD I T zb (zi,.d x) (.ref a) a' m t ux) q1 (fun t o=>⟨a,m,t,u2,rfl,f,o,q2⟩) o
theorem aB{T₀:Sm}{d Ia la:Addr}{R:Result->Shared->Prop}(hh:A.handled=none)(hF:∀a,T₀.M.F a->a≠d/\a≠Ia)(hdI:d≠Ia)(hld:la≠d)(hlI:la≠Ia)(hz:prs.length<=lim)
 (hp:A7 (fun p u=>∃a m t ux,PrD I T₀ c p u a m t ux) prs us) (hlist:T₀.s.heap.IsList la us.toArray):∀(kk j:Nat) (h:Heap) (tk:Nat) (es:List (Int×V)) (kvs:List (Int×Value)),j+kk=prs.length->(∀b ob,b≠d->b≠Ia->T₀.s.heap.get? b=some ob->h.get? b=some ob)->
  h.IsListIter Ia la j->h.DictOf (intKind X.prog X.w) d kvs->BC I (T₀.hp h tk) c es kvs->kvs.length<=j->
  (∀h tk kvs',(∀b ob,b≠d->b≠Ia->T₀.s.heap.get? b=some ob->h.get? b=some ob)->h.DictOf (intKind X.prog X.w) d kvs'->BC I (T₀.hp h tk) c ((prs.drop j).foldl (fun es p=>BL p.1 p.2 es) es) kvs'->R (.ok (.ret .none)) { T₀.s with heap:=h,toks:=tk })->
  codeAny (model X.prog X.w) A (.builtin "dict.update.loop" ⟨[.ref d,.ref Ia,rawInt j,.none],[]⟩) R { T₀.s with heap:=h,toks:=tk }:=by
 intro kk
 induction kk with
 |zero=>
  intro j h tk es kvs hk hkeep hit hd hr hkl hR
  have hk:j=prs.length:=hk
  have hL:h.IsList la us.toArray:=hlist.at fun ob e=>hkeep la ob hld hlI e
  refine codeAny_builtin Sd ?_
  rw[Around.under_plainId ML _]
  show wpAny _ A.in1 (pyNext (.ref Ia) >>= _) _ _ _
  refine A6 (wpAny_pyNext_list_end hh hit hL (List.getElem?_toArray.trans (List.getElem?_eq_none (by rw[hp.length,hk];exact Am _))) fun h' he'=>?_)
  show wpAny _ A.in1 (Builtin.Dict.addKeywords d [] >>= _) _ _ _
  refine A6 (AM (AM ?_))
  rw[List.drop_eq_nil_of_le (BQ hk.symm)] at hR
  exact hR h' tk kvs (fun b ob h1 h2 e=>he' b ob h2 (hkeep b ob h1 h2 e)) (hd.at fun ob e=>he' d ob hdI e) (BC.mono (T:=T₀.hp h tk) (T':=T₀.hp h' tk) ⟨fun _ f=>f,fun b ob f e=>he' b ob (hF b f).2 e,Bw _⟩ hr)
 |succ kk ih=>
  intro j h tk es kvs hk hkeep hit hd hr hkl hR
  have hlt:j < prs.length:=by rw[<-hk];exact Ei (CC _)
  have hL:h.IsList la us.toArray:=hlist.at fun ob e=>hkeep la ob hld hlI e
  obtain⟨uj,hju,a,m,t,ux,P⟩:=hp.get (D3 hlt)
  refine codeAny_builtin Sd ?_
  rw[Around.under_plainId ML _]
  show wpAny _ A.in1 (pyNext (.ref Ia) >>= _) _ _ _
  refine A6 (wpAny_pyNext_list_item hit hL (x:=uj) (List.getElem?_toArray.trans hju) fun h₁ hit₁ hs₁=>?_)
  have hk₁:∀b ob,b≠d->b≠Ia->T₀.s.heap.get? b=some ob->h₁.get? b=some ob:=fun b ob e1 e2 e=>(hs₁.2 b e2).trans (hkeep b ob e1 e2 e)
  have o2:=hk₁ a _ (hF a P.f).1 (hF a P.f).2 P.obj
  rw[P.u]
  dsimp only
  refine A6 (DJ (A6 (wpAny_tryCatch ?_)))
  unfold Builtin.Dict.pairItems
  refine A6 (wpAny_typeOf (T:="tuple") ⟨_,o2,rfl⟩ ?_)
  rw[A5 (by decide)]
  refine A6 (wpAny_seqItems o2 rfl (AM ?_))
  show wpAny _ _ (holding _ (dictSet d (.int (I.f c prs[j].1) t) ux)) _ _ _
  refine DJ (wpAny_dictSet_pairs (s:={ T₀.s with heap:=h₁,toks:=tk }) (intKind_is X.prog X.w (I.f c prs[j].1) t) (hd.at fun ob e=>(hs₁.2 d hdI).trans e) (fun h₂ hd₂ hs₂=>AM ⟨plainId_quiet ML _,?_⟩) (A9 hkl (A9 (BH hlt) (A9 hz JM))))
  have hk₂:∀b ob,b≠d->b≠Ia->T₀.s.heap.get? b=some ob->h₂.get? b=some ob:=fun b ob e1 e2 e=>(hs₂.2 b e1).trans (hk₁ b ob e1 e2 e)
  have hr₂:BC I (T₀.hp h₂ (tk+1)) c es kvs:=BC.mono (T:=T₀.hp h tk) (T':=T₀.hp h₂ (tk+1)) ⟨fun _ f=>f,fun b ob f e=>(hs₂.2 b (hF b f).1).trans ((hs₁.2 b (hF b f).2).trans e),Bw _⟩ hr
  have rx₂:AA I (T₀.hp h₂ (tk+1)) prs[j].2 ux:=AA.mono (T:=T₀) (T':=T₀.hp h₂ (tk+1)) ⟨fun _ f=>f,fun b ob f e=>hk₂ b ob (hF b f).1 (hF b f).2 e,Bw _⟩ P.rep
  have hnd:(kvs.map (·.1)).Nodup:=hd.elim fun _ q=>q.elim fun _ q=>q.elim fun _ q=>q.2.2.2.2.2
  have rs:=BC.set (k:=prs[j].1) rx₂ hr₂ hnd
  have:=ih (j+1) h₂ (tk+1) (BL prs[j].1 prs[j].2 es) (stored kvs (I.f c prs[j].1) ux) (by rw[<-hk,DG];rfl) hk₂ (hit₁.at fun ob e=>(hs₂.2 Ia (Ne.symm hdI)).trans e) hd₂ rs (by rw[rs.length];exact A9 (OK es) (DH (hr₂.length▸hkl))) (fun h' tk' kvs' a1 a2 a3=>hR h' tk' kvs' a1 a2 (by rw[List.drop_eq_getElem_cons hlt,List.foldl_cons];exact a3))
  exact this
theorem aC{es:List (Int×V)}:(prs.foldl (fun es p=>BL p.1 p.2 es) es).length<=es.length+prs.length:=by
 induction prs generalizing es with
 |nil=>exact Am _
 |cons p prs ih=>exact A9 ih (by rw[DD,Nat.add_comm prs.length 1,<-Dd];exact EP (OK es) _)
theorem aD(HT:Top X){σ:List Cell}(hA:AO A n)(i:Inv X F st T)(hr:RR X F T' T r u)(he:R2 st.store r=some σ)(k:KR X F T Q (.val (.loc st.store.length),st.sto σ)):WP X A (call (.type "dict") [u]) Q E T:=
 bK he fun l hl he=>mQ (C:=fun σ=>KR X F T Q (.val (.loc st.store.length),st.sto σ)) he k fun prs hp k=>lst_k (C:=fun u=>WP X A (call (.type "dict") [u]) Q E T) i.mid hr hl fun la us ⟨m,o1⟩ r1 z1=>by
  have hpl:=aA hp r1
  have hz:prs.length<=lim:=hpl.2▸z1
  have hla:la < T.s.heap.objs.size:=Co o1
  refine callType_codes (Q₁:=fun obj s₁=>obj=.ref T.s.heap.objs.size/\s₁={ T.s with heap:=T.s.heap.push { cls:=.type "dict",data:=.dict #[] } }) PySem.F.kt_called_dict (PySem.F.kt_typeCall_dict_1 _) PySem.F.entry_dict_init (kt_code_dict_new _ ⟨rfl,rfl⟩) ?_
  rintro obj s₁ ⟨rfl,rfl⟩
  have hnew:(T.s.heap.push { cls:=.type "dict",data:=.dict #[] }).DictOf (intKind X.prog X.w) T.s.heap.objs.size []:=Heap.DictOf.new T.s.heap
  have o2:(T.s.heap.push { cls:=.type "dict",data:=.dict #[] }).get? la=some (seqObj "list" us.toArray m):=DZ _ o1
  refine⟨hnew.typeIs,PySem.F.args_dict_init_2 _ _,?_⟩
  unfold Builtin.«dict.__init__» Builtin.Dict.selfAndRest
  refine A6 (A6 (wpAny_notOrdered_dict hnew.typeIs ?_))
  show wpAny _ _ (pure (T.s.heap.objs.size,[Value.ref la])) _ _ _
  refine AM ?_
  show wpAny _ _ (Builtin.Dict.updateFrom "dict.__init__" T.s.heap.objs.size (.ref la) [] .none) _ _ _
  unfold Builtin.Dict.updateFrom
  refine A6 (wpAny_typeOf (T:="list") ⟨_,o2,rfl⟩ ?_)
  rw[A5 (by decide)]
  refine A6 (a8 (s:={ T.s with heap:=T.s.heap.push { cls:=.type "dict",data:=.dict #[] } }) o2 rfl rfl rfl a7 (by decide) hA.h (fun h₁ tk₁ hk₁=>?_) (by decide))
  rw[A5 (c:=(none:Option Value).isNone=true) rfl]
  refine A6 (wpAny_rule ?_)
  have o3:h₁.get? la=some (seqObj "list" us.toArray m):=hk₁ _ _ o2
  have hL3:h₁.IsList la us.toArray:=⟨_,o3,rfl,m,rfl⟩
  refine A6 (wpAny_pyIter_list (s:={ T.s with heap:=h₁,toks:=tk₁ }) hL3 (AM ⟨plainId_quiet ML _,?_⟩))
  have hd3:h₁.DictOf (intKind X.prog X.w) T.s.heap.objs.size []:=hnew.keep hk₁
  have hsz:T.s.heap.objs.size < h₁.objs.size:=hd3.elim fun ob q=>q.elim fun _ q=>q.elim fun _ q=>Co q.1
  have kp:=DS h₁ { cls:=.type "list_iterator",data:=.fields #[.ref la,.int 0 0] }
  have kall:∀b ob,T.s.heap.get? b=some ob->(h₁.push { cls:=.type "list_iterator",data:=.fields #[.ref la,.int 0 0] }).get? b=some ob:=fun b ob e=>kp b ob (hk₁ b ob (DZ _ e))
  have big:∀b,Al T.s.heap b->b≠T.s.heap.objs.size/\b≠h₁.objs.size:=fun b q=>⟨CA q.lt,CA (AN q.lt hsz)⟩
  have mo:Mono T (T.hp (h₁.push { cls:=.type "list_iterator",data:=.fields #[.ref la,.int 0 0] }) tk₁):=⟨fun _ f=>f,fun b ob _=>kall b ob,Bw _⟩
  refine aB (X:=X) (A:=A.in1) (I:=X.I) (T₀:=T.hp (h₁.push { cls:=.type "list_iterator",data:=.fields #[.ref la,.int 0 0] }) tk₁) (d:=T.s.heap.objs.size) (Ia:=h₁.objs.size) (la:=la) (us:=us) (prs:=prs) (c:=Dj l) (R:=PySem.wants (fun r s₂=>r=Value.none/\Q (.ref T.s.heap.objs.size) s₂) E) hA.h (fun b f=>big b (i.mid.fal b f)) (CA hsz) (big la ⟨_,o1⟩).1 (big la ⟨_,o1⟩).2 hz
   (hpl.1.imp fun p u=>Exists.imp fun a=>Exists.imp fun m=>Exists.imp fun t=>Exists.imp fun ux P=>⟨P.u,P.f,kall _ _ P.obj,P.rep.mono mo⟩) (hL3.at fun ob e=>kp _ _ e) prs.length 0 _ tk₁ [] [] (De _) (fun b ob _ _ e=>e) ⟨_,D2 _ rfl,rfl,rfl⟩ (hd3.keep kp) rfl (BK _) fun h tk kvs' hk hd hr=>⟨rfl,?_⟩
  have a₂:AE X F T st (T.hp h tk):=.grow i fun b ob e=>hk b ob (big b ⟨_,e⟩).1 (big b ⟨_,e⟩).2 (kall b ob e)
  have hnA:=EU T.s.heap
  have a₃:=a₂.new (a:=T.s.heap.objs.size) (g:=[T.s.heap.objs.size]) (c:=.dct (Dj l) (Cq prs)) (fun b hb=>by rw[Ar.mp hb];exact⟨fun q=>hnA (i.mid.fal _ q),fun q=>hnA (q.elim i.wal i.faal),hnA⟩) (BZ.mpr ⟨B3,Ca⟩)
   ⟨rfl,kvs',hd,BC.mono (T:=T.hp h tk) (.new _ _) hr,A9 (De prs.length▸aC (es:=[])) hz⟩
  exact k _ _ a₃ ⟨T.s.heap.objs.size,by show(T.M.ad++[T.s.heap.objs.size])[st.store.length]?=_;rw[<-i.mid.la];exact Gd,rfl⟩
end
open PySem PyProof.Rows PySem.Calls PySem.W PySem.Spec
theorem Se{c:Bool}{es:List (Int×V)}:∀{ds:List D},IB c es=some ds->ds.length=es.length/\∀{j:Nat} {d:D},ds[j]?=some d->∃p x,es[j]?=some p/\p.2=.d x/\d=.tup [DO (c,p.1),x]:=by
 induction es with
 |nil=>intro ds h;cases h;exact⟨rfl,fun e=>by cases e⟩
 |cons p es ih=>
  intro ds h
  refine bK h fun x hx h=>mK (C:=fun ds=>ds.length=es.length+1/\∀{j:Nat} {d:D},ds[j]?=some d->∃q x,(p::es)[j]?=some q/\q.2=.d x/\d=.tup [DO (c,q.1),x]) h fun s hs=>⟨A2 (·+1) (ih hs).1,fun {j d} e=>?_⟩
  cases j with
  |zero=>cases e;exact⟨p,x,rfl,JF (P:=fun v=>v=.d x) hx rfl,rfl⟩
  |succ j=>exact(ih hs).2 (j:=j) e
section
variable{X:Cx}{F:Fx}{o:Ops}{n:Nat}{st st':St}{A:Around}{T T' T'':Sm}{Q E:Value->Shared->Prop}{I:Iota}{c:Bool}{l:List V}{us:List Value}{r:R}{u:Value}{a:Addr}{j:Nat}{b:Bool}{es:List (Int×V)}{kvs:List (Int×Value)}{ds:List D}{P:Heap->Addr->List Int->Prop}{p:R×St}{e:Expr}{f:Str}{ap pos:Pos}
theorem aE(HT:Top X){vw:Addr}(hA:AO A n)(i:Inv X F st T)(D:DctAt X T j a b es kvs)(hv:T.s.heap.IsItemsView vw a)(hi:IB b es=some ds)(hok:Gj ds=true)(k:KR X F T Q (.fresh ((Bn kd ds).map .d),st)):WP X A (call (.builtin "sorted") [.ref vw]) Q E T:=
 M8 HT i (fun {Q' E'} k'=>by
  obtain⟨ep,hAt⟩:=D.obj.dictAt
  refine kdx_collect (knd:=intKind X.prog X.w) (kvs:=kvs) (ep:=ep) hA.h hv hAt (D.rep.lim D.len) fun h' tk as hk hl hg=>?_
  have a₁:AE X F T st (T.hp h' tk):=.grow i hk
  have hnew:∀a∈as,¬Al T.s.heap a:=fun a ha q=>absurd q.lt (C2.mpr (BH (hg.above a ha)))
  refine k' (as.map .ref) _ ds (a₁.frz (P:=(·∈as)) fun a ha=>⟨?_,fun f=>hnew a ha (f.elim i.wal i.faal),hnew a ha⟩) (A7.ext (by rw[A4,hl,D.rep.length,(Se hi).1]) fun j d u e1 e2=>?_) hok rfl
  ·obtain⟨j,hj⟩:=List.mem_iff_getElem?.mp ha
   obtain⟨_,_,_,_,_,e⟩:=hg.pairs j a hj
   exact⟨_,e⟩
  ·rw[C0] at e2
   refine mK (C:=fun u=>AR X.I ((T.hp h' tk).mm (T.M.frz (·∈as))) d u) e2 fun a e2=>?_
   obtain⟨key,k₁,x₁,q1,q2,q3⟩:=hg.pairs j a e2
   obtain⟨t,rfl⟩:=MA q2
   obtain⟨p,q4,rfl,q5⟩:=D.rep.get q1
   obtain⟨p',x,q6,q7,rfl⟩:=(Se hi).2 e1
   cases q4.symm.trans q6
   rw[q7] at q5
   have q5:AR X.I T x x₁:=q5
   exact⟨a,[.int (X.I.f b p.1) t,x₁],rfl,.inr (Fa e2),⟨0,q3⟩,by show 2<=1000000;decide,_,_,rfl,AR.num (b,p.1) t,_,_,rfl,(q5.mono (a₁.mono)).mono (.frz _),rfl⟩) k
theorem aF(H:Snd X o n)(HT:Top X){b:Expr}(hA:AO A n)(hok:Dn b ap pos 0=true)(he:Nm o F.fn b st=some p)(i:Inv X F st T)(k:KR X F T Q p):WP X A (eval (.Call (.Attribute b "items" ap) [] [] pos) F.env) (fun u s=>wpAny (model X.prog X.w) A (call (.builtin "sorted") [u]) Q E s) E T:=
 SQ H hok (st':=st) (p:=([],st)) rfl (FL H hA i he fun q u T₁ a₁ r₁ he pl=>bK he fun d hd he=>bK he fun l hl he=>mQ he k fun l' hl' k=>M9 (C:=fun l'=>KR X F T Q (.fresh (l'.map .d),q.2)->_) hl' (fun ho k=>Kj (C:=fun u=>wpAny (model X.prog X.w) A (getMethod u "items" pl) _ E T₁.s) a₁.inv.mid r₁ hd fun j a kvs D=>by
  have hs:=D.nosys HT a₁.inv.mid
  refine getMethod_builtin D.obj.typeIs PySem.F.plainAttrs_dict PySem.F.slot_dict_items PySem.F.type_dict_items (fun a' e=>by cases e;exact D.obj.imp fun ob z=>z.elim fun _ z=>z.elim fun _ z=>⟨z.1,z.2.1.2.1⟩) ?_
  refine SR rfl (PyProof.Rows.evalArgs_none ?_)
  refine call_meetsIn PySem.F.slot_dict_items D.obj.typeIs PySem.F.entry_dict_items (PySem.F.args_dict_items_1 _) (meets_dict_items (intKind X.prog X.w) a hs) ⟨⟨kvs,D.obj⟩,?_⟩
  have hk:=DS T₁.s.heap { cls:=.type "dict_items",data:=.fields #[.ref a] }
  have a₂:AE X F T₁ q.2 (T₁.hp (T₁.s.heap.push { cls:=.type "dict_items",data:=.fields #[.ref a] }) T₁.s.toks):=.grow a₁.inv hk
  exact aE HT hA a₂.inv ⟨D.ad,D.wf,D.obj.keep hk,D.rep.mono a₂.mono,D.len⟩ ⟨_,D2 _ rfl,rfl,rfl⟩ hl ho (k.then (a₁.trans a₂))) k)
theorem BC.keys:∀{kvs:List (Int×Value)},BC I T false es kvs->kvs.map (·.1)=es.map (·.1):=by
 induction es with
 |nil=>intro kvs h;cases h;rfl
 |cons p es ih=>intro kvs h;obtain⟨v,ws,rfl,_,r⟩:=h;exact A2 (p.1::·) (ih r)
structure SetK(d:Bool×List (Int×V)):Prop where
 b:d.1=false
 len:d.2.length<=20
 k:∀k∈d.2.map (·.1),0<=k/\k < 64
theorem JT{d:Bool×List (Int×V)}(h:Kb d=true):SetK d:=
 Ad h fun h h3=>Ad h fun h1 h2=>⟨(FY _).mp h1,BP h2,fun k hk=>by
  obtain⟨p,hp,rfl⟩:=BU.mp hk
  have q:=CO.mp h3 p hp
  exact Ad q fun a b=>⟨BP a,BP b⟩⟩
theorem Sg(H:Snd X o n)(HT:Top X)(S:SetG X.prog X.w P){x:Expr}{d:Bool×List (Int×V)}(hA:AO A n)(hb:DQ X.G F.fn "set" = true)(h1:o.ev F.fn x st=some p)(h2:Ek p.2.store p.1=some d)(hok:SetK d)(i:Inv X F st T)
 (k:∀a T',AE X F T p.2 T'->¬Al T.s.heap a->¬T'.M.W a->P T'.s.heap a (d.2.map (·.1))->Q (.ref a) T'.s):WP X A (eval (.Call (.Name "set" ap) [x] [] pos) F.env) Q E T:=
 IP HT hb (v:=.type "set") rfl (.inr ⟨_,rfl⟩) (GG H h1) i (H.ev hA h1 i fun u T₁ a₁ r₁=>Kj (C:=fun u=>wpAny (model X.prog X.w) A (call (.type "set") [u]) Q E T₁.s) a₁.inv.mid r₁ h2 fun j a kvs D=>by
  have hr:=D.rep
  rw[hok.b] at hr
  have hkeys:=hr.keys
  refine S.make hA.h (D.nosys HT a₁.inv.mid) D.obj (hr.length▸hok.len) (fun q hq=>hok.k q.1 (hkeys▸List.mem_map_of_mem hq)) fun h' tk c hk hc hp=>?_
  rw[hkeys] at hp
  exact k c _ (a₁.trans (.grow a₁.inv hk)) (fun q=>hc (a₁.ext.al _ q)) (fun q=>hc (a₁.inv.wal q)) hp)
theorem aG(H:Snd X o n)(HT:Top X)(S:SetG X.prog X.w P){x y:Expr}{p₁ p₂ p₃ q₁ q₂:Pos}(hA:AO A n)(hb:DQ X.G F.fn "set" = true)(he:Nn o F.fn x y st=some p)(i:Inv X F st T)(k:KR X F T Q p) :
 WP X A (eval (.BinOp (.Call (.Name "set" p₁) [x] [] q₁) .BitOr (.Call (.Name "set" p₂) [y] [] q₂) p₃) F.env) (fun u s=>wpAny (model X.prog X.w) A (call (.builtin "sorted") [u]) Q E s) E T:=
 bK he fun q h1 he=>bK he fun d h2 he=>bK he fun q' h3 he=>bK he fun d' h4 he=>iK he fun hok he=>Ad hok fun ho ho'=>mQ he k fun l hl k=>M9 (C:=fun l=>KR X F T Q (.fresh (l.map .d),q'.2)->_) hl (fun hs k=>wpAny_BinOp (Sg H HT S hA hb h1 h2 (JT ho) i fun a T₁ a₁ na nw pa=>Sg H HT S hA hb h3 h4 (JT ho') a₁.inv fun b T₂ a₂ nb _ pb=>by
  have pa₂:=S.keep pa fun ob e=>a₂.ext.keep a ob e nw
  refine S.union hA.h (fun e=>nb (e▸S.al pa)) pa₂ pb (A4 (as:=d.2) (·.1)▸(JT ho).len) (A4 (as:=d'.2) (·.1)▸(JT ho').len) (JT ho).k (JT ho').k fun h' tk c hk hc pc=>?_
  have a₃:AE X F T₂ q'.2 (T₂.hp h' tk):=.grow a₂.inv hk
  refine M8 (T:=T₂.hp h' tk) HT a₃.inv (fun {Q' E'} k'=>S.coll hA.h pc fun h₄ tk₄ vs ns hk₄ hI hperm=>k' vs _ (ns.map .int) (.grow a₃.inv hk₄) (Rt hI) ?_ (YJ hperm)) (k.then ((a₁.trans a₂).trans a₃))
  refine Bb.mpr ⟨?_,Iz.mpr (.inl (Iz.mpr (.inl (YI ns))))⟩
  rw[A4,hperm.length_eq,<-A4 (f:=D.int)]
  exact(Bb.mp hs).1)) k
end
open PySem PyProof.Rows PySem.Calls PySem.W PySem.Spec
open PySem PyProof.Rows PySem.Calls PySem.W PySem.Spec
theorem Sh{c:Bool}{α:Type}{C:α->Prop}{x y:α}(h:c=true->C x)(h':C y):C (if c=true then x else y):=by
 cases c with
 |true=>exact h rfl
 |false=>exact h'
theorem Si{α β:Type}{C:β->Prop}{x:Option α}{f:α->β}{b:β}(h:∀a,x=some a->C (f a))(h':C b):C (Av x f b):=by
 cases x with
 |none=>exact h'
 |some a=>exact h a rfl
noncomputable def Form.Is(G:Gl)(fn:Fn)(e:Expr):Form->Prop
 |.items b=>∃ap pos,Dn b ap pos 0=true/\e=.Call (.Attribute b "items" ap) [] [] pos
 |.union x y=>DQ G fn "set" = true/\∃p₁ q₁ p₂ q₂ p₃,e=.BinOp (.Call (.Name "set" p₁) [x] [] q₁) .BitOr (.Call (.Name "set" p₂) [y] [] q₂) p₃
 |.plain=>True
theorem Sj{g:Str}{e x:Expr}{C:Expr->Prop}(h:No g e=some x)(k:∀p q,C (.Call (.Name g p) [x] [] q)):C e:=
 bK h fun fa hf h1=>pK h1 fun hg h2=>Nv hf fun p q=>by
  obtain⟨f,as⟩:=fa
  cases hg
  exact Ep (C:=fun as=>C (.Call (.Name f p) as [] q)) h2 (k p q)
theorem aH(G:Gl)(fn:Fn)(e:Expr):(R3 G fn e).Is G fn e:=by
 cases e with
 |Call f as ks pos=>
  cases ks with
  |cons _ _=>exact trivial
  |nil=>
   cases f with
   |Attribute b m ap=>exact Sh (C:=Form.Is G fn _) (fun h=>Ad h fun h hok=>Ad h fun hm ha=>by cases BP hm;exact Gs (C:=fun as=>Form.Is G fn (.Call (.Attribute b "items" ap) as [] pos) (.items b)) ha ⟨ap,pos,hok,rfl⟩) trivial
   |_=>exact trivial
 |BinOp l op r p=>
  cases op with
  |BitOr=>exact Sh (C:=Form.Is G fn _) (fun hb=>Si (C:=Form.Is G fn _) (fun x hx=>Si (C:=Form.Is G fn _) (fun y hy=>Sj (C:=fun l=>Form.Is G fn (.BinOp l .BitOr r p) (.union x y)) hx fun p₁ q₁=>Sj (C:=fun r=>Form.Is G fn (.BinOp (.Call (.Name "set" p₁) [x] [] q₁) .BitOr r p) (.union x y)) hy fun p₂ q₂=>⟨hb,p₁,q₁,p₂,q₂,p,rfl⟩) trivial) trivial) trivial
  |_=>exact trivial
 |_=>exact trivial
section
variable{X:Cx}{K:Frag}{F:Fx}{o:Ops}{n:Nat}{st st':St}{A:Around}{T T' T'':Sm}{Q E:Value->Shared->Prop}{P:Heap->Addr->List Int->Prop}{p:R×St}{e:Expr}{f:Str}{ap pos:Pos}
theorem aI(H:Snd X o n)(HT:Top X)(S:SetG X.prog X.w P){fm:Form}(hA:AO A n)(hb:DQ X.G F.fn f=true)(hf:fm.Is X.G F.fn e)(he:R4 o F.fn f e st fm=some p)(i:Inv X F st T)(k:KR X F T Q p):WP X A (eval (.Call (.Name f ap) [e] [] pos) F.env) Q E T:=by
 cases fm with
 |items b=>obtain⟨ap',pos',hok,rfl⟩:=hf;exact pK he fun hs he=>IP HT hb (v:=.builtin "sorted") (hs▸rfl) (.inl ⟨_,rfl⟩) rfl i (aF H HT hA hok he i k)
 |union x y=>obtain⟨hB,p₁,q₁,p₂,q₂,p₃,rfl⟩:=hf;exact pK he fun hs he=>IP HT hb (v:=.builtin "sorted") (hs▸rfl) (.inl ⟨_,rfl⟩) rfl i (aG H HT S hA hB he i k)
 |plain=>
  exact eK he (fun hs he=>bK he fun q h1 he=>mQ he k fun σ hσ k=>IP HT hb (v:=.type "dict") (hs▸rfl) (.inr ⟨_,rfl⟩) (GG H h1) i (H.ev hA h1 i fun u T₁ a₁ r₁=>aD HT hA a₁.inv r₁ hσ (k.then a₁)))
   fun he=>bK he fun q h1 he=>mQ he k fun r hr k=>by
    have hv:∃v,JG.lookup f=some v/\((∃id,v=.builtin id)\/∃id,v=.type id):=by
     have q:=hr
     exact eK q (fun h _=>⟨.builtin "len",h▸rfl,.inl ⟨_,rfl⟩⟩) fun q=>eK q (fun h _=>⟨.type "list",h▸rfl,.inr ⟨_,rfl⟩⟩) fun q=>eK q (fun h _=>⟨.type "tuple",h▸rfl,.inr ⟨_,rfl⟩⟩) fun q=>eK q (fun h _=>⟨.builtin "sorted",h▸rfl,.inl ⟨_,rfl⟩⟩) fun q=>eK q (fun h _=>⟨.builtin "max",h▸rfl,.inl ⟨_,rfl⟩⟩) fun q=>eK q (fun h _=>⟨.builtin "min",h▸rfl,.inl ⟨_,rfl⟩⟩) fun q=>eK q (fun h _=>⟨.builtin "sum",h▸rfl,.inl ⟨_,rfl⟩⟩) fun q=>nK q
    obtain⟨v,hv,hform⟩:=hv
    exact IP HT hb hv hform (GG H h1) i (H.ev hA h1 i fun u T₁ a₁ r₁=>YV HT hA a₁.inv r₁ hr (k.then a₁) fun v' B=>by cases hv.symm.trans B.val;exact B.wp)
theorem aJ(H:Snd X o n)(HT:Top X){q:Expr×Expr}(hA:AO A n)(hb:DQ X.G F.fn "max" = true)(he:Np o F.fn q st=some p)(i:Inv X F st T)(k:KR X F T Q p):WP X A (eval (.Call (.Name "max" ap) [q.1,q.2] [] pos) F.env) Q E T:=by
 refine wpAny_Call_Name_kw (M4 HT hb (v:=.builtin "max") rfl i ?_)
 refine bK he fun a ha he=>mQ he k fun b hb k=>?_
 have st1:∀{e:Expr} {st:St} {a:Int×St} {es:List Expr},Fg o F.fn e st=some a->backTo pos (starEach (e::es) F.env)=(false,eval e F.env)::backTo pos (starEach es F.env):=fun h=>bK h fun _ h _=>bK h fun _ h _=>GG H h
 rw[st1 ha,st1 hb]
 refine callWith_builtin rfl (evalArgs_plain (spliced_cons (Kg H hA i (f:=some) (y:=a) (A2 (Option.bind · some) ha) fun a' t T₁ a₁ e=>?_)))
 cases e
 refine spliced_cons (Kg H hA a₁.inv (f:=some) (y:=b) (A2 (Option.bind · some) hb) fun b' u T₂ a₂ e=>?_)
 cases e
 refine spliced_nil (max_two_ints hA.h fun h' tk hk=>?_)
 have a₃:=(a₁.trans a₂).trans (.grow a₂.inv hk (tk:=tk))
 by_cases hlt:a.1 < b.1
 ·have:=k (.int b.1 u) _ a₃ (by rw[A5 hlt];exact⟨u,rfl⟩)
  rw[A5 hlt];exact this
 ·have:=k (.int a.1 t) _ a₃ (by rw[A3 hlt];exact⟨t,rfl⟩)
  rw[A3 hlt];exact this
theorem aK(H:Snd X o n)(HT:Top X)(Y:ClsG X K)(S:SetG X.prog X.w P){as:List Expr}(hA:AO A (n+1))(he:Fj X.G o F.fn f as st=some p)(i:Inv X F st T)(k:KR X F T Q p):WP X A (eval (.Call (.Name f ap) as [] pos) F.env) Q E T:=
 have hA':AO A n:=hA.less (Cb _)
 iK he fun hx he=>eK he (fun hc he=>ZZ H HT Y hA hx hc he i k) fun he=>oK he (fun g hg he=>bK he fun q h1 he=>ZX H HT hA' hx hg h1 he i k) fun _ he=>iK he fun hb he=>oK he (fun q hq he=>pK he fun hf he=>IN (C:=fun as=>WP X A (eval (.Call (.Name f ap) as [] pos) F.env) Q E T) hq (hf▸aJ H HT hA' (hf▸hb) he i k)) fun _ he=>bK he fun e h1 he=>
  Ep (C:=fun as=>WP X A (eval (.Call (.Name f ap) as [] pos) F.env) Q E T) h1 (aI H HT S hA' hb (aH _ _ e) he i k)
theorem aL(H:Snd X o n)(Y:ClsG X K){v:Expr}{a:Str}(hA:AO A n)(he:R7 X.G o F.fn v a st=some p)(i:Inv X F st T)(k:KR X F T Q p):WP X A (eval (.Attribute v a pos) F.env) Q E T:=
 iK he fun hc he=>Ad hc fun hf hb=>by
  unfold WP
  rw[arm_eval_Attribute,SP ((FY _).mp hb)]
  exact A6 (Kh H hA i he fun q a T₁ a₁ ha he=>A6 (G8 (bK he fun fs hc he=>mQ he k fun w hw k=>A6 (DJ (ZC Y a₁.inv ha hc hf hw fun u T₂ a₂ r₂=>A6 (wpAny_letTemporaryGo (AM (k u T₂ (a₁.trans a₂) r₂))))))))
theorem aM(H:Snd X o n)(HT:Top X)(Y:ClsG X K)(S:SetG X.prog X.w P)(hA:AO A (n+1))(he:R9 X.G o F.fn e st=some p)(i:Inv X F st T)(k:KR X F T Q p):WP X A (eval e F.env) Q E T:=by
 have hA':AO A n:=hA.less (Cb _)
 cases e with
 |Constant c kk pos=>exact XN he i k
 |Name x pos=>exact XM HT he i k
 |List es pos=>exact XO H hA' he i k
 |Tuple es kk pos=>exact XQ H hA' he i k
 |ListComp elt gs sc pos=>exact Za H HT hA' he i k
 |Subscript v e pos=>exact Xl H HT hA' he i k
 |Attribute v a pos=>exact aL H Y hA' he i k
 |BinOp l op rr pos=>exact wpAny_BinOp (FL H hA' i he fun q u T₁ a₁ r₁ he=>FL H hA' a₁.inv he fun q' u' T₂ a₂ r₂ he=>mQ he k fun x hx k=>XW HT a₂.inv (r₁.mono a₂) r₂ hx (k.then (a₁.trans a₂)))
 |IfExp t b e pos=>
  exact bK he fun q h1 he=>wpAny_IfExp (H.tt hA' h1 i fun T₁ a₁=>by
   revert he
   cases q.1 with
   |true=>exact fun he=>H.ev hA' he a₁.inv (k.then a₁)
   |false=>exact fun he=>H.ev hA' he a₁.inv (k.then a₁))
 |UnaryOp op x pos=>
  cases op with
  |USub=>exact wpAny_UnaryOp (Nu H hA' i he k fun q t T₁ a₁ k=>PySem.P.neg_int (k _ _ (a₁.trans (.tok a₁.inv _)) ⟨_,rfl⟩))
  |_=>exact nK he
 |Dict ks vs pos=>
  refine iK he fun hc he=>Ad hc fun h1 h2=>Gs (C:=fun ks=>WP X A (eval (.Dict ks vs pos) F.env) Q E T) h1 (Gs (C:=fun vs=>WP X A (eval (.Dict [] vs pos) F.env) Q E T) h2 (wpAny_Dict_empty ?_))
  have a₂:AE X F T st (T.hp (T.s.heap.push { cls:=.type "dict",data:=.dict #[] }) T.s.toks):=.grow i (DS _ _)
  have hnA:=EU T.s.heap
  have a₃:=a₂.new (a:=T.s.heap.objs.size) (g:=[T.s.heap.objs.size]) (c:=.dct false []) (fun b hb=>by rw[Ar.mp hb];exact⟨fun q=>hnA (i.mid.fal _ q),fun q=>hnA (q.elim i.wal i.faal),hnA⟩) (BZ.mpr ⟨B3,Ca⟩) ⟨rfl,[],Heap.DictOf.new T.s.heap,rfl,BK _⟩
  exact sQ he k _ _ a₃ ⟨T.s.heap.objs.size,by show(T.M.ad++[T.s.heap.objs.size])[st.store.length]?=_;rw[<-i.mid.la];exact Gd,rfl⟩
 |Call f as kws pos=>
  cases kws with
  |cons _ _=>exact nK he
  |nil=>
   cases f with
   |Name x px=>exact aK H HT Y S hA he i k
   |Attribute b m ap=>exact iK he fun hok he=>ZW H HT Y hA' hok he i k
   |_=>exact nK he
 |_=>exact nK he
theorem snd(HT:Top X)(Y:ClsG X K)(S:SetG X.prog X.w P):∀n,Snd X (AU X.G n) n:=by
 have key:∀n,Snd X (AU X.G n) n/\∀fn,Ks X (AU X.G n) n fn:=by
  intro n
  induction n with
  |zero=>exact⟨⟨fun _ _ _ _=>rfl,fun _ _ _ _ _=>rfl,fun _ _ _ _ _ _=>rfl,fun _ _ _ _ _ _ _=>rfl,fun _ h=>nK h,fun _ h=>nK h,fun _ h=>nK h,fun _ h=>nK h⟩,fun _ _ _ _ _ _ _ h=>nK h⟩
  |succ n ih=>
   obtain⟨H,HE⟩:=ih
   exact⟨⟨fun _ _ _ _=>rfl,fun _ _ _ _ _=>rfl,fun _ _ _ _ _ _=>rfl,fun _ _ _ _ _ _ _=>rfl,fun hA h i k=>aM H HT Y S hA h i k,fun hA h i k=>Y0 H HT (hA.less (Cb _)) h i k,fun hA h i k=>a6 H HT Y (HE _) (hA.less (Cb _)) h i k,fun hA h hf m hr k=>Z8 H HT hA h hf m hr k⟩,fun fn _ _ _ _ _ _ h=>⟨AU X.G n,n,Cb _,H,h⟩⟩
 exact fun n=>(key n).1
end
open PySem
abbrev pw:Program:=Challenge.pw_sx_r033_3
noncomputable def C5(hm sh:Bool)(mv:List Str):Stmt->Fn
 |.FunctionDef _ a b _ _ _ sc _ _ _=>⟨a.args.map (·.arg),b,sc.names,hm,sh,mv⟩
 |_=>⟨[],[],[],hm,sh,mv⟩
noncomputable def aN:Stmt->List Stmt
 |.ClassDef _ _ _ b _ _ _ _ _ _ _=>b
 |_=>[]
noncomputable def B5(k:Nat):Stmt:=pw.main.body[k]?.getD (.Pass default)
noncomputable def DT(k:Nat):Stmt:=(aN (B5 1))[k]?.getD (.Pass default)
noncomputable def OR:Nat->Expr->D
 |_,.Constant (.int i) _ _=>.int i
 |_,.Constant (.str s) _ _=>.str s
 |n+1,.Tuple es _ _=>.tup (es.map (OR n))
 |n+1,.List es _=>.lst (es.map (OR n))
 |_,_=>.none
noncomputable def Fm:Stmt->D
 |.Assign _ e _=>OR 10 e
 |_=>.none
noncomputable def Gw:Fn:=C5 true true [] (DT 0)
noncomputable def Sk:Fn:=C5 true true [] (DT 1)
noncomputable def JU:Fn:=C5 true true [] (DT 2)
noncomputable def Hg:Fn:=C5 true true [] (DT 3)
noncomputable def Sn:Fn:=C5 true true [] (DT 4)
noncomputable def Er:Fn:=C5 true true [] (DT 5)
noncomputable def OS:Fn:=C5 true true [] (DT 6)
noncomputable def Ch:Fn:=C5 true true [] (DT 7)
noncomputable def GH:Fn:=C5 false false [] (B5 2)
noncomputable def Kt:Fn:=C5 false true [] (B5 3)
noncomputable def MM:Fn:=C5 false false [] (B5 4)
noncomputable def MN:Fn:=C5 false false [] (B5 5)
noncomputable def Ku:Fn:=C5 false false [] (B5 6)
noncomputable def EW:Fn:=C5 false false ["out"] (B5 7)
noncomputable def EX:Fn:=C5 false false [] (B5 8)
noncomputable def EA:Fn:=C5 false false [] (B5 9)
noncomputable def Sq:Fn:=C5 false false [] (B5 14)
noncomputable def IT:Fn:=C5 false false [] (B5 15)
noncomputable def JV:Fn:=C5 false false [] (B5 16)
noncomputable def Kv:Fn:=C5 false false [] (B5 17)
noncomputable def Cd:Fn:=C5 false false [] (B5 18)
noncomputable def OT:Fn:=C5 false false [] (B5 19)
noncomputable def Ct:Fn:=C5 false false ["pages"] (B5 20)
noncomputable def OU:Fn:=C5 false false [] (B5 21)
noncomputable def Gx:Fn:=C5 false false [] (B5 22)
noncomputable def Gy:Fn:=C5 false false ["acts"] (B5 23)
noncomputable def D5:Fn:=C5 false false [] (B5 24)
noncomputable def gl:Gl where
 fns:=[("get",GH),("_pairs",Kt),("scan",MM),("put",MN),("remove",Ku),("changes",EW),("replay",EX),("play",EA),("_law_new",Sq),("_law_group",IT),("_law_set",JV),("_law_split",Kv),("_law_mend",Cd),("_law_shrink",OT),("_law_pages",Ct),("_law_records",OU),("_law_model",Gx),("_law_actions",Gy),("law",D5)]
 meths:=[("out",Sk),("new",JU),("child",Hg),("put",Sn),("put_in",Er),("remove",OS),("remove_in",Ch)]
 cls:="_Tree"
 init:=Gw
 tabs:=[("_law_orders",Fm (B5 11)),("_law_sizes",Fm (B5 12)),("_law_after",Fm (B5 13))]
 flds:=["pages","root"]
open PySem PyProof.Rows PySem.Calls PySem.W
theorem aO{ns:List Str}(hn:ns.Nodup):∀{vs:List Value},vs.length=ns.length->(ns.filter fun n=>((ns.zip vs).lookup n).isNone)=[]/\(ns.filterMap fun n=>((ns.zip vs).lookup n).map (n,·))=ns.zip vs:=by
 have key:∀(ns:List Str),ns.Nodup->∀(vs:List Value),vs.length=ns.length->(∀n∈ns,((ns.zip vs).lookup n).isNone=false)/\(ns.filterMap fun n=>((ns.zip vs).lookup n).map (n,·))=ns.zip vs:=by
  intro ns
  induction ns with
  |nil=>intro _ vs _;exact⟨fun _ h=>Eo h,rfl⟩
  |cons x ns ih=>
   intro hn vs hl
   cases vs with
   |nil=>cases hl
   |cons v vs=>
    have hx:∀n∈ns,(n == x)=false:=fun n h=>beq_eq_false_iff_ne.mpr fun e=>(BZ.mp hn).1 (e▸h)
    have q:=ih (BZ.mp hn).2 vs (Nat.succ.inj hl)
    have lk:∀n∈ns,((x::ns).zip (v::vs)).lookup n=(ns.zip vs).lookup n:=fun n h=>by
     show(match n == x with |true=>some v |false=>(ns.zip vs).lookup n)=_
     rw[hx n h]
    have lx:((x::ns).zip (v::vs)).lookup x=some v:=by
     show(match x == x with |true=>some v |false=>(ns.zip vs).lookup x)=_
     rw[beq_self_eq_true]
    refine⟨fun n h=>?_,?_⟩
    ·cases Au.mp h with
     |inl e=>rw[e,lx];rfl
     |inr h=>rw[lk n h];exact q.1 n h
    ·rw[FB,lx]
     show(x,v)::_=(x,v)::_
     refine A2 _ (Eq.trans ?_ q.2)
     have:∀(l:List Str),(∀n∈l,n∈ns)->(l.filterMap fun n=>(((x::ns).zip (v::vs)).lookup n).map (n,·))=l.filterMap fun n=>((ns.zip vs).lookup n).map (n,·):=by
      intro l
      induction l with
      |nil=>exact fun _=>rfl
      |cons y l ih=>exact fun h=>by rw[FB,FB,lk y (h y AZ),ih fun n hn=>h n (Aj _ hn)]
     exact this ns fun _ h=>h
 intro vs hl
 refine⟨List.filter_eq_nil_iff.mpr fun n h=>by rw[(key ns hn vs hl).1 n h];exact CT,(key ns hn vs hl).2⟩
noncomputable def Ss(a:Arguments):Bool:=a.posonlyargs.isEmpty&&a.kwonlyargs.isEmpty&&a.vararg.isNone&&a.kwarg.isNone
theorem aP{α β γ:Type}{L:List α}{i:β}{f:α->β->Sem (ForInStep β)}{k:β->Sem γ}{y:Sem γ}(h:L=[])(e:k i=y):(forIn L i f >>= k)=y:=by subst h;exact e
theorem aQ{nm qn:Str}{ar:List Arg}{kd df bd sc gl cl kk dc pm an co ct bl}{ns:List Str}(vs:List Value)(hs:ar.map Arg.arg=ns)(hl:vs.length=ns.length)(z1:(ns.filter fun n=>((ns.zip vs).lookup n).isNone)=[]):bindArgs ⟨nm,qn,⟨[],ar,none,[],kd,none,df⟩,bd,sc,gl,cl,.none,kk,dc,pm,an,co,ct,bl⟩ ⟨vs,[]⟩=pure (ns.filterMap fun n=>((ns.zip vs).lookup n).map (n,·)):=by
 subst hs
 have hlt:¬(decide (vs.length > (ar.map Arg.arg).length)&&true)=true:=fun h=>FF _ (hl▸DI (Bb.mp h).1)
 have hms:∀k,¬(!(((ar.map Arg.arg).take ((ar.map Arg.arg).length - (List.drop k ([]:List Value)).length)).filter fun n=>(((ar.map Arg.arg).zip vs).lookup n).isNone).isEmpty)=true:=fun k=>by
  rw[List.drop_nil,show(ar.map Arg.arg).length - ([]:List Value).length=(ar.map Arg.arg).length from rfl,List.take_length,z1]
  exact Bool.noConfusion
 refine(A3 hlt).trans ((A3 (hms _)).trans (aP ?_ ?_))
 ·exact(A2 _ List.drop_nil).trans List.zip_nil_right
 ·exact A2 (fun l=>(pure (List.filterMap (fun n=>(((ar.map Arg.arg).zip vs).lookup n).map (n,·)) l):Sem (List (Str×Value)))) (As (ar.map Arg.arg))
theorem aR{fd:FuncData}(hp:Ss fd.params=true)(hd:fd.defaults=.none)(hn:(fd.params.args.map (·.arg)).Nodup)(vs:List Value)(hl:vs.length=(fd.params.args.map (·.arg)).length):bindArgs fd ⟨vs,[]⟩=pure ((fd.params.args.map (·.arg)).zip vs):=by
 have z:=aO hn hl
 refine Eq.trans ?_ (A2 pure z.2)
 have z1:=z.1
 clear z hn
 generalize hs:fd.params.args.map (·.arg)=ns at *
 obtain⟨nm,qn,⟨po,ar,va,ko,kd,ka,df⟩,bd,sc,gl,cl,dd,kk,dc,pm,an,co,ct,bl⟩:=fd
 cases hd
 cases po with
 |cons _ _=>exact Bool.noConfusion hp
 |nil=>
  cases ko with
  |cons _ _=>exact Bool.noConfusion hp
  |nil=>
   cases va with
   |some _=>exact Bool.noConfusion hp
   |none=>
    cases ka with
    |some _=>exact Bool.noConfusion hp
    |none=>exact aQ vs hs hl z1
open PySem PyProof.Rows PySem.Calls PySem.W
structure FSeen where
 body:FuncBody
 params:Arguments
 scope:Scope
 glb:Addr
 clo:List (Str×Addr)
 dfl:Value
 blt:Addr
 code:Bool
noncomputable def Su(q:Str):Option Value->Bool
 |some (.str q' _)=>decide (q'=q)
 |_=>false
noncomputable def OV(q:Str):Data->Bool
 |.fields vs=>Su q vs[1]?
 |_=>false
noncomputable def MO(h:Heap)(cd:Value)(q:Str):Bool:=match cd with
 |.ref c=>Av (h.get? c) (fun o=>OV q o.data) false
 |_=>false
noncomputable def Sv(h:Heap):Data->Option FSeen
 |.func fd=>some ⟨fd.body,fd.params,fd.scope,fd.globals,fd.closure,fd.defaults,fd.builtins,MO h fd.code fd.qualname⟩
 |_=>.none
noncomputable def Hh:Option Value->Option Addr
 |some (.ref a)=>some a
 |_=>.none
noncomputable def MP(h:Heap)(v:Option Value):Option FSeen:=(Hh v).bind fun a=>(h.get? a).bind fun o=>Sv h o.data
noncomputable def MQ:Stmt->Option FSeen
 |.FunctionDef _ a b _ _ _ sc _ _ _=>some ⟨.stmts b,a,sc,mainGlobals,[],.none,builtinsNs,true⟩
 |_=>.none
noncomputable def MR:List Str->Bool
 |[]=>true
 |x::r=>!r.contains x&&MR r
theorem OW:∀{l:List Str},MR l=true->l.Nodup:=by
 intro l
 induction l with
 |nil=>exact fun _=>Ca
 |cons x l ih=>exact fun h=>Ad h fun h1 h2=>BZ.mpr ⟨fun m=>absurd (Da.mpr m) (by rw[(FY _).mp h1];exact CT),ih h2⟩
noncomputable def Sw:ScopeKind->Bool
 |.function=>true
 |_=>false
noncomputable def JW:Stmt->Bool
 |.FunctionDef _ a b _ _ _ sc _ _ _=>Ss a&&MR (a.args.map (·.arg))&&Sw sc.kind&&(sc.names.lookup ("__debug__" : Str)).isNone&&(sc.names.lookup ("__classdict__" : Str)).isNone&&!sc.isCoroutine&&!sc.isGenerator&&
  (a.args.map (·.arg)).all (fun x=>sc.names.lookup x == some .local||sc.names.lookup x == some .cell)&&MR (sc.names.map (·.1))&&sc.names.all (fun x=>!(x.2 == .free))
 |_=>false
theorem fK{P:Prop}(h:false=true):P:=Bool.noConfusion h
theorem aS{q:Str}{v:Option Value}(e:Su q v=true):∃t,v=some (.str q t):=by
 cases v with
 |none=>exact fK e
 |some v=>
  cases v with
  |str q' t=>exact⟨t,by rw[show q'=q from BP e]⟩
  |_=>exact fK e
theorem aT{q:Str}{d:Data}(e:OV q d=true):∃vs t,d=.fields vs/\vs[1]?=some (.str q t):=by
 cases d with
 |fields vs=>
  obtain⟨t,r⟩:=aS e
  exact⟨vs,t,rfl,r⟩
 |_=>exact fK e
theorem aU{h:Heap}{cd:Value}{q:Str}(e:MO h cd q=true):h.CodeRec cd q:=by
 cases cd with
 |ref c=>
  have e:Av (h.get? c) (fun o=>OV q o.data) false=true:=e
  cases ho:h.get? c with
  |none=>rw[ho] at e;exact fK e
  |some oc=>
   rw[ho] at e
   obtain⟨vs,t,h1,h2⟩:=aT e
   exact⟨c,oc,vs,t,rfl,ho,h1,h2⟩
 |_=>exact fK e
theorem aV{h:Heap}{d:Data}{x:FSeen}(e:Sv h d=some x):∃fd,d=.func fd/\x=⟨fd.body,fd.params,fd.scope,fd.globals,fd.closure,fd.defaults,fd.builtins,MO h fd.code fd.qualname⟩:=by
 cases d with
 |func fd=>exact⟨fd,rfl,(Option.some.inj e).symm⟩
 |_=>exact nK e
theorem Sx{v:Option Value}{a:Addr}(h:Hh v=some a):v=some (.ref a):=by
 cases v with
 |none=>exact nK h
 |some v=>
  cases v with
  |ref b=>exact A2 (fun x=>some (Value.ref x)) (Option.some.inj h)
  |_=>exact nK h
theorem aW{k:ScopeKind}(h:Sw k=true):k=.function:=by
 cases k with
 |function=>rfl
 |_=>exact fK h
theorem OX{h:Heap}{v:Option Value}{st:Stmt}{hm sh:Bool}{mv:List Str}(hk:JW st=true)(e:MP h v=MQ st):∃a o fd,v=some (.ref a)/\FnAt h a (C5 hm sh mv st) o fd:=by
 cases st with
 |FunctionDef nm a b ds rt tp sc ts bd pos=>
  refine bK e fun ad hv e=>bK e fun o ho e=>?_
  obtain⟨fd,hd,e⟩:=aV e
  have e1:FuncBody.stmts b=fd.body:=A2 FSeen.body e
  have e2:a=fd.params:=A2 FSeen.params e
  have e3:sc=fd.scope:=A2 FSeen.scope e
  have e4:mainGlobals=fd.globals:=A2 FSeen.glb e
  have e5:[]=fd.closure:=A2 FSeen.clo e
  have e6:Value.none=fd.defaults:=A2 FSeen.dfl e
  have e7:builtinsNs=fd.builtins:=A2 FSeen.blt e
  have e8:true=MO h fd.code fd.qualname:=A2 FSeen.code e
  refine Ad hk fun hk h10=>Ad hk fun hk h9=>Ad hk fun hk h8=>Ad hk fun hk h7=>Ad hk fun hk h6=>Ad hk fun hk h5=>Ad hk fun hk h4=>Ad hk fun hk h3=>Ad hk fun h1 h2=>?_
  exact⟨ad,o,fd,Sx hv,⟨ho,hd,e1.symm,A2 Scope.names e3.symm,e3▸aW h3,⟨Ge.mp h4,Ge.mp h5⟩,e3▸(FY _).mp h6,e3▸(FY _).mp h7,e5.symm,e4.symm,e7.symm,aU e8.symm,fun vs hl=>by
   have q:=aR (fd:=fd) (e2▸h1) e6.symm (e2▸OW h2) vs (e2▸hl)
   rw[<-e2] at q
   exact q,h8,OW h9,h10,OW h2⟩⟩
 |_=>exact fK hk
noncomputable def Sy:Data->Option (List Value×Nat)
 |.seq xs n=>some (xs.toList,n)
 |_=>.none
noncomputable def T0(ty:String):Value->Bool
 |.type t=>decide (t=ty)
 |_=>false
noncomputable def OY(ty:String)(o:Obj):Option (List Value):=if (T0 ty o.cls&&o.dict.isNone&&o.slots.isEmpty)=true then(Sy o.data).map (·.1) else .none
mutual
noncomputable def MT(h:Heap):D->Value->Bool
 |.none,v=>(match v with |.none=>true |_=>false)
 |.bool _,_=>false
 |.int i,v=>(match v with |.int j _=>decide (i=j) |_=>false)
 |.key _,_=>false
 |.str s,v=>(match v with |.str s' _=>decide (s=s')&&PyData.strOk s |_=>false)
 |.tup l,v=>Av (Hh (some v)) (fun a=>Av ((h.get? a).bind (OY "tuple")) (fun us=>decide (l.length<=lim)&&MU h l us) false) false
 |.lst l,v=>Av (Hh (some v)) (fun a=>Av ((h.get? a).bind (OY "list")) (fun us=>decide (l.length<=lim)&&MU h l us) false) false
noncomputable def MU(h:Heap):List D->List Value->Bool
 |[],us=>us.isEmpty
 |d::r,us=>(match us with |u::us=>MT h d u&&MU h r us |[]=>false)
end
theorem aX{ty:String}{v:Value}(h:T0 ty v=true):v=.type ty:=by
 cases v with
 |type t=>exact A2 Value.type (BP h)
 |_=>exact fK h
theorem aY{d:Data}{p:List Value×Nat}(h:Sy d=some p):d=.seq p.1.toArray p.2:=by
 cases d with
 |seq xs n=>cases h;rfl
 |_=>exact nK h
theorem T1{ty:String}{o:Obj}{us:List Value}(h:OY ty o=some us):∃n,o=seqObj ty us.toArray n:=
 iK h fun hc h=>Ad hc fun hc h3=>Ad hc fun h1 h2=>mK (C:=fun us=>∃n,o=seqObj ty us.toArray n) h fun p hp=>⟨p.2,by
  obtain⟨c,d,dt,sl⟩:=o
  cases aX h1
  cases Ge.mp h2
  cases aY hp
  cases Array.isEmpty_iff.mp h3
  rfl⟩
theorem OZ{v:Value}{a:Addr}(h:Hh (some v)=some a):v=.ref a:=Option.some.inj (Sx h)
theorem JX{α:Type}{x:Option α}{f:α->Bool}(h:Av x f false=true):∃a,x=some a/\f a=true:=by
 cases x with
 |none=>cases h
 |some a=>exact⟨a,rfl,h⟩
theorem aZ{h:Heap}{I:Iota}{T:Sm}(hk:∀b o,h.get? b=some o->T.s.heap.get? b=some o)(hF:∀a,Al h a->T.M.F a)(d:D){v:Value}(e:MT h d v=true):AR I T d v:=by
 refine D.rec (motive_1:=fun d=>∀v,MT h d v=true->AR I T d v) (motive_2:=fun l=>∀us,MU h l us=true->Do I T l us) ?_ ?_ ?_ ?_ ?_ ?_ ?_ ?_ ?_ d v e <;> clear e
 ·intro v e;cases v <;> first |exact rfl |cases e
 ·intro _ v e;cases e
 ·intro i v e
  cases v with
  |int j t=>exact⟨t,by rw[show i=j from BP e]⟩
  |_=>cases e
 ·intro _ v e;cases e
 ·intro s v e
  cases v with
  |str s' t=>exact Ad e fun h1 h2=>⟨t,by rw[show s=s' from BP h1],h2⟩
  |_=>cases e
 ·intro l ih v e
  obtain⟨a,ha,e⟩:=JX e
  obtain⟨us,hu,e⟩:=JX e
  refine bK hu fun o ho hu=>Ad e fun h1 h2=>?_
  obtain⟨n,rfl⟩:=T1 hu
  exact⟨a,us,OZ ha,hF a ⟨_,ho⟩,⟨n,hk _ _ ho⟩,BP h1,ih us h2⟩
 ·intro l ih v e
  obtain⟨a,ha,e⟩:=JX e
  obtain⟨us,hu,e⟩:=JX e
  refine bK hu fun o ho hu=>Ad e fun h1 h2=>?_
  obtain⟨n,rfl⟩:=T1 hu
  exact⟨a,us,OZ ha,hF a ⟨_,ho⟩,⟨n,hk _ _ ho⟩,BP h1,ih us h2⟩
 ·intro us e;exact List.isEmpty_iff.mp e
 ·intro d r p q us e
  cases us with
  |nil=>cases e
  |cons u us=>exact Ad e fun h1 h2=>⟨u,us,rfl,p u h1,q us h2⟩
open PySem PyProof.Rows PySem.Calls PySem.W
structure FE where
 x:Str
 hm:Bool
 sh:Bool
 mv:List Str
 st:Stmt
noncomputable def FE.fn(e:FE):Fn:=C5 e.hm e.sh e.mv e.st
noncomputable def Hi:List FE:=[⟨"get",false,false,[],B5 2⟩,⟨"_pairs",false,true,[],B5 3⟩,⟨"scan",false,false,[],B5 4⟩,⟨"put",false,false,[],B5 5⟩,⟨"remove",false,false,[],B5 6⟩,⟨"changes",false,false,["out"],B5 7⟩,⟨"replay",false,false,[],B5 8⟩,⟨"play",false,false,[],B5 9⟩,
 ⟨"_law_new",false,false,[],B5 14⟩,⟨"_law_group",false,false,[],B5 15⟩,⟨"_law_set",false,false,[],B5 16⟩,⟨"_law_split",false,false,[],B5 17⟩,⟨"_law_mend",false,false,[],B5 18⟩,⟨"_law_shrink",false,false,[],B5 19⟩,⟨"_law_pages",false,false,["pages"],B5 20⟩,⟨"_law_records",false,false,[],B5 21⟩,⟨"_law_model",false,false,[],B5 22⟩,⟨"_law_actions",false,false,["acts"],B5 23⟩,⟨"law",false,false,[],B5 24⟩]
noncomputable def Gz:List FE:=[⟨"out",true,true,[],DT 1⟩,⟨"new",true,true,[],DT 2⟩,⟨"child",true,true,[],DT 3⟩,⟨"put",true,true,[],DT 4⟩,⟨"put_in",true,true,[],DT 5⟩,⟨"remove",true,true,[],DT 6⟩,⟨"remove_in",true,true,[],DT 7⟩]
noncomputable def Oa:List Str:="__init__"::Gz.map (·.x)
noncomputable def JY(h:Heap):Option Addr:=Hh (h.nsMap mainGlobals "_Tree")
noncomputable def T2:Obj->Addr
 |⟨_,_,.cls cd,_⟩=>cd.ns
 |_=>0
noncomputable def Ob(h:Heap)(as:List Addr):Frag:=as.filterMap fun a=>(h.get? a).map fun o=>(a,o)
noncomputable def EB(h:Heap)(C:Addr):Frag:=Ob h (C::Av (h.get? C) T2 0::Oa.filterMap fun m=>Hh (h.nsMap (Av (h.get? C) T2 0) m))
noncomputable def JZ(K:Frag)(C:Addr)(m:Str):Option Value:=match findIn K (.ref C) m with
 |some v=>v
 |.none=>.none
noncomputable def oo(x:Option (Option Value))(y:Option (Option Value)):Bool:=decide (x=y)
noncomputable def ov(x:Option Value)(y:Option Value):Bool:=decide (x=y)
noncomputable def Oc:List Str:=["pages","root"]
noncomputable def T3:List (Str×D):=[("_law_orders",Fm (B5 11)),("_law_sizes",Fm (B5 12)),("_law_after",Fm (B5 13))]
noncomputable def aa(h:Heap)(C:Addr):Bool:=
 keepIn (EB h C) (.ref C)&&oo (findIn (EB h C) (.ref C) "__getattribute__") (some (some (.builtin "object.__getattribute__")))&&oo (findIn (EB h C) (.ref C) "__getattr__") (some .none)&&oo (findIn (EB h C) (.ref C) "__setattr__") (some (some (.builtin "object.__setattr__")))&&
 plainOver (EB h C) C&&hasDictIn (EB h C) C&&makesIn (EB h C) C&&Oc.all (fun a=>oo (findIn (EB h C) (.ref C) a) (some .none))&&
 Oa.all (fun m=>Av (Hh (JZ (EB h C) C m)) (fun a=>ov (typeIn (EB h C) (.ref a)) (some (.type "function"))) false)
noncomputable def T4(h:Heap):Bool:=
 h.isNs mainGlobals&&h.isNs builtinsNs&&h.isNs cStatics&&(h.nsMap cStatics "sys.recursionlimit").isNone&&(h.get? sysModules).isSome&&
 T3.all (fun p=>Av (h.nsMap mainGlobals p.1) (MT h p.2) false)&&JG.all (fun p=>(h.nsMap mainGlobals p.1).isNone&&ov (h.nsMap builtinsNs p.1) (some p.2))&&Av (JY h) (aa h) false
noncomputable def T5(h:Heap):List (Option FSeen):=Hi.map (fun e=>MP h (h.nsMap mainGlobals e.x))++(MP h (JZ (EB h ((JY h).getD 0)) ((JY h).getD 0) "__init__")::Gz.map fun e=>MP h (JZ (EB h ((JY h).getD 0)) ((JY h).getD 0) e.x))
noncomputable def MV:List (Option FSeen):=Hi.map (fun e=>MQ e.st)++(MQ (DT 0)::Gz.map fun e=>MQ e.st)
noncomputable def Od(s:Shared):Bool×List (Option FSeen):=(T4 s.heap,T5 s.heap)
theorem ac{h:Heap}{as:List Addr}:(Ob h as).In h:=by
 intro a o e
 induction as with
 |nil=>cases e
 |cons b as ih=>
  unfold Ob at e ih
  rw[FB] at e
  cases hb:h.get? b with
  |none=>rw[hb] at e;exact ih e
  |some ob=>
   rw[hb] at e
   have e:(match a == b with |true=>some ob |false=>List.lookup a (as.filterMap fun a=>(h.get? a).map fun o=>(a,o)))=some o:=e
   cases hab:a == b with
   |true=>rw[hab] at e;cases e;rw[beq_iff_eq.mp hab];exact hb
   |false=>rw[hab] at e;exact ih e
theorem MW{x y:Option (Option Value)}(h:oo x y=true):x=y:=BP h
theorem T7{x y:Option Value}(h:ov x y=true):x=y:=BP h
theorem Oe{x:Str}{f:Fn}:∀{l:List FE},AG x (l.map fun e=>(e.x,e.fn))=some f->∃e∈l,x=e.x/\f=e.fn:=by
 intro l
 induction l with
 |nil=>exact fun h=>by cases h
 |cons e l ih=>
  intro h
  have h:(if x=e.x then some e.fn else AG x (l.map fun e=>(e.x,e.fn)))=some f:=h
  exact eK h (fun hx h=>by cases h;exact⟨e,AZ,hx,rfl⟩) fun h=>(ih h).imp fun e q=>⟨Aj _ q.1,q.2⟩
theorem T8{l:List FE}{g g':FE->Option FSeen}:∀{r r':List (Option FSeen)},l.map g++r=l.map g'++r'->(∀e∈l,g e=g' e)/\r=r':=by
 induction l with
 |nil=>exact fun h=>⟨fun _ h=>Eo h,h⟩
 |cons e l ih=>
  intro r r' h
  injection h with h1 h2
  exact⟨fun e' he=>(Au.mp he).elim (fun q=>q▸h1) ((ih h2).1 e'),(ih h2).2⟩
theorem ae:∀e∈Hi,JW e.st=true:=CO.mp (by decide +kernel:Hi.all (fun e=>JW e.st)=true)
theorem ag:∀e∈Gz,JW e.st=true:=CO.mp (by decide +kernel:Gz.all (fun e=>JW e.st)=true)
theorem ah:JW (DT 0)=true:=by decide +kernel
theorem ai:∀e∈Gz,e.x∉Oc:=fun e he q=>absurd (Da.mpr q) (by rw[(FY _).mp (CO.mp (by decide +kernel:Gz.all (fun e=>!Oc.contains e.x)=true) e he)];exact CT)
theorem aj:∀e∈Hi,e.x≠"_Tree":=fun e he q=>absurd (Ae q) (by rw[(FY _).mp (CO.mp (by decide +kernel:Hi.all (fun e=>!decide (e.x ="_Tree"))=true) e he)];exact CT)
theorem ak{x:Str}{d:D}:∀{l:List (Str×D)},AG x l=some d->(x,d)∈l:=by
 intro l
 induction l with
 |nil=>exact fun h=>by cases h
 |cons p l ih=>
  intro h
  exact eK (h:(if x=p.1 then some p.2 else AG x l)=some d) (fun hx h=>by cases h;cases hx;exact AZ) fun h=>Aj _ (ih h)
theorem am{x:Str}{v:Value}:∀{l:List (Str×Value)},l.lookup x=some v->(x,v)∈l:=by
 intro l
 induction l with
 |nil=>exact fun h=>by cases h
 |cons p l ih=>
  intro h
  have h:(match x == p.1 with |true=>some p.2 |false=>l.lookup x)=some v:=h
  cases hx:x == p.1 with
  |true=>rw[hx] at h;cases h;rw[beq_iff_eq.mp hx];exact AZ
  |false=>rw[hx] at h;exact Aj _ (ih h)
noncomputable def cx(w:World)(h:Heap)(C:Addr)(mg mb:Str->Option Value)(I:Iota):Cx:=⟨pw,w,C,h,I,gl,mg,mb⟩
noncomputable def Ja(w:World)(h:Heap):Prop:=∃C K mg mb,∀I,Top (cx w h C mg mb I)/\ClsG (cx w h C mg mb I) K
theorem T9{K:Frag}{C:Addr}{m:Str}{a:Addr}(h:JZ K C m=some (.ref a)):findIn K (.ref C) m=some (some (.ref a)):=by
 unfold JZ at h
 cases hf:findIn K (.ref C) m with
 |none=>rw[hf] at h;cases h
 |some v=>rw[hf] at h;exact A2 some h
theorem ao(w:World)(s:Shared)(e:Od s=(true,MV)):Ja w s.heap:=by
 have hT:T4 s.heap=true:=A2 (·.1) e
 have hF:T5 s.heap=MV:=A2 (·.2) e
 obtain⟨f1,f2⟩:=T8 hF
 injection f2 with f2 f3
 obtain⟨f3,_⟩:=T8 (l:=Gz) (r:=[]) (r':=[]) ((As _).trans (f3.trans (As _).symm))
 refine Ad hT fun hT h8=>Ad hT fun hT h7=>Ad hT fun hT h6=>Ad hT fun hT h5=>Ad hT fun hT h4=>Ad hT fun hT h3=>Ad hT fun h1 h2=>?_
 obtain⟨C,hC,hB⟩:=JX h8
 rw[hC] at f2 f3
 refine Ad hB fun hB c9=>Ad hB fun hB c8=>Ad hB fun hB c7=>Ad hB fun hB c6=>Ad hB fun hB c5=>Ad hB fun hB c4=>Ad hB fun hB c3=>Ad hB fun c1 c2=>?_
 have cn:s.heap.nsMap mainGlobals "_Tree" = some (.ref C):=by
  revert hC
  unfold JY
  cases s.heap.nsMap mainGlobals "_Tree" with
  |none=>exact fun h=>by cases h
  |some v=>exact fun h=>A2 some (OZ h)
 have typ:∀{m:Str} {a:Addr},m∈Oa->JZ (EB s.heap C) C m=some (.ref a)->typeIn (EB s.heap C) (.ref a)=some (.type "function"):=fun {m a} hm hf=>by
  have q:=CO.mp c9 m hm
  rw[hf] at q
  exact T7 q
 refine⟨C,EB s.heap C,s.heap.nsMap mainGlobals,s.heap.nsMap builtinsNs,fun I=>⟨⟨⟨_,.of_isNs h3,Ge.mp h4⟩,.of_isNs h1,.of_isNs h2,fun x d hx=>?_,fun x f hx=>?_,fun x v hx _ _ _=>?_,J4.mp h5⟩,⟨ac,cn,c1,MW c2,MW c3,MW c4,c5,c6,c7,fun a ha=>MW (CO.mp c8 a ha),?_,fun m f hm=>?_,fun x f hx=>?_⟩⟩⟩
 ·obtain⟨v,hv,hr⟩:=JX (CO.mp h6 _ (ak (l:=T3) hx))
  exact⟨v,hv,fun hk hF=>aZ hk hF d hr⟩
 ·obtain⟨e,he,rfl,rfl⟩:=Oe (l:=Hi) hx
  obtain⟨a,o,fd,q1,q2⟩:=OX (hm:=e.hm) (sh:=e.sh) (mv:=e.mv) (ae e he) (f1 e he)
  exact⟨a,o,fd,q1,q2⟩
 ·exact Ad (CO.mp h7 _ (am hx)) fun a b=>⟨Ge.mp a,T7 b⟩
 ·obtain⟨a,o,fd,q1,q2⟩:=OX (hm:=true) (sh:=true) (mv:=[]) ah f2
  exact⟨a,o,fd,T9 q1,typ AZ q1,q2⟩
 ·obtain⟨e,he,rfl,rfl⟩:=Oe (l:=Gz) hm
  obtain⟨a,o,fd,q1,q2⟩:=OX (hm:=e.hm) (sh:=e.sh) (mv:=e.mv) (ag e he) (f3 e he)
  exact⟨a,o,fd,T9 q1,typ (Aj _ (List.mem_map_of_mem he)) q1,q2,ai e he⟩
 ·obtain⟨e,he,rfl,_⟩:=Oe (l:=Hi) hx
  exact aj e he
theorem aq(w:World)(h h':Heap)(x:Ja w h)(k:∀b o,h.get? b=some o->h'.get? b=some o):Ja w h':=by
 obtain⟨C,K,mg,mb,x⟩:=x
 refine⟨C,K,mg,mb,fun I=>?_⟩
 obtain⟨HT,Y⟩:=x I
 exact⟨⟨HT.nolim.keeps k,HT.g.keeps k,HT.b.keeps k,fun x d hx=>(HT.tabs x d hx).imp fun v q=>⟨q.1,fun hk hF=>q.2 (fun b o e=>hk b o (k b o e)) fun a ha=>hF a (ha.imp fun o e=>k a o e)⟩,fun x f hx=>(HT.fns x f hx).imp fun a q=>q.imp fun o q=>q.imp fun fd q=>⟨q.1,q.2.keeps k⟩,HT.blt,HT.sysm.imp fun o e=>k _ o e⟩,
  ⟨Y.inB.keeps k,Y.nm,Y.keep,Y.ga,Y.gn,Y.sa,Y.po,Y.hd,Y.mks,Y.fld,Y.ini.imp fun a q=>q.imp fun o q=>q.imp fun fd q=>⟨q.1,q.2.1,q.2.2.keeps k⟩,fun m f hm=>(Y.mth m f hm).imp fun a q=>q.imp fun o q=>q.imp fun fd q=>⟨q.1,q.2.1,q.2.2.1.keeps k,q.2.2.2⟩,Y.fin⟩⟩
open PySem PyProof.Rows PySem.Calls PySem.W
noncomputable def qv:Program:={ pw with main:={ pw.main with body:=[B5 24] } }
noncomputable def loose:List Str:=["_Tree","get","_pairs","scan","put","remove","changes","replay","play","_law_orders","_law_sizes","_law_after","_law_new","_law_group","_law_set","_law_split","_law_mend","_law_shrink","_law_pages","_law_records","_law_model","_law_actions"]
noncomputable def au:Stmt->DefRec
 |.FunctionDef n a b _ _ _ sc _ _ pos=>⟨n,a,b,sc,pos⟩
 |_=>⟨"",default,[],default,default⟩
noncomputable def TA:DefRec:=au (B5 24)
theorem DL:LeftO pw qv loose (fun s=>recOk [] s) Od (fun _=>(true,MV)) 4150:=by
 intro w
 kernel_rfl
theorem head(call:WalkO qv loose (fun _ _=>True) Ja Challenge.rw_sx_r033_3.row.toRowW TA [] fun f vs=>PySem.call f vs):Challenge.rw_sx_r033_3.Holds:=by
 refine PySem.W.holds_law (by kernel_rfl) fun hsaid=>?_
 exact PySem.W.holds_open (r:=Challenge.rw_sx_r033_3.row) (q:=qv) (loose:=loose) (Xt:=fun s=>recOk [] s) (XP:=fun _ _=>True) (Yf:=Od) (Ya:=fun _=>(true,MV)) (YP:=Ja) (N:=4150) DL ao aq (fun _ _=>trivial) (fun _ _ _ _ _=>trivial) (by kernel_rfl) (by kernel_rfl) (by kernel_rfl) (fun s e=>recFacts_of e) (by rfl) (by assumption) (by decide +kernel) ⟨rfl,rfl,rfl,rfl,rfl,by decide +kernel⟩ ⟨[.list []],by decide +kernel,by decide +kernel⟩ call
end Mine
namespace Mine.U
open PySem
theorem nL{a b:Nat}(h:true=Nat.ble a b):a<=b:=Nat.le_of_ble_eq_true h.symm
theorem bnd{α β:Type}{x:Option α}{a:α}{f:α->Option β}{y:Option β}(h:x=some a)(k:f a=y):x.bind f=y:=by subst h;exact k
theorem AQ{α β:Type}{x:Option α}{a:α}{f:α->β}{y:β}(h:x=some a)(k:f a=y):x.map f=some y:=by subst h k;rfl
theorem Es{α β:Type}{x:Option α}{f:α->β}{b y:β}(h:x=.none)(k:b=y):Av x f b=y:=by subst h;exact k
theorem Ba{α β:Type}{x:Option α}{a:α}{f:α->β}{b y:β}(h:x=some a)(k:f a=y):Av x f b=y:=by subst h;exact k
theorem BM{β:Type}{b:Bool}{x z y:β}(h:b=true)(k:x=y):(if b=true then x else z)=y:=by subst h;exact k
theorem Dp{β:Type}{c:Prop}[Decidable c]{x z y:β}(h:c)(k:x=y):(if c then x else z)=y:=by rw[A5 h];exact k
theorem Of{β:Type}{c:Prop}[Decidable c]{x z y:β}(h:¬c)(k:z=y):(if c then x else z)=y:=by rw[A3 h];exact k
noncomputable def BV(fn:Fn)(k:Nat):Stmt:=fn.body[k]?.getD (.Pass default)
noncomputable def at'(l:List Stmt)(k:Nat):Stmt:=l[k]?.getD (.Pass default)
noncomputable def Og:Stmt->Expr×List Stmt×List Stmt
 |.For t _ b _ _=>(t,b,[])
 |.While t b _ _=>(t,b,[])
 |.If t b e _=>(t,b,e)
 |_=>(.Constant .none 0 default,[],[])
noncomputable def CX(s:Stmt):List Stmt:=(Og s).2.1
noncomputable def GI(s:Stmt):List Stmt:=(Og s).2.2
noncomputable def IU(s:Stmt):Expr:=(Og s).1
section
variable(G:Gl)(fn:Fn)(K:Nat)
noncomputable def Ev(e:Expr)(st:St)(r:R)(st':St):Prop:=∀n,(AU G (n+K)).ev fn e st=some (r,st')
noncomputable def Tt(e:Expr)(st:St)(b:Bool)(st':St):Prop:=∀n,(AU G (n+K)).tt fn e st=some (b,st')
noncomputable def Ex(ss:List Stmt)(st:St)(fl:Fl)(st':St):Prop:=∀n,(AU G (n+K)).ex fn ss st=some (fl,st')
noncomputable def X1(s:Stmt)(st:St)(fl:Fl)(st':St):Prop:=∀n,Nt G (AU G (n+K)) fn s st=some (fl,st')
noncomputable def Cl(vs:List V)(σ:List Cell)(r:R)(σ':List Cell):Prop:=∀n,(AU G (n+K)).call fn vs σ=some (r,σ')
noncomputable def Kp(b:Bool)(e:Expr)(st:St)(v:V)(st':St):Prop:=∀n,Ej (AU G (n+K)) b fn e st=some (v,st')
noncomputable def Sl(es:List Expr)(st:St)(vs:List V)(st':St):Prop:=∀n,DN (AU G (n+K)) fn es st=some (vs,st')
noncomputable def Ws(us es:List Expr)(st:St)(vs:List V)(st':St):Prop:=∀n,Kd (AU G (n+K)) fn us es st=some (vs,st')
noncomputable def To(t:Expr)(v:V)(st st':St):Prop:=∀n,Gn G (AU G (n+K)) fn t v st=some st'
noncomputable def Hj(ts:List Expr)(vs:List V)(st st':St):Prop:=∀n,GF G (AU G (n+K)) fn ts vs st=some st'
noncomputable def EC(e:Expr)(st:St)(l:It)(st':St):Prop:=∀n,FJ G (AU G (n+K)) fn e st=some (l,st')
noncomputable def Lp(t:Tg)(body:List Stmt)(l:List V)(st st':St):Prop:=∀n,forLoop' (AU G (n+K)) fn t body l st=some st'
noncomputable def CD(k:Nat)(xs:List (Str×V))(σ:List Cell)(r:R):Prop:=∃r' st',(∀n,(AU G (n+K)).ex fn (fn.body.drop k) ⟨xs,σ⟩=some (.ret r',st'))/\J9 st'.store r'=some r
end
section
variable{G:Gl}{fn f:Fn}{K K':Nat}{st st' st₁ st₂ st₃:St}{r r₁ r₂:R}{σ σ₁ σ₂ σ':List Cell}{xs ys zs xs':List (Str×V)}{e l t:Expr}{es us:List Expr}{p q pos:Pos}{v w:V}{vs:List V}{b c:Bool}{d:D}{fl:Fl}{s:Stmt}{ss body:List Stmt}{x y:Str}
theorem up(hk:K<=K'){P:Nat->Prop}(h:∀n,P (n+K)):∀n,P (n+K'):=fun n=>by
 have:=h (n+(K' - K))
 rwa [show n+(K' - K)+K=n+K' from by rw[Dd,Nat.sub_add_cancel hk]] at this
theorem Ex.up(h:Ex G fn K ss st fl st')(hk:K<=K'):Ex G fn K' ss st fl st':=Mine.U.up hk (P:=fun n=>(AU G n).ex fn ss st=some (fl,st')) h
theorem Cl.up(h:Cl G f K vs σ r σ')(hk:K<=K'):Cl G f K' vs σ r σ':=Mine.U.up hk (P:=fun n=>(AU G n).call f vs σ=some (r,σ')) h
theorem Cl.u(h:Cl G f K vs σ r σ')(hk:true=Nat.ble K K'):Cl G f K' vs σ r σ':=h.up (nL hk)
noncomputable def A8(xs ys:List (Str×V)):Prop:=∀x v,AG x ys=some v->AG x xs=some v
theorem A8.refl:A8 xs xs:=fun _ _ h=>h
theorem A8.nil:A8 xs []:=fun _ _ h=>nomatch h
theorem Jb{α:Type}(x y:Str)(v:α)(r:List (Str×α)):AG x ((y,v)::r)=if x=y then some v else AG x r:=rfl
theorem TB{α:Type}(x y:Str)(v w:α)(r:List (Str×α)):AS x v ((y,w)::r)=if x=y then(x,v)::r else(y,w)::AS x v r:=rfl
theorem A8.cons(h:AG x xs=some v)(k:A8 xs ys):A8 xs ((x,v)::ys):=fun z w e=>by
 rw[Jb] at e
 by_cases hz:z=x
 ·rw[A5 hz] at e;cases e;rw[hz];exact h
 ·rw[A3 hz] at e;exact k z w e
theorem A8.trans(h:A8 xs ys)(k:A8 ys zs):A8 xs zs:=fun x v e=>h x v (k x v e)
theorem Bx{α:Type}{x:Str}{v:α}{xs:List (Str×α)}:AG x (AS x v xs)=some v:=by
 induction xs with
 |nil=>exact A5 rfl
 |cons p r ih=>
  rw[TB x p.1 v p.2 r]
  by_cases e:x=p.1
  ·rw[A5 e];exact A5 rfl
  ·rw[A3 e,Jb,A3 e];exact ih
theorem IV{α:Type}{x y:Str}{v:α}(h:x≠y){xs:List (Str×α)}:AG x (AS y v xs)=AG x xs:=by
 induction xs with
 |nil=>exact A3 h
 |cons p r ih=>
  rw[TB y p.1 v p.2 r,Jb x p.1 p.2 r]
  by_cases e:y=p.1
  ·rw[A5 e,Jb,A3 h,A3 (e▸h)]
  ·rw[A3 e,Jb,ih]
theorem A8.set(h:A8 xs ys):A8 (AS x v xs) (AS x v ys):=fun z w e=>by
 by_cases hz:z=x
 ·subst hz;rw[Bx] at e ⊢;exact e
 ·rw[IV hz] at e ⊢;exact h z w e
theorem A8.put(h:A8 xs ys)(k:AS x v ys=zs):A8 (AS x v xs) zs:=k▸h.set
theorem A8.other(h:A8 xs ys)(k:AG x ys=.none):A8 (AS x v xs) ys:=fun z w e=>by
 by_cases hz:z=x
 ·subst hz;rw[k] at e;cases e
 ·rw[IV hz];exact h z w e
noncomputable def DU:Option NameKind->Bool
 |some .local=>true
 |some .cell=>true
 |some .free=>true
 |_=>false
theorem pn(h:A8 xs ys)(hk:true=DU (fn.names.lookup x))(hl:AG x ys=some v):Ev G fn (K+1) (.Name x p) ⟨xs,σ⟩ (.val v) ⟨xs,σ⟩:=fun n=>by
 show IE G fn x ⟨xs,σ⟩=_
 unfold IE
 cases e:fn.names.lookup x with
 |none=>rw[e] at hk;cases hk
 |some k=>cases k <;> first |(rw[e] at hk;cases hk;done) |exact AQ (h x v hl) rfl
theorem pR(hk:true=DU (fn.names.lookup x))(hl:AG x xs=some v):Ev G fn (K+1) (.Name x p) ⟨xs,σ⟩ (.val v) ⟨xs,σ⟩:=pn A8.refl hk hl
theorem Ag{op:Operator}{l e:Expr}{a b x:R}(h1:Ev G fn K l st a st₁)(h2:Ev G fn K e st₁ b st₂)(h3:Fi st₂.store op a b=some x):Ev G fn (K+1) (.BinOp l op e p) st x st₂:=fun n=>bnd (h1 n) (bnd (h2 n) (AQ h3 rfl))
theorem BF{s:Expr}{i:R}(hs:IH s=.none)(h1:Ev G fn K e st r st₁)(h2:Ev G fn K s st₁ i st₂)(h3:CL st₂.store r i=some w):Ev G fn (K+1) (.Subscript e s p) st (.val w) st₂:=fun n=>Es hs (bnd (h1 n) (bnd (h2 n) (AQ h3 rfl)))
theorem BN{a b:Option Expr}{i j:Option Int}(h1:Ev G fn K e st r st₁)(h2:∀n,IG (AU G (n+K)) fn a st₁=some (i,st₂))(h3:∀n,IG (AU G (n+K)) fn b st₂=some (j,st₃))(h4:GA st₃.store r i j=some r₁):Ev G fn (K+1) (.Subscript e (.Slice a b .none q) p) st r₁ st₃:=fun n=>bnd (h1 n) (bnd (h2 n) (bnd (h3 n) (AQ h4 rfl)))
theorem BR{n:Nat}:IG (AU G n) fn .none st=some (.none,st):=rfl
theorem BI{i:Int}(h:Ev G fn K e st (.val (.d (.int i))) st₁):∀n,IG (AU G (n+K)) fn (some e) st=some (some i,st₁):=fun n=>AQ (bnd (bnd (h n) rfl) rfl) rfl
theorem BS(h:Sl G fn K es st vs st₁)(hl:true=Nat.ble es.length lim):Ev G fn (K+1) (.List es p) st (.fresh vs) st₁:=fun n=>Dp (nL hl) (AQ (h n) rfl)
theorem Az{k:Nat}(h:Sl G fn K es st vs st₁)(hv:EQ vs=v)(hl:true=Nat.ble es.length lim):Ev G fn (K+1) (.Tuple es k p) st (.val v) st₁:=fun n=>Dp (nL hl) (AQ (h n) (by rw[hv]))
theorem Bq:Sl G fn K [] st [] st:=fun n=>rfl
theorem BT(h:Kp G fn K fn.hm e st v st₁)(k:Sl G fn K es st₁ vs st₂):Sl G fn K (e::es) st (v::vs) st₂:=fun n=>bnd (h n) (AQ (k n) rfl)
theorem AH(h:Ev G fn K e st (.val v) st₁):Kp G fn K b e st v st₁:=fun n=>bnd (h n) rfl
theorem sK(h:Ev G fn K e st (.val v) st₁)(k:Sl G fn K es st₁ vs st₂):Sl G fn K (e::es) st (v::vs) st₂:=BT (AH h) k
theorem sZ(h:Ev G fn K e st (.val v) st₁):Sl G fn K [e] st [v] st₁:=sK h Bq
theorem sN(h:A8 xs ys)(hk:true=DU (fn.names.lookup x))(hl:AG x ys=some v)(k:Sl G fn (K+1) es ⟨xs,σ⟩ vs st₂):Sl G fn (K+1) (.Name x p::es) ⟨xs,σ⟩ (v::vs) st₂:=sK (pn h hk hl) k
theorem sR(hk:true=DU (fn.names.lookup x))(hl:AG x xs=some v)(k:Sl G fn (K+1) es ⟨xs,σ⟩ vs st₂):Sl G fn (K+1) (.Name x p::es) ⟨xs,σ⟩ (v::vs) st₂:=sK (pR hk hl) k
theorem sO(hk:true=DU (fn.names.lookup x))(hl:AG x xs=some v):Sl G fn (K+1) [.Name x p] ⟨xs,σ⟩ [v] ⟨xs,σ⟩:=sZ (pR hk hl)
theorem kN(h:A8 xs ys)(hk:true=DU (fn.names.lookup x))(hl:AG x ys=some v):Kp G fn (K+1) b (.Name x p) ⟨xs,σ⟩ v ⟨xs,σ⟩:=AH (pn h hk hl)
theorem kR(hk:true=DU (fn.names.lookup x))(hl:AG x xs=some v):Kp G fn (K+1) b (.Name x p) ⟨xs,σ⟩ v ⟨xs,σ⟩:=AH (pR hk hl)
theorem Aw{l:List V}{ds:List D}(h:Ev G fn K e st (.fresh l) st₁)(hb:b=false)(hd:C3 l=some ds):Kp G fn K b e st (.d (.lst ds)) st₁:=fun n=>by subst hb;exact bnd (h n) (AQ hd rfl)
theorem Ci{l:List V}(h:Ev G fn K e st (.fresh l) ⟨xs,σ⟩)(hb:b=true):Kp G fn K b e st (.loc σ.length) ⟨xs,σ++[.lst l]⟩:=fun n=>by subst hb;exact bnd (h n) rfl
theorem B6:∀l:List D,C3 (l.map V.d)=some l
 |[]=>rfl
 |x::r=>by
  simp only [Dc,C3,B6 r]
  rfl
theorem BW{k:Nat}{x:Str}(h:PyData.strOk x=true):Ev G fn (K+1) (.Constant (.str x) k p) st (.val (.d (.str x))) st:=fun n=>BM h rfl
theorem Ab{k:Nat}{i:Int}:Ev G fn (K+1) (.Constant (.int i) k p) st (.val (.d (.int i))) st:=fun n=>rfl
theorem HA{k:Nat}:Ev G fn (K+1) (.Constant .none k p) st (.val (.d .none)) st:=fun n=>rfl
theorem iX{k:Nat}{i:Int}(h1:Ev G fn (K+1) e st r st₁)(h3:CL st₁.store r (.val (.d (.int i)))=some w):Ev G fn (K+2) (.Subscript e (.Constant (.int i) k q) p) st (.val w) st₁:=BF (K:=K+1) rfl h1 Ab h3
theorem Br{us:List V}(hx:true=IF fn x)(hc:x≠G.cls)(hf:AG x G.fns=some f)(hs:f.sh=false)(ha:Sl G fn K es st vs ⟨xs,σ⟩)(hp:Ln vs σ=some (us,σ'))(hcall:Cl G f K us [] r []) :
 Ev G fn (K+1) (.Call (.Name x q) es [] p) st r ⟨xs,σ'⟩:=fun n=>by
 refine BM hx.symm (Of hc (Ba hf (bnd (ha n) ?_)))
 show cond f.sh _ _=_
 rw[hs]
 exact bnd hp (bnd (hcall n) rfl)
theorem TC(hx:true=IF fn x)(hc:x≠G.cls)(hf:AG x G.fns=some f)(hs:f.sh=true)(ha:Sl G fn K es st vs ⟨xs,σ⟩)(hcall:Cl G f K vs σ r σ') :
 Ev G fn (K+1) (.Call (.Name x q) es [] p) st r ⟨xs,σ'⟩:=fun n=>by
 refine BM hx.symm (Of hc (Ba hf (bnd (ha n) ?_)))
 show cond f.sh _ _=_
 rw[hs]
 exact AQ (hcall n) rfl
theorem C7(hE:∀n,Fj G (AU G (n+K)) fn x [e] st=Kc (AU G (n+K)) fn x e st)(h:Ev G fn K e st r st₁)(hb:GC st₁.store x r=some r₁):Ev G fn (K+1) (.Call (.Name x q) [e] [] p) st r₁ st₁:=fun n=>(hE n).trans (bnd (h n) (AQ hb rfl))
theorem Kw(hE:∀n,Fj G (AU G (n+K)) fn "dict" [e] st=Nl (AU G (n+K)) fn e st)(h:Ev G fn K e st r ⟨xs,σ⟩){l:List V}{prs:List (Int×V)}(hl:CP σ r=some l)(hp:IA (Dj l) l=some prs):Ev G fn (K+1) (.Call (.Name "dict" q) [e] [] p) st (.val (.loc σ.length)) ⟨xs,σ++[.dct (Dj l) (Cq prs)]⟩:=fun n=>(hE n).trans (bnd (h n) (AQ (bnd hl (AQ hp rfl)) rfl))
theorem MX{ap:Pos}{dd:Bool×List (Int×V)}{l l':List D}(hE:∀n,Fj G (AU G (n+K)) fn "sorted" [.Call (.Attribute e "items" ap) [] [] q] st=Nm (AU G (n+K)) fn e st)(h:Ev G fn K e st r st₁)(hd:Ek st₁.store r=some dd)(hi:IB dd.1 dd.2=some l)(hs:ET l=some l'):Ev G fn (K+1) (.Call (.Name "sorted" p) [.Call (.Attribute e "items" ap) [] [] q] [] pos) st (.fresh (l'.map .d)) st₁:=fun n=>(hE n).trans (bnd (h n) (bnd hd (bnd hi (AQ hs rfl))))
theorem Kx{m:Str}{ap:Pos}{i:Nat}{l₀ l:List V}(hok:true=Dn e ap pos es.length)(hb:Ev G fn K e st (.val (.loc i)) st₁)(hs:st₁.store[i]?=some (.lst l₀))(ha:Sl G fn K es st₁ vs ⟨xs,σ⟩)(hs':σ[i]?=some (.lst l))(hc:JA σ i l m vs=some (r,σ')):Ev G fn (K+1) (.Call (.Attribute e m ap) es [] pos) st r ⟨xs,σ'⟩:=fun n=>by
 refine BM hok.symm (bnd (bnd (hb n) rfl) (bnd (ha n) ?_))
 show(if (JB m st₁.store[i]? == Ka σ[i]?)=true then KZ G _ i m vs ⟨xs,σ⟩ σ[i]? else .none)=_
 rw[hs,hs']
 exact AQ hc rfl
theorem Oh{m:Str}{ap:Pos}{i:Nat}{b₀ b:Bool}{l₀ l:List (Int×V)}(hok:true=Dn e ap pos es.length)(hb:Ev G fn K e st (.val (.loc i)) st₁)(hs:st₁.store[i]?=some (.dct b₀ l₀))(ha:Sl G fn K es st₁ vs ⟨xs,σ⟩)(hs':σ[i]?=some (.dct b l))(hc:Lq σ i b l m vs=some (r,σ')):Ev G fn (K+1) (.Call (.Attribute e m ap) es [] pos) st r ⟨xs,σ'⟩:=fun n=>by
 refine BM hok.symm (bnd (bnd (hb n) rfl) (bnd (ha n) ?_))
 show(if (JB m st₁.store[i]? == Ka σ[i]?)=true then KZ G _ i m vs ⟨xs,σ⟩ σ[i]? else .none)=_
 rw[hs,hs']
 exact AQ hc rfl
noncomputable def av:CmpOp->Bool
 |.Is |.IsNot |.In |.NotIn=>false
 |_=>true
theorem An{op:CmpOp}{l:Expr}(hop:true=av op)(h1:Ev G fn K l st r₁ st₁)(h2:Ev G fn K e st₁ r₂ st₂)(h3:Di op st₂.store r₁ r₂=some b):Tt G fn (K+1) (.Compare l [op] [e] p) st b st₂:=fun n=>by
 refine Eq.trans (b:=((AU G (n+K)).ev fn l st).bind fun p=>((AU G (n+K)).ev fn e p.2).bind fun q=>(Di op q.2.store p.1 q.1).map fun b=>(b,q.2)) ?_ (bnd (h1 n) (bnd (h2 n) (AQ h3 rfl)))
 cases op <;> first |rfl |cases hop
theorem Ky{l:Expr}(h1:Ev G fn K l st r₁ st₁)(h2:Ev G fn K e st₁ r₂ st₂)(h3:Fh st₂.store r₁ r₂=some b):Tt G fn (K+1) (.Compare l [.In] [e] p) st b st₂:=fun n=>bnd (h1 n) (bnd (h2 n) (AQ h3 rfl))
theorem Hk{l:Expr}(h1:Ev G fn K l st r₁ st₁)(h2:Ev G fn K e st₁ r₂ st₂)(h3:Fh st₂.store r₁ r₂=some c)(hb:(!c)=b):Tt G fn (K+1) (.Compare l [.NotIn] [e] p) st b st₂:=fun n=>bnd (h1 n) (bnd (h2 n) (AQ h3 (by rw[hb])))
theorem Dq(hE:∀n,(AU G (n+(K+1))).tt fn e st=Lu (AU G (n+K)) fn e st)(h:Ev G fn K e st r st₁)(ht:Ld st₁.store r=some b):Tt G fn (K+1) e st b st₁:=fun n=>(hE n).trans (bnd (h n) (AQ ht rfl))
theorem Jc(h:Tt G fn K e st c st₁)(hb:(!c)=b):Tt G fn (K+1) (.UnaryOp .Not e p) st b st₁:=fun n=>AQ (h n) (by rw[hb])
theorem CM(h:∀n,En (AU G (n+K)) fn .And es st=some (b,st₁)):Tt G fn (K+1) (.BoolOp .And es p) st b st₁:=h
theorem Oi(h:∀n,En (AU G (n+K)) fn .Or es st=some (b,st₁)):Tt G fn (K+1) (.BoolOp .Or es p) st b st₁:=h
theorem Ds(h:Tt G fn K e st true st₁)(k:∀n,En (AU G (n+K)) fn .And es st₁=some (b,st₂)):∀n,En (AU G (n+K)) fn .And (e::es) st=some (b,st₂):=fun n=>bnd (h n) (k n)
theorem FM(h:Tt G fn K e st false st₁):∀n,En (AU G (n+K)) fn .And (e::es) st=some (false,st₁):=fun n=>bnd (h n) rfl
theorem Dt(h:Tt G fn K e st b st₁):∀n,En (AU G (n+K)) fn .And [e] st=some (b,st₁):=fun n=>by
 refine bnd (h n) ?_
 cases b <;> rfl
theorem TD(h:Tt G fn K e st false st₁)(k:∀n,En (AU G (n+K)) fn .Or es st₁=some (b,st₂)):∀n,En (AU G (n+K)) fn .Or (e::es) st=some (b,st₂):=fun n=>bnd (h n) (k n)
theorem aw(h:Tt G fn K e st true st₁):∀n,En (AU G (n+K)) fn .Or (e::es) st=some (true,st₁):=fun n=>bnd (h n) rfl
theorem TE(h:Tt G fn K e st b st₁):∀n,En (AU G (n+K)) fn .Or [e] st=some (b,st₁):=fun n=>by
 refine bnd (h n) ?_
 cases b <;> rfl
theorem BO:Ex G fn (K+1) [] st .next st:=fun n=>rfl
theorem B9(h:X1 G fn K s st .next st₁)(k:Ex G fn K ss st₁ fl st₂):Ex G fn (K+1) (s::ss) st fl st₂:=fun n=>bnd (h n) (k n)
theorem xO(h:X1 G fn (K+1) s st .next st₁):Ex G fn (K+2) [s] st .next st₁:=B9 h BO
theorem Du(h:X1 G fn K s st (.ret r) st₁):Ex G fn (K+1) (s::ss) st (.ret r) st₁:=fun n=>bnd (h n) rfl
theorem Bf(h:Ev G fn K e st r st₁):X1 G fn K (.Return (some e) p) st (.ret r) st₁:=fun n=>AQ (h n) rfl
theorem B4{b₁ b₂:List Stmt}(h:Tt G fn K t st true st₁)(k:Ex G fn K b₁ st₁ fl st₂):X1 G fn K (.If t b₁ b₂ p) st fl st₂:=fun n=>bnd (h n) (k n)
theorem B1{b₁ b₂:List Stmt}(h:Tt G fn K t st false st₁)(k:Ex G fn K b₂ st₁ fl st₂):X1 G fn K (.If t b₁ b₂ p) st fl st₂:=fun n=>bnd (h n) (k n)
theorem Ac(h:Kp G fn K (wants fn (.Name x p)) e st v ⟨xs,σ⟩)(hc:true=Cg fn x):X1 G fn K (.Assign [.Name x p] e q) st .next ⟨AS x v xs,σ⟩:=fun n=>AQ (bnd (h n) (BM hc.symm rfl)) rfl
theorem Cu{k1 k2:Nat}{p1 p2:Pos}(ht:JD us=true)(hc:es.all (constantsAlone 8)=false)(h:Ws G fn K us es st vs st₁)(k:Hj G fn K us vs st₁ st₂):X1 G fn K (.Assign [.Tuple us k1 p1] (.Tuple es k2 p2) q) st .next st₂:=fun n=>by
 refine AQ (a:=st₂) (BM ht ?_) rfl
 show cond (es.all (constantsAlone 8)) _ _=_
 rw[hc]
 exact bnd (h n) (k n)
theorem GJ{k1:Nat}{p1:Pos}{l:List V}(ht:JD us=true)(hn:He e=.none)(h:Kp G fn K false e st v st₁)(hv:Ha v=some l)(k:Hj G fn K us l st₁ st₂):X1 G fn K (.Assign [.Tuple us k1 p1] e q) st .next st₂:=fun n=>AQ (a:=st₂) (BM ht (Es hn (bnd (h n) (bnd hv (k n))))) rfl
theorem FN{i:Expr}(h:Kp G fn K (wants fn (.Subscript t i p)) e st v st₁)(k:To G fn K (.Subscript t i p) v st₁ st₂):X1 G fn K (.Assign [.Subscript t i p] e q) st .next st₂:=fun n=>AQ (bnd (h n) (k n)) rfl
theorem Cv:Ws G fn K [] [] st [] st:=fun n=>rfl
theorem BA(h:Kp G fn K (wants fn t) e st v st₁)(k:Ws G fn K us es st₁ vs st₂):Ws G fn K (t::us) (e::es) st (v::vs) st₂:=fun n=>bnd (h n) (AQ (k n) rfl)
theorem TF:Hj G fn K [] [] st st:=fun n=>rfl
theorem Oj(h:To G fn K t v st st₁)(k:Hj G fn K us vs st₁ st₂):Hj G fn K (t::us) (v::vs) st st₂:=fun n=>bnd (h n) (k n)
theorem Ok(hc:true=Cg fn x):To G fn K (.Name x p) v ⟨xs,σ⟩ ⟨AS x v xs,σ⟩:=fun n=>BM hc.symm rfl
theorem tN(hc:true=Cg fn x)(k:Hj G fn K us vs ⟨AS x v xs,σ⟩ st₂):Hj G fn K (.Name x p::us) (v::vs) ⟨xs,σ⟩ st₂:=Oj (Ok hc) k
theorem tO(hc:true=Cg fn x):Hj G fn K [.Name x p] [v] ⟨xs,σ⟩ ⟨AS x v xs,σ⟩:=tN hc TF
theorem Hl{i:Expr}{m:Nat}{k:Bool×Int}{dk:D}(h1:Ev G fn K t st (.val (.loc m)) st₁)(h2:Ev G fn K i st₁ (.val (.d dk)) ⟨xs,σ⟩)(hk:Dh dk=some k)(h3:Nr σ m k v σ[m]?=some σ'):To G fn K (.Subscript t i p) v st ⟨xs,σ'⟩:=fun n=>bnd (bnd (h1 n) rfl) (bnd (bnd (h2 n) (AQ hk rfl)) (AQ h3 rfl))
theorem HB(hl:Gk e=false)(h:Ev G fn K e st r st₁):X1 G fn K (.Expr e p) st .next st₁:=fun n=>by
 show(if Gk e=true then _ else _)=_
 rw[hl]
 exact AQ (h n) rfl
theorem Hm{it:Expr}{l:It}{tg:Tg}(h:EC G fn K it st l st₁)(ht:Dm t=some tg)(hk:Cr fn l.pr tg=true)(k:Lp G fn K tg body l.items st₁ st₂):X1 G fn K (.For t it body [] p) st .next st₂:=fun n=>bnd (h n) (bnd ht (BM hk (AQ (k n) rfl)))
theorem GK{tg:Tg}:Lp G fn K tg body [] st st:=fun n=>rfl
theorem Hn{tg:Tg}(hb:Em tg v st=some st₁)(h:Ex G fn K body st₁ .next st₂)(k:Lp G fn K tg body vs st₂ st₃):Lp G fn K tg body (v::vs) st st₃:=fun n=>bnd hb (bnd (h n) (k n))
theorem Jd{l:List V}(hE:∀n,FJ G (AU G (n+K)) fn e st=KY (AU G (n+K)) fn e st)(h:Ev G fn K e st r ⟨xs,σ⟩)(hi:Lh σ r=some (l,σ')):EC G fn K e st ⟨l,false⟩ ⟨xs,σ'⟩:=fun n=>(hE n).trans (bnd (h n) (AQ hi rfl))
theorem CF{l:List V}(hE:true=(II e).isNone)(h:Ev G fn K e st r ⟨xs,σ⟩)(hi:Lh σ r=some (l,σ')):EC G fn K e st ⟨l,false⟩ ⟨xs,σ'⟩:=fun n=>Es (Ge.mp hE.symm) (bnd (h n) (AQ hi rfl))
theorem TG(hE:∀n,FJ G (AU G (n+K)) fn (.Call (.Name "enumerate" p) [e] [] q) st=Lj (AU G (n+K)) fn [e] st){l:List V}(h:Ev G fn K e st r ⟨xs,σ⟩)(hi:KP σ r=some (l,σ')):EC G fn K (.Call (.Name "enumerate" p) [e] [] q) st ⟨GD 0 l,true⟩ ⟨xs,σ'⟩:=fun n=>(hE n).trans (bnd rfl (bnd (h n) (AQ hi rfl)))
theorem Cw(hl:vs.length=f.params.length)(hs:f.sh=false)(h:CD G f K 0 (f.params.zip vs) [] r):Cl G f (K+1) vs [] r []:=fun n=>by
 obtain⟨r',st',h,hf⟩:=h
 refine Dp hl ?_
 rw[hs]
 exact bnd (h n) (AQ hf rfl)
theorem MY{k:Nat}(hk:true=decide (k < fn.body.length)):fn.body.drop k=BV fn k::fn.body.drop (k+1):=by
 have hk:=DI hk.symm
 rw[List.drop_eq_getElem_cons hk,show fn.body[k]=BV fn k from by unfold BV;rw[D3 hk];rfl]
theorem AX{k:Nat}(hk:true=decide (k < fn.body.length))(h:X1 G fn K (BV fn k) ⟨xs,σ⟩ .next ⟨xs',σ'⟩)(r':CD G fn K (k+1) xs' σ' r):CD G fn (K+1) k xs σ r:=by
 obtain⟨r'',st',r',hf⟩:=r'
 refine⟨r'',st',fun n=>?_,hf⟩
 rw[MY hk]
 exact bnd (h n) (r' n)
theorem CR{k:Nat}(hk:true=decide (k < fn.body.length))(h:X1 G fn K (BV fn k) ⟨xs,σ⟩ (.ret r₁) st')(hf:J9 st'.store r₁=some r):CD G fn (K+1) k xs σ r:=by
 refine⟨r₁,st',fun n=>?_,hf⟩
 rw[MY hk]
 exact bnd (h n) rfl
theorem CD.up{k:Nat}(h:CD G fn K k xs σ r)(hk:K<=K'):CD G fn K' k xs σ r:=by
 obtain⟨r',st',h,hf⟩:=h
 exact⟨r',st',Mine.U.up hk (P:=fun n=>(AU G n).ex fn (fn.body.drop k) ⟨xs,σ⟩=some (.ret r',st')) h,hf⟩
theorem CD.u{k:Nat}(h:CD G fn K k xs σ r)(hk:true=Nat.ble K K'):CD G fn K' k xs σ r:=h.up (nL hk)
end
open PySem
abbrev PM:=List (Int×D)
noncomputable def BB(p:Int×D):D:=.tup [.int p.1,p.2]
noncomputable def ax(t:PM×Int):D:=.tup [.lst (t.1.map BB),.int t.2]
noncomputable def Ho(d:D)(k:Int)(s:Str)(d':D):Prop:=Cl gl MN 200 [.d d,.d (.key k),.d (.str s)] [] (.val (.d d')) []
noncomputable def EY(d:D)(k:Int)(d':D):Prop:=Cl gl Ku 200 [.d d,.d (.key k)] [] (.val (.d d')) []
open PySem
noncomputable def B8:List Int:=[0,1,2,3,4,5,6,7,8,9,10,11,12,13,14,15]
abbrev Cy:=Int->Option D
noncomputable def D8{α:Type}(ds:List Int)(f:Int->Option α):List (Int×α):=ds.filterMap fun n=>(f n).map fun y=>(n,y)
noncomputable def AF{α:Type}(f:Int->Option α):List (Int×α):=D8 B8 f
structure PF where
 f:Cy
 r:Int
noncomputable def B2(t:PF):D:=ax (AF t.f,t.r)
open Classical in
noncomputable def upd{α:Type}(f:Int->α)(n:Int)(y:α):Int->α:=fun m=>if m=n then y else f m
noncomputable def Bc{α:Type}(f:Int->Option α):Prop:=∀n y,f n=some y->n∈B8
inductive Pg:D->Prop
 |leaf (l:List (Int×Str)):Pg (.tup [.str "leaf",.lst (l.map fun p=>.tup [.key p.1,.str p.2])])
 |inner (ks cs:List Int):Pg (.tup [.str "inner",.lst (ks.map .key),.lst (cs.map .int)])
structure Good(t:PF):Prop where
 pg:∀n y,t.f n=some y->Pg y
 dm:Bc t.f
theorem AY{α:Type}{f:Int->α}{n:Int}{y:α}:upd f n y n=y:=A5 rfl
theorem Ah{α:Type}{f:Int->α}{n m:Int}{y:α}(h:m≠n):upd f n y m=f m:=A3 h
noncomputable def Aq(p:Int×D):Int×V:=(p.1,.d p.2)
section
variable{α:Type}(k n:Int)(y:α)(p:Int×α)(r:List (Int×α))
theorem CG:AP n (p::r)=if n=p.1 then some p.2 else AP n r:=rfl
theorem Kz:BL k y (p::r)=if k=p.1 then(k,y)::r else p::BL k y r:=rfl
theorem MZ:CK k (p::r)=if k=p.1 then r else p::CK k r:=rfl
end
theorem Ma{α:Type}(g:α->Int)(x y:α)(r:List α):DP g x (y::r)=if g x<=g y then x::y::r else y::DP g x r:=rfl
noncomputable def vm{α β:Type}(g:α->β)(p:Int×α):Int×β:=(p.1,g p.2)
theorem L0{α β:Type}(g:α->β)(k:Int)(A:List (Int×α)):AP k (A.map (vm g))=(AP k A).map g:=by
 induction A with
 |nil=>rfl
 |cons p r ih=>
  rw[Dc,CG,CG]
  by_cases e:k=p.1
  ·rw[A5 e];exact A5 e
  ·rw[A3 e];exact(A3 e).trans ih
theorem ay(k:Int)(A:PM):AP k (A.map Aq)=(AP k A).map V.d:=L0 V.d k A
structure Dic{α:Type}(A:List (Int×α))(f:Int->Option α):Prop where
 nod:(A.map (·.1)).Nodup
 look:∀n,AP n A=f n
theorem Ol{α:Type}(k:Int)(y:α)(n:Int)(A:List (Int×α)):AP n (BL k y A)=if n=k then some y else AP n A:=by
 induction A with
 |nil=>rfl
 |cons p r ih=>
  rw[Kz]
  by_cases e:k=p.1
  ·rw[A5 e,CG,CG]
   by_cases h:n=k
   ·exact(A5 h).trans (A5 h).symm
   ·exact(A3 h).trans ((A3 h).trans (A3 fun q=>h (q.trans e.symm))).symm
  ·rw[A3 e,CG,CG,ih]
   by_cases h:n=p.1
   ·rw[A5 h,A5 h,A3 fun q:n=k=>e (q.symm.trans h)]
   ·rw[A3 h,A3 h]
theorem Cz{α:Type}{n:Int}{A:List (Int×α)}:AP n A=.none↔n∉A.map (·.1):=by
 induction A with
 |nil=>exact⟨fun _=>B3,fun _=>rfl⟩
 |cons p r ih=>
  rw[CG,Dc,Au]
  by_cases e:n=p.1
  ·rw[A5 e];exact⟨(fun q=>by cases q),fun q=>absurd (Or.inl e) q⟩
  ·rw[A3 e,ih];exact⟨fun q h=>h.elim e q,fun q h=>q (.inr h)⟩
theorem Mb{α:Type}(k:Int)(y:α)(A:List (Int×α)):(BL k y A).map (·.1)=if k∈A.map (·.1) then A.map (·.1) else A.map (·.1)++[k]:=by
 induction A with
 |nil=>exact(A3 B3).symm
 |cons p r ih=>
  rw[Kz,Dc]
  by_cases e:k=p.1
  ·rw[A5 e,A5 (e▸AZ)];exact A2 (·::r.map (·.1)) e
  ·rw[A3 e,Dc,ih]
   by_cases h:k∈r.map (·.1)
   ·rw[A5 h,A5 (Aj _ h)]
   ·rw[A3 h,A3 fun q=>(Au.mp q).elim e h];rfl
theorem TH{α:Type}(k:Int)(A:List (Int×α)):((CK k A).map (·.1)).Sublist (A.map (·.1)):=by
 induction A with
 |nil=>exact List.Sublist.slnil
 |cons p r ih=>
  rw[MZ]
  by_cases e:k=p.1
  ·rw[A5 e];exact List.sublist_cons_self _ _
  ·rw[A3 e];exact ih.cons_cons _
theorem az{α:Type}(k n:Int)(A:List (Int×α)):(A.map (·.1)).Nodup->AP n (CK k A)=if n=k then .none else AP n A:=by
 induction A with
 |nil=>exact fun _=>(ite_self _).symm
 |cons p r ih=>
  intro h
  have h:=BZ.mp h
  rw[MZ,CG]
  by_cases e:k=p.1
  ·rw[A5 e]
   by_cases hn:n=k
   ·rw[A5 hn];exact Cz.mpr (hn▸e▸h.1)
   ·rw[A3 hn,A3 (e▸hn)]
  ·rw[A3 e,CG,ih h.2]
   by_cases hn:n=p.1
   ·rw[A5 hn,A5 hn,A3 fun q:n=k=>e (q.symm.trans hn)]
   ·rw[A3 hn,A3 hn]
section
variable{α:Type}{A:List (Int×α)}{f:Int->Option α}
theorem Dic.set(h:Dic A f)(k:Int)(y:α):Dic (BL k y A) (upd f k (some y)):=⟨by
 rw[Mb]
 split
 ·exact h.nod
 ·rename_i hk;exact FD.mpr ⟨h.nod,BZ.mpr ⟨B3,Ca⟩,fun a ha b hb e=>hk (by rw[Ar.mp hb] at e;exact e▸ha)⟩,
 fun n=>by
  rw[Ol]
  by_cases hn:n=k
  ·rw[A5 hn,hn,AY]
  ·rw[A3 hn,Ah hn,h.look]⟩
theorem Dic.del(h:Dic A f)(k:Int):Dic (CK k A) (upd f k .none):=⟨(TH k A).nodup h.nod,
 fun n=>by
  rw[az _ _ _ h.nod]
  by_cases hn:n=k
  ·rw[A5 hn,hn,AY]
  ·rw[A3 hn,Ah hn,h.look]⟩
theorem Om{α β:Type}(g:α->β)(k:Int)(y:α)(A:List (Int×α)):BL k (g y) (A.map (vm g))=(BL k y A).map (vm g):=by
 induction A with
 |nil=>rfl
 |cons p r ih=>
  rw[Dc,Kz,Kz]
  by_cases e:k=p.1
  ·rw[A5 e];exact A5 e
  ·rw[A3 e];exact(A3 e).trans (A2 (vm g p::·) ih)
theorem On(k:Int)(y:D)(A:PM):BL k (V.d y) (A.map Aq)=(BL k y A).map Aq:=Om V.d k y A
theorem b0(k:Int)(A:PM):CK k (A.map Aq)=(CK k A).map Aq:=by
 induction A with
 |nil=>rfl
 |cons p r ih=>
  rw[Dc,MZ,MZ]
  by_cases e:k=p.1
  ·rw[A5 e];exact A5 e
  ·rw[A3 e];exact(A3 e).trans (A2 (Aq p::·) ih)
theorem Oo(A:PM):IB false (A.map Aq)=some (A.map BB):=by
 induction A with
 |nil=>rfl
 |cons p r ih=>exact bnd (a:=p.2) rfl (AQ ih rfl)
theorem TI{α:Type}(x:Int×α)(A:List (Int×α)):(DP (·.1) x A).Perm (x::A):=by
 induction A with
 |nil=>exact List.Perm.refl _
 |cons p r ih=>
  rw[Ma]
  by_cases h:x.1<=p.1
  ·rw[A5 h]
  ·rw[A3 h];exact(ih.cons p).trans (List.Perm.swap _ _ _)
theorem Mc{α:Type}(A:List (Int×α)):(Bn (·.1) A).Perm A:=by
 induction A with
 |nil=>exact List.Perm.refl _
 |cons p r ih=>exact(TI p _).trans (ih.cons p)
theorem b5{α:Type}(n:Int){A B:List (Int×α)}(h:A.Perm B)(hn:(A.map (·.1)).Nodup):AP n A=AP n B:=by
 induction h with
 |nil=>rfl
 |cons p _ ih=>rw[CG,CG,ih (BZ.mp hn).2]
 |swap p q l=>
  rw[CG,CG,CG,CG]
  have hpq:q.1≠p.1:=fun e=>(BZ.mp hn).1 (BU.mpr ⟨p,AZ,e.symm⟩)
  by_cases h1:n=q.1
  ·rw[A5 h1,A5 h1,A3 fun h=>hpq (h1▸h)]
  ·rw[A3 h1,A3 h1]
 |trans h1 _ ih1 ih2=>exact(ih1 hn).trans (ih2 ((h1.map _).nodup_iff.mp hn))
theorem Me{α:Type}(n:Int){A:List (Int×α)}(h:(A.map (·.1)).Nodup):AP n (Bn (·.1) A)=AP n A:=(b5 n (Mc A).symm h).symm
noncomputable def Asc{α:Type}(A:List (Int×α)):Prop:=A.Pairwise fun a b=>a.1 < b.1
theorem b6{α:Type}{x:Int×α}{A:List (Int×α)}:Asc A->x.1∉A.map (·.1)->Asc (DP (·.1) x A):=by
 induction A with
 |nil=>exact fun _ _=>List.pairwise_singleton _ _
 |cons p r ih=>
  intro h hx
  have hp:=D4.mp h
  have hne:x.1≠p.1:=fun e=>hx (e▸AZ)
  rw[Ma]
  by_cases e:x.1<=p.1
  ·rw[A5 e]
   have hlt:=Int.lt_iff_le_and_ne.mpr ⟨e,hne⟩
   exact D4.mpr ⟨fun q hq=>(Au.mp hq).elim (fun e=>e▸hlt) fun m=>Int.lt_trans hlt (hp.1 q m),h⟩
  ·rw[A3 e]
   exact D4.mpr ⟨fun q hq=>(Au.mp ((TI x r).mem_iff.mp hq)).elim (fun e'=>e'▸Int.not_le.mp e) (hp.1 q),ih hp.2 fun q=>hx (Aj _ q)⟩
theorem L1{α:Type}{A:List (Int×α)}:(A.map (·.1)).Nodup->Asc (Bn (·.1) A):=by
 induction A with
 |nil=>exact fun _=>List.Pairwise.nil
 |cons p r ih=>exact fun h=>b6 (ih (BZ.mp h).2) fun hm=>(BZ.mp h).1 (((Mc r).map _).mem_iff.mp hm)
theorem Op{α:Type}{A:List (Int×α)}{p:Int×α}(h:Asc (p::A)){n:Int}(hn:n<=p.1):AP n A=.none:=Cz.mpr fun hm=>by
 obtain⟨q,hq,e⟩:=BU.mp hm
 exact absurd (Int.lt_of_lt_of_le ((D4.mp h).1 q hq) (e.symm▸hn)) (Int.lt_irrefl _)
theorem Mf{α:Type}(p:Int×α)(A:List (Int×α)):AP p.1 (p::A)=some p.2:=A5 rfl
theorem TJ{α:Type}{A B:List (Int×α)}{p q:Int×α}(hb:Asc (q::B))(h:AP p.1 (p::A)=AP p.1 (q::B)):¬p.1 < q.1:=fun hlt=>by
 rw[Mf,CG,A3 (Int.ne_of_lt hlt),Op hb (Int.le_of_lt hlt)] at h
 cases h
theorem Mg{α:Type}{A:List (Int×α)}:∀{B:List (Int×α)},Asc A->Asc B->(∀n,AP n A=AP n B)->A=B:=by
 induction A with
 |nil=>
  intro B _ _ h
  cases B with
  |nil=>rfl
  |cons q B=>cases (h q.1).trans (Mf q B)
 |cons p A ih=>
  intro B ha hb h
  cases B with
  |nil=>cases (h p.1).symm.trans (Mf p A)
  |cons q B=>
   have hpq:p.1=q.1:=Int.le_antisymm (E1.mp (TJ ha (h q.1).symm)) (E1.mp (TJ hb (h p.1)))
   have e:=h p.1
   rw[Mf,CG,A5 hpq] at e
   have hp:p=q:=Prod.ext hpq (Option.some.inj e)
   subst hp
   refine A2 _ (ih (D4.mp ha).2 (D4.mp hb).2 fun n=>?_)
   have e:=h n
   rw[CG,CG] at e
   by_cases hn:n=p.1
   ·rw[Op ha (Int.le_of_eq hn),Op hb (Int.le_of_eq hn)]
   ·rw[A3 hn,A3 hn] at e;exact e
theorem GM{ds:List Int}{f:Int->Option α}{p:Int×α}:p∈D8 ds f↔p.1∈ds/\f p.1=some p.2:=by
 unfold D8
 rw[List.mem_filterMap]
 constructor
 ·rintro⟨n,hn,e⟩
  cases hf:f n with
  |none=>rw[hf] at e;cases e
  |some y=>rw[hf] at e;cases e;exact⟨hn,hf⟩
 ·rintro⟨hn,e⟩
  exact⟨p.1,hn,by rw[e];rfl⟩
theorem Hp(n:Int)(ds:List Int)(f:Int->Option α):D8 (n::ds) f=Av (f n) (fun y=>(n,y)::D8 ds f) (D8 ds f):=by
 unfold D8
 rw[FB]
 cases f n with
 |none=>rfl
 |some y=>rfl
theorem b7{f:Int->Option α}{ds:List Int}:ds.Pairwise (· < ·)->Asc (D8 ds f):=by
 induction ds with
 |nil=>exact fun _=>List.Pairwise.nil
 |cons n ds ih=>
  intro h
  have h:=D4.mp h
  rw[Hp]
  cases hf:f n with
  |none=>exact ih h.2
  |some y=>exact D4.mpr ⟨fun q hq=>h.1 _ (GM.mp hq).1,ih h.2⟩
theorem b8{f:Int->Option α}(m:Int){ds:List Int}:AP m (D8 ds f)=if m∈ds then f m else .none:=by
 induction ds with
 |nil=>exact(A3 B3).symm
 |cons n ds ih=>
  rw[Hp]
  by_cases hm:m=n
  ·subst hm
   rw[A5 AZ]
   cases hf:f m with
   |none=>exact ih.trans (hf▸ite_self _)
   |some y=>exact A5 rfl
  ·have e:(if m∈n::ds then f m else .none)=if m∈ds then f m else .none:=by
    by_cases q:m∈ds
    ·rw[A5 q,A5 (Aj _ q)]
    ·rw[A3 q,A3 fun x=>(Au.mp x).elim hm q]
   rw[e,<-ih]
   cases f n with
   |none=>rfl
   |some y=>exact A3 hm
theorem b9:B8.Pairwise (· < ·):=by decide
theorem FO:Asc (AF f):=b7 b9
theorem L3(h:Bc f)(n:Int):AP n (AF f)=f n:=by
 unfold AF
 rw[b8]
 by_cases hn:n∈B8
 ·exact A5 hn
 ·rw[A3 hn]
  cases hf:f n with
  |none=>rfl
  |some y=>exact absurd (h n y hf) hn
theorem Bg{α:Type}{A:List (Int×α)}(h:Asc A):(A.map (·.1)).Nodup:=List.pairwise_map.mpr (h.imp Int.ne_of_lt)
theorem Dic.of(h:Bc f):Dic (AF f) f:=⟨Bg FO,L3 h⟩
theorem Dic.srt(h:Dic A f)(s:Bc f):Bn (·.1) A=AF f:=Mg (L1 h.nod) FO fun n=>by rw[Me n h.nod,h.look,L3 s]
theorem Oq{α:Type}(A:List (Int×α)):(Bn (·.1) A).length=A.length:=(Mc A).length_eq
theorem HC:(AF f).length<=16:=List.length_filterMap_le _ _
theorem Dic.len(h:Dic A f)(s:Bc f):A.length<=16:=by rw[<-Oq A,h.srt s];exact HC
theorem bA{α β:Type}{k:α->Int}{k':β->Int}{h:α->β}(e:∀a,k' (h a)=k a)(x:α)(A:List α):DP k' (h x) (A.map h)=(DP k x A).map h:=by
 induction A with
 |nil=>rfl
 |cons p r ih=>
  rw[Dc,Ma,Ma,e,e]
  by_cases q:k x<=k p
  ·rw[A5 q,A5 q];rfl
  ·rw[A3 q,A3 q,ih];rfl
theorem Os{α β:Type}{k:α->Int}{k':β->Int}{h:α->β}(e:∀a,k' (h a)=k a)(A:List α):Bn k' (A.map h)=(Bn k A).map h:=by
 induction A with
 |nil=>rfl
 |cons p r ih=>exact(A2 (DP k' (h p)) ih).trans (bA e p _)
theorem bB{l:List Int}:l.Nodup->KM l=true:=by
 induction l with
 |nil=>exact fun _=>rfl
 |cons x r ih=>exact fun h=>Bb.mpr ⟨by rw[FY,Bool.eq_false_iff];exact fun q=>(BZ.mp h).1 (Da.mp q),ih (BZ.mp h).2⟩
theorem TK{c:Bool}{h:Int×α->D}(hk:∀a,(J5 (h a)).2=a.1)(hp:∀a,Hd c (h a)=true){A:List (Int×α)}(hn:(A.map (·.1)).Nodup)(hl:A.length < 64):ET (A.map h)=some ((Bn (·.1) A).map h):=by
 have h1:(A.map h).map (fun d=>(J5 d).2)=A.map (·.1):=by rw[Ai];exact List.map_congr_left fun a _=>hk a
 have h3:J6 (A.map h) c=true:=by unfold J6;rw[List.all_map,h1,bB hn,Bool.and_true];exact CO.mpr fun p _=>hp p
 unfold ET
 refine(A5 ?_).trans (A2 some (Os (k':=fun d=>(J5 d).2) (h:=h) hk A))
 unfold Gj
 rw[A4,Ae hl]
 cases c <;> rw[h3]
 ·rw[Bool.or_true,Bool.true_or];rfl
 ·rw[Bool.or_true];rfl
theorem bC{A:PM}(h:(A.map (·.1)).Nodup)(hl:A.length < 64):ET (A.map BB)=some ((Bn (·.1) A).map BB):=TK (c:=false) (fun _=>rfl) (fun _=>rfl) h hl
theorem Dic.sorted{A:PM}{f:Cy}(h:Dic A f)(s:Bc f):ET (A.map BB)=some ((AF f).map BB):=by
 rw[bC h.nod (Aa (h.len s) (nL rfl)),h.srt s]
theorem TL(A:PM):IA false (A.map fun p=>V.d (BB p))=some (A.map Aq):=by
 induction A with
 |nil=>rfl
 |cons p r ih=>exact bnd (a:=BB p) rfl (bnd (a:=((false,p.1),p.2)) rfl (BM rfl (AQ ih rfl)))
theorem Mh(A:PM):Dj (A.map fun p=>V.d (BB p))=false:=by
 cases A with
 |nil=>rfl
 |cons p r=>rfl
theorem bD{β:Type}(g:β->V)(B:List (Int×β)):∀(A:List (Int×β)),((B.map (vm g)).foldl (fun es p=>BL p.1 p.2 es) (A.map (vm g)))=(B.foldl (fun es p=>BL p.1 p.2 es) A).map (vm g):=by
 induction B with
 |nil=>exact fun A=>rfl
 |cons p r ih=>
  intro A
  rw[Dc,List.foldl_cons,List.foldl_cons]
  exact(A2 (List.foldl _ · (r.map (vm g))) (Om g p.1 p.2 A)).trans (ih _)
theorem TM{k:Int}{y:α}{A:List (Int×α)}:k∉A.map (·.1)->BL k y A=A++[(k,y)]:=by
 induction A with
 |nil=>exact fun _=>rfl
 |cons p r ih=>exact fun h=>(A3 fun e:k=p.1=>h (e▸AZ)).trans (A2 (p::·) (ih fun q=>h (Aj _ q)))
theorem bE{B:List (Int×α)}:∀{A:List (Int×α)},((A++B).map (·.1)).Nodup->B.foldl (fun es p=>BL p.1 p.2 es) A=A++B:=by
 induction B with
 |nil=>exact fun {A} _=>(As A).symm
 |cons p r ih=>
  intro A h
  have h':p.1∉A.map (·.1):=by
   rw[AK] at h
   exact fun hm=>(FD.mp h).2.2 _ hm _ AZ rfl
  rw[List.foldl_cons,TM h',ih (by rwa [AJ]),AJ]
  rfl
theorem Je{g:α->V}{A:List (Int×α)}(h:(A.map (·.1)).Nodup):Cq (A.map (vm g))=A.map (vm g):=(bD g A []).trans (A2 (List.map (vm g)) (bE (A:=[]) h))
theorem TN{A:PM}(h:(A.map (·.1)).Nodup):Cq (A.map Aq)=A.map Aq:=Je (g:=V.d) h
end
open PySem
noncomputable def AL(p:Int×Str):D:=.tup [.key p.1,.str p.2]
theorem bF{p q r:Prop}[Decidable p][Decidable q][Decidable r](h:r↔p/\q):cond (decide p) (some (decide q)) (some false)=some (decide r):=by
 by_cases hp:p
 ·rw[Ae hp]
  exact A2 some (decide_eq_decide.mpr ⟨fun hq=>h.mpr ⟨hp,hq⟩,fun hr=>(h.mp hr).2⟩)
 ·rw[decide_eq_false hp,decide_eq_false fun hr=>hp (h.mp hr).1]
  rfl
theorem Jf{a b:D}{as bs:List D}{p q r:Prop}[Decidable p][Decidable q][Decidable r](h1:CW a b=some (decide p))(h2:FG as bs=some (decide q))(h:r↔p/\q):FG (a::as) (b::bs)=some (decide r):=bnd h1 (h2▸bF h)
theorem Ot{a b:D}{p r:Prop}[Decidable p][Decidable r](h1:CW a b=some (decide p))(h:r↔p):FG [a] [b]=some (decide r):=Jf (q:=True) h1 rfl (h.trans (and_true _▸Iff.rfl))
theorem Ou{α:Type}[DecidableEq α](g:α->D)(hg:∀a b,CW (g a) (g b)=some (decide (a=b)))(l:List α):∀m:List α,FG (l.map g) (m.map g)=some (decide (l=m)):=by
 induction l with
 |nil=>
  intro m
  cases m with
  |nil=>rfl
  |cons _ _=>rfl
 |cons p l ih=>
  intro m
  cases m with
  |nil=>rfl
  |cons q m=>exact Jf (hg p q) (ih m) List.cons_eq_cons
theorem Ov{l m:List D}{r:Option Bool}(h:FG l m=r):CW (.lst l) (.lst m)=r:=h
theorem Ow{l m:List D}{r:Option Bool}(h:FG l m=r):CW (.tup l) (.tup m)=r:=h
theorem bG{a b:D}{l m:List D}(h:CW a b=some false):FG (a::l) (b::m)=some false:=bnd h rfl
theorem enc_eq(p q:Int×Str):CW (AL p) (AL q)=some (decide (p=q)):=Jf (a:=.key p.1) (b:=.key q.1) (as:=[.str p.2]) (bs:=[.str q.2]) (p:=p.1=q.1) (q:=p.2=q.2) rfl (Ot (p:=p.2=q.2) rfl Iff.rfl) Prod.ext_iff
theorem TO(a:Str):CW (.str a) (.str a)=some (decide True):=A2 some (Ae rfl)
theorem TR:¬Str.ofString "leaf" = Str.ofString "inner":=by decide +kernel
open Classical in
theorem TT{a b:Str}{l m:List D}(h:¬a=b):CW (.tup (.str a::l)) (.tup (.str b::m))=some (decide (D.tup (.str a::l)=.tup (.str b::m))):=
 (Ow (bG (a:=.str a) (b:=.str b) (A2 some (decide_eq_false h)))).trans (A2 some (decide_eq_false fun e=>h (D.str.inj (List.cons.inj (D.tup.inj e)).1)).symm)
theorem TU{a:Str}{l m:List D}{p:Prop}(h:l=m↔p):D.tup (.str a::l)=.tup (.str a::m)↔True/\p:=⟨fun e=>⟨trivial,h.mp (List.cons.inj (D.tup.inj e)).2⟩,fun e=>A2 (fun l=>D.tup (.str a::l)) (h.mpr e.2)⟩
theorem Ox{α:Type}{g:α->D}(hg:∀a b,g a=g b->a=b){l m:List α}:D.lst (l.map g)=.lst (m.map g)↔l=m:=⟨fun e=>(List.map_inj_right hg).mp (D.lst.inj e),fun e=>A2 (fun l=>D.lst (l.map g)) e⟩
theorem TV{a b:D}{p:Prop}(h:a=b↔p):[a]=[b]↔p:=⟨fun e=>h.mp (List.cons.inj e).1,fun e=>A2 (fun a=>[a]) (h.mpr e)⟩
theorem bH{a b:D}{l m:List D}{p q:Prop}(h:a=b↔p)(h':l=m↔q):a::l=b::m↔p/\q:=⟨fun e=>⟨h.mp (List.cons.inj e).1,h'.mp (List.cons.inj e).2⟩,fun e=>congr (A2 List.cons (h.mpr e.1)) (h'.mpr e.2)⟩
open Classical in
theorem TW{x y:D}(hx:Pg x)(hy:Pg y):CW x y=some (decide (x=y)):=by
 cases hx with
 |leaf l=>
  cases hy with
  |leaf m=>exact Ow (Jf (TO _) (Ot (Ov (Ou AL enc_eq l m)) Iff.rfl) (TU (TV (Ox fun a b h=>Prod.ext (D.key.inj (List.cons.inj (D.tup.inj h)).1) (D.str.inj (List.cons.inj (List.cons.inj (D.tup.inj h)).2).1)))))
  |inner ks cs=>exact TT TR
 |inner ks cs=>
  cases hy with
  |leaf m=>exact TT fun e=>TR e.symm
  |inner ks' cs'=>exact Ow (Jf (TO _) (Jf (r:=ks=ks'/\cs=cs') (Ov (Ou .key (fun a b=>rfl) ks ks')) (Ot (Ov (Ou .int (fun a b=>rfl) cs cs')) Iff.rfl) Iff.rfl) (TU (bH (Ox fun a b h=>D.key.inj h) (TV (Ox fun a b h=>D.int.inj h)))))
theorem TX{P:D->Prop}{l:List D}(hP:∀d,P d->CW d d=some true):(∀d∈l,P d)->FG l l=some true:=by
 induction l with
 |nil=>exact fun _=>rfl
 |cons d l ih=>exact fun h=>bnd (hP d (h d AZ)) (ih fun e he=>h e (Aj _ he))
theorem TY{n:Nat}{l:List D}:Cp l n=true->∀d∈l,Be d n=true:=by
 induction l with
 |nil=>exact fun _ _ h=>absurd h B3
 |cons a l ih=>exact fun h d hd=>(Au.mp hd).elim (fun e=>e▸(Bb.mp h).1) (ih (Bb.mp h).2 d)
theorem bI(x:D)(n:Nat):Be x n=true->CW x x=some true:=by
 induction n generalizing x with
 |zero=>
  intro h
  cases x with
  |none=>rfl
  |bool _=>exact Bool.noConfusion h
  |int _=>exact A2 some (Ae rfl)
  |key _=>exact A2 some (Ae rfl)
  |str _=>exact A2 some (Ae rfl)
  |tup _=>exact Bool.noConfusion h
  |lst _=>exact Bool.noConfusion h
 |succ n ih=>
  intro h
  cases x with
  |none=>rfl
  |bool _=>exact Bool.noConfusion h
  |int _=>exact A2 some (Ae rfl)
  |key _=>exact A2 some (Ae rfl)
  |str _=>exact A2 some (Ae rfl)
  |tup l=>exact TX ih (TY (l:=l) h)
  |lst l=>exact TX ih (TY (l:=l) h)
theorem IW{α:Type}{g:α->D}{n:Nat}{l:List α}:(∀a∈l,Be (g a) n=true)->Cp (l.map g) n=true:=by
 induction l with
 |nil=>exact fun _=>rfl
 |cons a l ih=>exact fun h=>Bb.mpr ⟨h a AZ,ih fun b hb=>h b (Aj _ hb)⟩
theorem Oy{α:Type}{g:α->D}{n:Nat}{l:List α}(h:∀a∈l,Be (g a) n=true):Be (.lst (l.map g)) (n+1)=true:=IW h
theorem IX{x:D}(h:Pg x)(n:Nat):Be x (n+3)=true:=by
 cases h with
 |leaf l=>
  show(true&&(Cp _ (n+1)&&true))=true
  rw[IW fun a _=>rfl];rfl
 |inner ks cs=>
  show(true&&(Cp _ (n+1)&&(Cp _ (n+1)&&true)))=true
  rw[IW fun a _=>rfl,IW fun a _=>rfl];rfl
theorem Oz{t:PF}(g:Good t)(n:Nat):Be (B2 t) (n+6)=true:=by
 show(Cp ((AF t.f).map BB) (n+4)&&(true&&true))=true
 rw[IW fun p hp=>?_]
 ·rfl
 ·show(true&&(Be p.2 (n+3)&&true))=true
  rw[IX (g.pg p.1 p.2 (GM.mp hp).2)];rfl
inductive Rec where
 |wr (n:Int) (p:D) |fr (n:Int) |cm (r:Int)
noncomputable def Ap:Rec->D
 |.wr n p=>.tup [.str "write",.int n,p]
 |.fr n=>.tup [.str "free",.int n]
 |.cm r=>.tup [.str "commit",.int r]
noncomputable def EZ:Rec->Prop
 |.wr n p=>Pg p/\n∈B8
 |_=>True
theorem bJ{x:Rec}(h:EZ x)(n:Nat):Be (Ap x) (n+4)=true:=by
 cases x with
 |wr k p=>
  show(true&&(true&&(Be p (n+3)&&true)))=true
  rw[IX h.1];rfl
 |_=>rfl
noncomputable def Ao(l:List Rec):D:=.lst (l.map Ap)
theorem Mi{l:List Rec}(h:∀x∈l,EZ x)(n:Nat):Be (Ao l) (n+5)=true:=Oy fun x hx=>bJ (h x hx) n
open Classical in
noncomputable def d1(f g:Cy)(n:Int):List Rec:=match f n,g n with
 |.none,.none=>[]
 |some _,.none=>[.fr n]
 |.none,some y=>[.wr n y]
 |some x,some y=>if x=y then [] else [.wr n y]
noncomputable def CH(f g:Cy):List Rec:=B8.flatMap (d1 f g)
theorem TZ(f g:Cy)(n:Int):(d1 f g n).length<=1:=by
 unfold d1
 split
 ·exact BK _
 ·exact Am _
 ·exact Am _
 ·split
  ·exact BK _
  ·exact Am _
theorem Tb{f g:Cy}:∀ds:List Int,(ds.flatMap (d1 f g)).length<=ds.length
 |[]=>Am _
 |n::ds=>by
  have:=Tb (f:=f) (g:=g) ds
  rw[List.flatMap_cons,AC,Nat.add_comm];exact DF this (TZ f g n)
theorem Mj(f g:Cy):(CH f g).length<=16:=Tb B8
theorem bL{a b:PF}(g:Good b):∀x∈CH a.f b.f,EZ x:=by
 intro x hx
 obtain⟨n,hn,h⟩:=List.mem_flatMap.mp hx
 unfold d1 at h
 split at h
 ·cases h
 ·rw[Ar.mp h];trivial
 ·rename_i y _ hy;rw[Ar.mp h];exact⟨g.pg n y hy,hn⟩
 ·rename_i x' y _ hy
  split at h
  ·cases h
  ·rw[Ar.mp h];exact⟨g.pg n y hy,hn⟩
open PySem
theorem union_fold:∀(l acc:List Int),acc.Nodup->(l.foldl (fun l x=>if l.contains x then l else l++[x]) acc).Nodup/\∀x,x∈l.foldl (fun l x=>if l.contains x then l else l++[x]) acc↔x∈acc\/x∈l
 |[],acc,h=>⟨h,fun x=>by simp⟩
 |y::r,acc,h=>by
  simp only [List.foldl_cons]
  by_cases hy:acc.contains y=true
  ·rw[A5 hy]
   obtain⟨h1,h2⟩:=union_fold r acc h
   refine⟨h1,fun x=>?_⟩
   rw[h2 x,Au]
   have:=Da.mp hy
   exact⟨fun q=>q.imp_right .inr,fun q=>q.elim .inl fun q=>q.elim (fun e=>.inl (e▸this)) .inr⟩
  ·rw[A3 hy]
   have hn:y∉acc:=fun q=>hy (Da.mpr q)
   obtain⟨h1,h2⟩:=union_fold r (acc++[y]) (FD.mpr ⟨h,BZ.mpr ⟨B3,Ca⟩,fun a ha b hb e=>hn (by rw[Ar.mp hb] at e;exact e▸ha)⟩)
   refine⟨h1,fun x=>?_⟩
   rw[h2 x,Bv,Ar,Au,or_assoc]
theorem Td{p:Int->Bool}:∀ds:List Int,(D8 ds fun n=>cond (p n) (some D.none) .none).map (·.1)=ds.filter p
 |[]=>rfl
 |n::ds=>by
  have ih:=Td (p:=p) ds
  unfold D8 at ih ⊢
  rw[FB,Gc]
  cases hp:p n with
  |true=>simp only [hp];exact A2 (n::·) ih
  |false=>simp only [hp];exact ih
theorem Te{l:List Int}(h:l.Nodup)(hd:∀n∈l,n∈B8):ET (l.map .int)=some ((B8.filter fun n=>l.contains n).map .int):=by
 let f:Cy:=fun n=>cond (l.contains n) (some D.none) .none
 have hl:∀(m:List Int) (n:Int),AP n (m.map fun n=>(n,D.none))=cond (m.contains n) (some D.none) .none:=by
  intro m n
  induction m with
  |nil=>rfl
  |cons y r ih=>
   simp only [Dc,AP,ih,List.contains_cons]
   by_cases e:n=y
   ·subst e;simp
   ·rw[A3 e,beq_eq_false_iff_ne.mpr e,Bool.false_or]
 have hD:Dic (l.map fun n=>(n,D.none)) f:=⟨by rw[Ai];exact(List.map_id l).symm▸h,fun n=>hl l n⟩
 have hS:Bc f:=fun n y e=>by
  have e:cond (l.contains n) (some D.none) .none=some y:=e
  cases hc:l.contains n with
  |true=>exact hd n (Da.mp hc)
  |false=>rw[hc] at e;cases e
 have hlen:=hD.len hS
 rw[A4] at hlen
 unfold ET
 refine(A5 ?_).trans (A2 some ?_)
 ·unfold Gj
  rw[A4,Ae (Aa hlen (nL rfl)),show(l.map D.int).all KL=true from by rw[List.all_map];exact CO.mpr fun _ _=>rfl]
  rfl
 ·rw[Os (k:=fun i:Int=>i) (fun a=>rfl)]
  refine A2 _ ?_
  have e1:=hD.srt hS
  rw[Os (k:=fun i:Int=>i) (fun a=>rfl)] at e1
  have e2:=A2 (List.map (·.1)) e1
  rw[Ai,show(AF f).map (·.1)=B8.filter fun n=>l.contains n from Td B8] at e2
  exact(List.map_id _).symm.trans e2
section
variable{f g:Cy}
theorem Mk(s:Bc f){n:Int}:n∈((AF f).map Aq).map (·.1)↔(f n).isSome=true:=by
 rw[Ai]
 constructor
 ·intro h
  obtain⟨p,hp,e⟩:=BU.mp h
  subst e
  show(f p.1).isSome=true
  rw[(GM.mp hp).2];rfl
 ·intro h
  obtain⟨y,hy⟩:=J4.mp h
  exact BU.mpr ⟨(n,y),GM.mpr ⟨s n y hy,hy⟩,rfl⟩
theorem union_ok(hf:Bc f)(hg:Bc g){st:St}:Ls (false,(AF f).map Aq) (false,(AF g).map Aq) st=some (.fresh (((B8.filter fun n=>(f n).isSome||(g n).isSome).map .int).map .d),st):=by
 have ok:∀{h:Cy},Bc h->Kb (false,(AF h).map Aq)=true:=fun {h} s=>by
  have hd:∀n∈B8,(decide (0<=n)&&decide (n < 64))=true:=by decide
  unfold Kb
  rw[A4,Ae (A9 HC (nL rfl)),List.all_map]
  simp only [Bool.not_false,Bool.true_and]
  exact CO.mpr fun p hp=>hd _ (GM.mp hp).1
 obtain⟨h1,h2⟩:=union_fold (((AF f).map Aq).map (·.1)++((AF g).map Aq).map (·.1)) [] Ca
 have hd:∀n∈IC (((AF f).map Aq).map (·.1)) (((AF g).map Aq).map (·.1)),n∈B8:=fun n hn=>by
  cases Bv.mp (((h2 n).mp hn).resolve_left B3) with
  |inl h=>obtain⟨y,hy⟩:=J4.mp ((Mk hf).mp h);exact hf n y hy
  |inr h=>obtain⟨y,hy⟩:=J4.mp ((Mk hg).mp h);exact hg n y hy
 unfold Ls
 rw[ok hf,ok hg]
 refine(A5 rfl).trans (AQ (Te h1 hd) ?_)
 have:(B8.filter fun n=>(IC (((AF f).map Aq).map (·.1)) (((AF g).map Aq).map (·.1))).contains n)=B8.filter fun n=>(f n).isSome||(g n).isSome:=List.filter_congr fun n _=>by
  rw[Bool.eq_iff_iff,Da,Bool.or_eq_true,<-Mk hf,<-Mk hg,<-Bv]
  exact(h2 n).trans ⟨fun q=>q.resolve_left B3,.inr⟩
 rw[this]
theorem P1{p:Int->Bool}{h:Int->List Rec}(e:∀n,p n=false->h n=[]):∀ds:List Int,(ds.filter p).flatMap h=ds.flatMap h
 |[]=>rfl
 |n::ds=>by
  rw[Gc,List.flatMap_cons]
  cases hp:p n with
  |true=>rw[A5 rfl,List.flatMap_cons,P1 e ds]
  |false=>rw[A3 CT,e n hp,P1 e ds];rfl
theorem bM:(B8.filter fun n=>(f n).isSome||(g n).isSome).flatMap (d1 f g)=CH f g:=P1 (fun n h=>by
 unfold d1
 cases hf:f n <;> cases hg:g n <;> simp [hf,hg] at h ⊢) B8
end
section
variable{G:Gl}{fn:Fn}{K:Nat}{st st₁ st₂:St}{xs:List (Str×V)}{σ σ':List Cell}{e:Expr}{p q p1 p2 q1 q2 q3 q4:Pos}{r r₁ r₂:R}{A:PM}{f g:Cy}
theorem IY(hE:∀n,Fj G (AU G (n+K)) fn "dict" [e] st=Nl (AU G (n+K)) fn e st)(h:Ev G fn K e st (.val (.d (.lst (A.map BB)))) ⟨xs,σ⟩)(hn:(A.map (·.1)).Nodup):Ev G fn (K+1) (.Call (.Name "dict" q) [e] [] p) st (.val (.loc σ.length)) ⟨xs,σ++[.dct false (A.map Aq)]⟩:=by
 have hm:(A.map BB).map V.d=A.map fun p=>V.d (BB p):=Ai
 have h2:=Kw hE h (l:=A.map fun p=>V.d (BB p)) (prs:=A.map Aq) (A2 some hm) (by rw[Mh];exact TL A) (p:=p) (q:=q)
 rw[Mh,TN hn] at h2
 exact h2
theorem bN{x y:Expr}{d d':Bool×List (Int×V)}(hE:∀n,Fj G (AU G (n+K)) fn "sorted" [.BinOp (.Call (.Name "set" p1) [x] [] q1) .BitOr (.Call (.Name "set" p2) [y] [] q2) q3] st=Nn (AU G (n+K)) fn x y st)
 (h1:Ev G fn K x st r₁ st₁) (d1:Ek st₁.store r₁=some d) (h2:Ev G fn K y st₁ r₂ st₂) (d2:Ek st₂.store r₂=some d') (hu:Ls d d' st₂=some (r,st₂)):Ev G fn (K+1) (.Call (.Name "sorted" p) [.BinOp (.Call (.Name "set" p1) [x] [] q1) .BitOr (.Call (.Name "set" p2) [y] [] q2) q3] [] q4) st r st₂:=fun n=>(hE n).trans (bnd (h1 n) (bnd d1 (bnd (h2 n) (bnd d2 hu))))
theorem bO{l:List V}{m:Nat}{x:V}(hl:l.length < lim):JA σ m l "append" [x]=some (.val (.d .none),σ.set m (.lst (l++[x]))):=Dp (c:=_=_) rfl (Dp hl rfl)
theorem Jg{i:Nat}{l₀ l:List V}{v:V}{xs':List (Str×V)}{ap pos:Pos}{σ₀:List Cell}(hok:true=Dn e ap pos 1){e':Expr}(hb:Ev G fn K e st (.val (.loc i)) ⟨xs,σ₀⟩)(hs:σ₀[i]?=some (.lst l₀))(ha:Kp G fn K fn.hm e' ⟨xs,σ₀⟩ v ⟨xs',σ⟩)(hs':σ[i]?=some (.lst l))(hl:l.length < lim)(hσ:σ.set i (.lst (l++[v]))=σ'):X1 G fn (K+1) (.Expr (.Call (.Attribute e "append" ap) [e'] [] pos) p) st .next ⟨xs',σ'⟩:=
 HB rfl (Kx hok hb hs (BT ha Bq) hs' (hσ▸bO hl))
end
open PySem
theorem L4:PyData.strOk "write" = true:=by decide +kernel
theorem Ml:PyData.strOk "free" = true:=by decide +kernel
theorem CU:PyData.strOk "commit" = true:=by decide +kernel
section
variable{σ:List Cell}{m:Nat}{es:List (Int×V)}{k:Int}{w:V}{b:Bool}
theorem Fo{i:Int}:ES b es (b,i)=true:=by cases b <;> simp [ES]
theorem Hq{c:Bool}(h:σ[m]?=some (.dct false es))(hc:(AP k es).isSome=c):Fh σ (.val (.d (.int k))) (.val (.loc m))=some c:=Ba (a:=(false,es)) (bnd (a:=m) rfl (by rw[h];rfl)) (bnd (a:=(false,k)) rfl (BM Fo (A2 some hc)))
theorem Jh(h:σ[m]?=some (.dct false es))(hl:AP k es=some w):CL σ (.val (.loc m)) (.val (.d (.int k)))=some w:=Ba (a:=(false,es)) (bnd (a:=m) rfl (by rw[h];rfl)) (bnd (a:=(false,k)) rfl (BM Fo hl))
theorem Fp{x y:D}{c b:Bool}(h:Gi x y=some c)(hb:(!c)=b):Di .NotEq σ (.val (.d x)) (.val (.d y))=some b:=bnd (a:=x) rfl (bnd (a:=y) rfl (AQ h hb))
theorem GN{x y:D}{c:Bool}(h:Gi x y=some c):Di .Eq σ (.val (.d x)) (.val (.d y))=some c:=bnd (a:=x) rfl (bnd (a:=y) rfl h)
theorem Hr{x y:D}{c:Bool}(hx:Be x 30=true)(hy:Be y 30=true)(h:CW x y=some c):Gi x y=some c:=BM (by rw[hx,hy];rfl) h
theorem IZ{x:D}(hx:Be x 30=true):Gi x x=some true:=Hr hx hx (bI x 30 hx)
theorem Fq{a b:Str}{c:Bool}(h:decide (a=b)=c):Gi (.str a) (.str b)=some c:=Hr rfl rfl (by rw[<-h];rfl)
end
section
variable{a b:PF}{o:List Rec}{k:Int}{xs:List (Str×V)}
noncomputable def D0(A B:PM)(o:List Rec):List Cell:=[.dct false (A.map Aq),.dct false (B.map Aq),.lst (o.map fun r=>V.d (Ap r))]
noncomputable def P2:List (Str×V):=[("a",.loc 0),("b",.loc 1),("out",.loc 2)]
noncomputable def chk(k:Int):List (Str×V):=[("a",.loc 0),("b",.loc 1),("out",.loc 2),("n",.d (.int k))]
theorem Fs(g:Good a):AP k ((AF a.f).map Aq)=(a.f k).map V.d:=by rw[ay,L3 g.dm]
theorem Tf(h:o.length < 900):(o.map fun r=>V.d (Ap r)).length < lim:=by rw[A4];exact AN h (nL rfl)
theorem Th(A B:PM)(x:Rec):(D0 A B o).set 2 (.lst ((o.map fun r=>V.d (Ap r))++[.d (Ap x)]))=D0 A B (o++[x]):=by
 unfold D0;rw[AK];rfl
open Classical in
theorem bP(ga:Good a)(gb:Good b)(h:A8 xs (chk k))(hl:o.length < 900)(hk:((a.f k).isSome||(b.f k).isSome)=true) :
 Ex gl EW 20 (CX (BV EW 2)) ⟨xs,D0 (AF a.f) (AF b.f) o⟩ .next ⟨xs,D0 (AF a.f) (AF b.f) (o++d1 a.f b.f k)⟩:=by
 have hn:∀{K:Nat} {p:Pos},Ev gl EW (K+1) (.Name "n" p) ⟨xs,D0 (AF a.f) (AF b.f) o⟩ (.val (.d (.int k))) ⟨xs,D0 (AF a.f) (AF b.f) o⟩:=pn h rfl rfl
 have ha:∀{K:Nat} {p:Pos},Ev gl EW (K+1) (.Name "a" p) ⟨xs,D0 (AF a.f) (AF b.f) o⟩ (.val (.loc 0)) ⟨xs,D0 (AF a.f) (AF b.f) o⟩:=pn h rfl rfl
 have hb:∀{K:Nat} {p:Pos},Ev gl EW (K+1) (.Name "b" p) ⟨xs,D0 (AF a.f) (AF b.f) o⟩ (.val (.loc 1)) ⟨xs,D0 (AF a.f) (AF b.f) o⟩:=pn h rfl rfl
 have ho:∀{K:Nat} {p:Pos},Ev gl EW (K+1) (.Name "out" p) ⟨xs,D0 (AF a.f) (AF b.f) o⟩ (.val (.loc 2)) ⟨xs,D0 (AF a.f) (AF b.f) o⟩:=pn h rfl rfl
 have wr:∀{y:D},b.f k=some y->Ex gl EW 18 (CX (at' (GI (at' (CX (BV EW 2)) 0)) 0)) ⟨xs,D0 (AF a.f) (AF b.f) o⟩ .next ⟨xs,D0 (AF a.f) (AF b.f) (o++[.wr k y])⟩:=fun {y} hy=>
  xO (Jg rfl ho rfl (AH (Az (vs:=[.d (.str "write"),.d (.int k),.d y]) (sK (BW L4) (sK hn (sZ (BF rfl hb hn (Jh rfl (by rw[Fs gb,hy];rfl)))))) rfl (by decide))) rfl (Tf hl) (Th _ _ (.wr k y)))
 have ib:∀{y:Option D},b.f k=y->(AP k ((AF b.f).map Aq)).isSome=(y.map V.d).isSome:=fun {y} e=>by rw[Fs gb,e]
 have ia:∀{y:Option D},a.f k=y->(AP k ((AF a.f).map Aq)).isSome=(y.map V.d).isSome:=fun {y} e=>by rw[Fs ga,e]
 cases hy:b.f k with
 |none=>
  rw[hy] at hk
  cases hx:a.f k with
  |none=>rw[hx] at hk;exact nomatch hk
  |some x=>
   rw[show d1 a.f b.f k=[.fr k] from by unfold d1;rw[hx,hy]]
   exact xO (B4 (Hk hn hb (Hq rfl (ib hy)) rfl) (xO (Jg rfl ho rfl (AH (Az (vs:=[.d (.str "free"),.d (.int k)]) (sK (BW Ml) (sZ hn)) rfl (by decide))) rfl (Tf hl) (Th _ _ (.fr k)))))
 |some y=>
  refine xO (B1 (Hk hn hb (Hq rfl (ib hy)) rfl) ?_)
  cases hx:a.f k with
  |none=>
   rw[show d1 a.f b.f k=[.wr k y] from by unfold d1;rw[hx,hy]]
   exact xO (B4 (Oi (aw (Hk hn ha (Hq rfl (ia hx)) rfl))) (wr hy))
  |some x=>
   have pe:=Hr (IX (ga.pg k x hx) 27) (IX (gb.pg k y hy) 27) (TW (ga.pg k x hx) (gb.pg k y hy))
   have gx:CL (D0 (AF a.f) (AF b.f) o) (.val (.loc 0)) (.val (.d (.int k)))=some (.d x):=Jh rfl (by rw[Fs ga,hx];rfl)
   have gy:CL (D0 (AF a.f) (AF b.f) o) (.val (.loc 1)) (.val (.d (.int k)))=some (.d y):=Jh rfl (by rw[Fs gb,hy];rfl)
   by_cases e:x=y
   ·rw[show d1 a.f b.f k=[] from by unfold d1;rw[hx,hy];exact A5 e,As]
    rw[Ae e] at pe
    exact xO (B1 (Oi (TD (Hk hn ha (Hq rfl (ia hx)) rfl) (TE (An rfl (BF rfl ha hn gx) (BF rfl hb hn gy) (Fp pe rfl))))) BO)
   ·rw[show d1 a.f b.f k=[.wr k y] from by unfold d1;rw[hx,hy];exact A3 e]
    rw[decide_eq_false e] at pe
    exact xO (B4 (Oi (TD (Hk hn ha (Hq rfl (ia hx)) rfl) (TE (An rfl (BF rfl ha hn gx) (BF rfl hb hn gy) (Fp pe rfl))))) (wr hy))
theorem Mn{x:Str}{v:V}{xs:List (Str×V)}{σ:List Cell}:Em (.one x) v ⟨xs,σ⟩=some ⟨AS x v xs,σ⟩:=rfl
theorem Ti(ga:Good a)(gb:Good b):∀(ks:List Int) (o:List Rec) (xs:List (Str×V)),(∀k∈ks,((a.f k).isSome||(b.f k).isSome)=true)->A8 xs P2->o.length+ks.length < 900->
 ∃ys,Lp gl EW 20 (.one "n") (CX (BV EW 2)) (ks.map fun i=>.d (.int i)) ⟨xs,D0 (AF a.f) (AF b.f) o⟩ ⟨ys,D0 (AF a.f) (AF b.f) (o++ks.flatMap (d1 a.f b.f))⟩/\A8 ys P2
 |[],o,xs,_,h,_=>⟨xs,by rw[List.flatMap_nil,As];exact GK,h⟩
 |k::r,o,xs,hk,h,hl=>by
  have h1:=TZ a.f b.f k
  simp only [DD] at hl
  have h2:A8 (AS "n" (V.d (.int k)) xs) (chk k):=h.put rfl
  obtain⟨ys,e,hy⟩:=Ti ga gb r (o++d1 a.f b.f k) _ (fun k hk'=>hk k (Aj _ hk')) (h.other rfl:A8 (AS "n" (V.d (.int k)) xs) P2) (by rw[AC,Dd,Nat.add_comm (d1 a.f b.f k).length];exact Aa (C9 (C9 h1 _) _) hl)
  rw[List.flatMap_cons,<-AJ]
  exact⟨ys,Hn Mn (bP ga gb h2 (Aa (BJ _ _) hl) (hk k AZ)) e,hy⟩
theorem Tj{σ:List Cell}{m:Nat}{l:List D}(h:σ[m]?=some (.lst (l.map .d))):J9 σ (.val (.loc m))=some (.val (.d (.lst l))):=by
 have:∀(k:Nat) (l:List D),(l.map V.d).mapM (FK k σ)=some l:=by
  intro k l
  induction l with
  |nil=>rfl
  |cons x r ih=>
   rw[Dc,List.mapM_cons,ih]
   cases k <;> rfl
 exact AQ (a:=.lst l) (bnd (a:=l.map .d) (by rw[h];rfl) (AQ (this 7 l) rfl)) rfl
theorem bQ(ga:Good a)(gb:Good b):Cl gl EW 30 [.d (B2 a),.d (B2 b)] [] (.val (.d (Ao (CH a.f b.f)))) []:=by
 have hs0:A8 [("old",V.d (B2 a)),("new",V.d (B2 b))] [("old",V.d (B2 a)),("new",V.d (B2 b))]:=.refl
 obtain⟨ys,e,hy⟩:=Ti ga gb (B8.filter fun n=>(a.f n).isSome||(b.f n).isSome) [] [("old",V.d (B2 a)),("new",V.d (B2 b)),("a",.loc 0),("b",.loc 1),("out",.loc 2)] (fun k hk=>(List.mem_filter.mp hk).2) (.cons rfl (.cons rfl (.cons rfl .nil))) (Aa (C9 (List.length_filter_le _ _) _) (nL rfl))
 rw[List.nil_append,bM] at e
 refine Cw rfl rfl (AX rfl (Cu rfl rfl (BA (AH (IY (σ:=[]) (fun n=>rfl) (iX (pn hs0 rfl rfl) rfl) (Bg FO))) (BA (AH (IY (fun n=>rfl) (iX (pn hs0 rfl rfl) rfl) (Bg FO))) Cv)) (tN rfl (tO rfl))) ?_)
 refine AX rfl (Ac (Ci (l:=[]) (BS Bq rfl) rfl) rfl) ?_
 refine AX (xs':=ys) (σ':=D0 (AF a.f) (AF b.f) (CH a.f b.f)) rfl (Hm (l:=⟨(B8.filter fun n=>(a.f n).isSome||(b.f n).isSome).map fun i=>.d (.int i),false⟩) (Jd (fun _=>rfl) (bN (fun n=>rfl) (pR rfl rfl) rfl (pR rfl rfl) rfl (union_ok ga.dm gb.dm)) ?_) rfl rfl (Mine.U.up (nL rfl) (P:=fun n=>forLoop' (AU gl n) EW _ _ _ _=some _) e)) ?_
 ·exact A2 (fun l=>some (l,_)) Ai
 ·refine CR rfl (Bf (pn hy rfl rfl)) (Tj ?_)
  exact A2 (fun l=>some (Cell.lst l)) (Ai).symm
end
open PySem
noncomputable def Bs:Rec->Bool
 |.cm _=>true
 |_=>false
noncomputable def FP:Nat->Nat->List Rec->Nat
 |_,a,[]=>a
 |i,a,r::l=>FP (i+1) (cond (Bs r) (i+1) a) l
noncomputable def Bh(t:PF):Rec->PF
 |.wr n p=>⟨upd t.f n (some p),t.r⟩
 |.fr n=>⟨upd t.f n .none,t.r⟩
 |.cm k=>⟨t.f,k⟩
noncomputable def By(l:List Rec):List Rec:=l.take (FP 0 0 l)
noncomputable def Ea(t:PF)(log:List Rec):PF:=(By log).foldl Bh t
theorem P3{t:PF}(g:Good t){x:Rec}(h:EZ x):Good (Bh t x):=by
 cases x with
 |wr n p=>exact⟨fun m y e=>by
  by_cases hm:m=n
  ·subst hm;rw[show(Bh t (.wr m p)).f=upd t.f m (some p) from rfl,AY] at e;cases e;exact h.1
  ·rw[show(Bh t (.wr n p)).f=upd t.f n (some p) from rfl,Ah hm] at e;exact g.pg m y e,fun m y e=>by
  by_cases hm:m=n
  ·subst hm;exact h.2
  ·rw[show(Bh t (.wr n p)).f=upd t.f n (some p) from rfl,Ah hm] at e;exact g.dm m y e⟩
 |fr n=>exact⟨fun m y e=>by
  by_cases hm:m=n
  ·subst hm;rw[show(Bh t (.fr m)).f=upd t.f m .none from rfl,AY] at e;cases e
  ·rw[show(Bh t (.fr n)).f=upd t.f n .none from rfl,Ah hm] at e;exact g.pg m y e,fun m y e=>by
  by_cases hm:m=n
  ·subst hm;rw[show(Bh t (.fr m)).f=upd t.f m .none from rfl,AY] at e;cases e
  ·rw[show(Bh t (.fr n)).f=upd t.f n .none from rfl,Ah hm] at e;exact g.dm m y e⟩
 |cm k=>exact⟨g.pg,g.dm⟩
theorem Tk:∀{l:List Rec} {t:PF},Good t->(∀x∈l,EZ x)->Good (l.foldl Bh t)
 |[],t,g,_=>g
 |x::l,t,g,h=>Tk (l:=l) (t:=Bh t x) (P3 g (h x AZ)) fun y hy=>h y (Aj _ hy)
theorem bR{t:PF}{log:List Rec}(g:Good t)(h:∀x∈log,EZ x):Good (Ea t log):=Tk g fun x hx=>h x (I0 hx)
theorem L5{α:Type}(l:List α)(k:Nat):slc l .none (some (k:Int))=l.take k:=by
 simp only [slc,G9,E3,DK,G6,if_true,F9,List.drop_zero]
 rcases Nat.le_total k l.length with h |h
 ·rw[Nat.min_eq_left h]
 ·rw[Nat.min_eq_right h,List.take_length,List.take_of_length_le h]
noncomputable def GO:Rec->Str
 |.wr _ _=>"write"
 |.fr _=>"free"
 |.cm _=>"commit"
section
variable{t:PF}{Lg:List Rec}{xs:List (Str×V)}{σ:List Cell}{x:Rec}{fn:Fn}{K:Nat}
theorem Hs{p1 p2 p3 p4 p5:Pos}{k k':Nat}{s r:Str}{c:Bool}(hr:true=DU (fn.names.lookup r))(h:AG r xs=some (.d (Ap x)))(hs:PyData.strOk s=true)(hc:decide (GO x=s)=c):Tt gl fn (K+3) (.Compare (.Subscript (.Name r p1) (.Constant (.int 0) k p2) p3) [.Eq] [.Constant (.str s) k' p4] p5) ⟨xs,σ⟩ c ⟨xs,σ⟩:=
 An rfl (iX (pn (ys:=[(r,.d (Ap x))]) (.cons h .nil) hr (A5 rfl)) (show CL σ (.val (.d (Ap x))) _=some (.d (.str (GO x))) from by cases x <;> rfl)) (BW hs) (GN (Fq hc))
noncomputable def FQ(Lg:List Rec)(r:Int)(a:Nat):List (Str×V):=[("log",.d (Ao Lg)),("pages",.loc 0),("root",.d (.int r)),("last",.d (.int a))]
theorem bS{i a:Nat}{r:Int}(h:A8 xs (("i",.d (.int i))::("r",.d (Ap x))::FQ Lg r a)):∃ys,Ex gl EX 10 (CX (BV EX 1)) ⟨xs,σ⟩ .next ⟨ys,σ⟩/\A8 ys (FQ Lg r (cond (Bs x) (i+1) a)):=by
 have hr:AG "r" xs=some (.d (Ap x)):=h _ _ rfl
 have h':A8 xs (FQ Lg r a):=h.trans (.cons rfl (.cons rfl (.cons rfl (.cons rfl .nil))))
 cases x with
 |cm k=>exact⟨_,xO (B4 (Hs (x:=.cm k) rfl hr CU rfl) (xO (Ac (AH (Ag (pn h rfl rfl) Ab rfl)) rfl))),h'.put rfl⟩
 |wr k p=>exact⟨_,xO (B1 (Hs (x:=.wr k p) rfl hr CU rfl) BO),h'⟩
 |fr k=>exact⟨_,xO (B1 (Hs (x:=.fr k) rfl hr CU rfl) BO),h'⟩
theorem bT{x y:Str}{a b:V}:Em (.two x y) (.tup [a,b]) ⟨xs,σ⟩=some ⟨AS y b (AS x a xs),σ⟩:=rfl
theorem Tl{r:Int}:∀(l:List Rec) (i a:Nat) (xs:List (Str×V)),A8 xs (FQ Lg r a)->
 ∃ys,Lp gl EX 10 (.two "i" "r") (CX (BV EX 1)) (GD i (l.map fun r=>V.d (Ap r))) ⟨xs,σ⟩ ⟨ys,σ⟩/\A8 ys (FQ Lg r (FP i a l))
 |[],i,a,xs,hx=>⟨xs,GK,hx⟩
 |x::l,i,a,xs,hx=>by
  have h2:A8 (AS "r" (.d (Ap x)) (AS "i" (.d (.int i)) xs)) (("i",.d (.int i))::("r",.d (Ap x))::FQ Lg r a):=.cons (by rw[IV (by decide),Bx]) (.cons Bx ((hx.other rfl).other rfl))
  obtain⟨ys,e,hy⟩:=bS (σ:=σ) h2
  obtain⟨zs,e2,hz⟩:=Tl l (i+1) _ ys hy
  exact⟨zs,Hn bT e e2,hz⟩
theorem bU{A:PM}{a:Nat}(h:A8 xs (("r",.d (Ap x))::FQ Lg t.r a))(hl:A.length < 900)(hA:Dic A t.f) :
 ∃ys B,Ex gl EX 14 (CX (BV EX 2)) ⟨xs,[.dct false (A.map Aq)]⟩ .next ⟨ys,[.dct false (B.map Aq)]⟩/\A8 ys (FQ Lg (Bh t x).r a)/\Dic B (Bh t x).f/\B.length<=A.length+1:=by
 have hr:AG "r" xs=some (.d (Ap x)):=h _ _ rfl
 have h':A8 xs (FQ Lg t.r a):=h.trans (.cons rfl (.cons rfl (.cons rfl (.cons rfl .nil))))
 cases x with
 |wr k p=>
  refine⟨xs,BL k p A,xO (B4 (Hs (x:=.wr k p) rfl hr L4 rfl) (xO (FN (AH (iX (pn h rfl rfl) rfl)) (Hl (m:=0) (k:=(false,k)) (pn h rfl rfl) (iX (pn h rfl rfl) rfl) rfl (BM (by rw[Fo,A4,Ae (show A.length < lim from AN hl (nL rfl))];rfl) ?_))))),h',hA.set k p,?_⟩
  ·exact A2 (fun l=>some [Cell.dct false l]) (On k p A)
  ·have:=A2 List.length (Mb k p A)
   rw[A4] at this
   rw[this]
   split
   ·rw[A4];exact Cb _
   ·rw[AC,A4];exact Am _
 |fr k=>
  refine⟨xs,CK k A,xO (B1 (Hs (x:=.fr k) rfl hr L4 rfl) (xO (B4 (Hs (x:=.fr k) rfl hr Ml rfl) (xO (HB (r:=.val ((AP k (A.map Aq)).getD (.d .none))) rfl (Oh (i:=0) (vs:=[.d (.int k),.d .none]) rfl (pn h rfl rfl) rfl (sK (iX (pn h rfl rfl) rfl) (sZ HA)) rfl ?_)))))),h',hA.del k,?_⟩
  ·rw[<-b0]
   exact Of (c:=_=_) (by decide) (Dp (c:=_=_) rfl (bnd (a:=(V.d (.int k),V.d .none)) rfl (bnd (a:=(false,k)) rfl (BM (by rw[Fo];rfl) rfl))))
  ·have:=(TH k A).length_le
   rw[A4,A4] at this
   exact Eh this
 |cm k=>exact⟨_,A,xO (B1 (Hs (x:=.cm k) rfl hr L4 rfl) (xO (B1 (Hs (x:=.cm k) rfl hr Ml rfl) (xO (Ac (AH (iX (pn h rfl rfl) rfl)) rfl))))),h'.put rfl,hA,Cb _⟩
theorem Tm{a:Nat}:∀(l:List Rec) (t:PF) (A:PM) (xs:List (Str×V)),A8 xs (FQ Lg t.r a)->A.length+l.length < 900->Dic A t.f->
 ∃ys B,Lp gl EX 14 (.one "r") (CX (BV EX 2)) (l.map fun r=>V.d (Ap r)) ⟨xs,[.dct false (A.map Aq)]⟩ ⟨ys,[.dct false (B.map Aq)]⟩/\A8 ys (FQ Lg (l.foldl Bh t).r a)/\Dic B (l.foldl Bh t).f
 |[],t,A,xs,h,_,hA=>⟨xs,A,GK,h,hA⟩
 |x::l,t,A,xs,h,hl,hA=>by
  simp only [DD] at hl
  have h2:A8 (AS "r" (.d (Ap x)) xs) (("r",.d (Ap x))::FQ Lg t.r a):=.cons Bx (h.other rfl)
  obtain⟨ys,B,e,hy,hB,hb⟩:=bU h2 (Aa (BJ _ _) hl) hA
  obtain⟨zs,C,e2,hz,hC⟩:=Tm l (Bh t x) B ys hy (Aa (EP hb _) (by rw[DG];exact hl)) hB
  exact⟨zs,C,Hn Mn e e2,hz,hC⟩
theorem Tp{log:List Rec}(g:Good t)(hr:∀x∈log,EZ x)(hl:log.length < 800):Cl gl EX 30 [.d (B2 t),.d (Ao log)] [] (.val (.d (B2 (Ea t log)))) []:=by
 have hs0:A8 [("tree",V.d (B2 t)),("log",V.d (Ao log))] [("tree",V.d (B2 t)),("log",V.d (Ao log))]:=.refl
 have hl0:=HC (f:=t.f)
 obtain⟨ys,e1,hy⟩:=Tl (Lg:=log) (r:=t.r) (σ:=[.dct false ((AF t.f).map Aq)]) log 0 0 [("tree",V.d (B2 t)),("log",V.d (Ao log)),("pages",.loc 0),("root",.d (.int t.r)),("last",.d (.int 0))] (.cons rfl (.cons rfl (.cons rfl (.cons rfl .nil))))
 obtain⟨zs,B,e2,hz,hB⟩:=Tm (Lg:=log) (a:=FP 0 0 log) (By log) t (AF t.f) ys hy (Aa (DF HC (List.length_take_le' _ _)) (C1 (J3 hl 16) (nL rfl))) (.of g.dm)
 have hm:(log.map Ap).map V.d=log.map fun r=>V.d (Ap r):=Ai
 refine Cw rfl rfl (AX rfl (Cu rfl rfl (BA (AH (IY (σ:=[]) (fun n=>rfl) (iX (pn hs0 rfl rfl) rfl) (Bg FO))) (BA (AH (iX (pn hs0 rfl rfl) rfl)) (BA (AH Ab) Cv))) (tN rfl (tN rfl (tO rfl)))) ?_)
 refine AX (xs':=ys) (σ':=[.dct false ((AF t.f).map Aq)]) rfl (Hm (TG (fun n=>rfl) (pR rfl rfl) (l:=log.map fun r=>V.d (Ap r)) (A2 (fun l=>some (l,_)) hm)) rfl rfl (Mine.U.up (nL rfl) (P:=fun n=>forLoop' (AU gl n) EX _ _ _ _=some _) e1)) ?_
 refine AX (xs':=zs) (σ':=[.dct false (B.map Aq)]) rfl (Hm (CF rfl (BN (pn hy rfl rfl) (fun n=>BR) (BI (pn hy rfl rfl)) rfl) (l:=(By log).map fun r=>V.d (Ap r)) ?_) rfl rfl (Mine.U.up (nL rfl) (P:=fun n=>forLoop' (AU gl n) EX _ _ _ _=some _) e2)) ?_
 ·refine A2 (fun l=>some (l,_)) ?_
  rw[hm]
  exact(L5 _ _).trans EO.symm
 ·have gr:=bR g hr
  exact CR rfl (Bf (Az (vs:=[.d (.lst ((AF (Ea t log).f).map BB)),.d (.int (Ea t log).r)]) (BT (Aw (MX (fun n=>rfl) (pn hz rfl rfl) (dd:=(false,B.map Aq)) rfl (Oo B) (hB.sorted gr.dm)) rfl (B6 _)) (sZ (pn hz rfl rfl))) rfl (by decide))) rfl
end
open PySem
section
variable{G:Gl}{fn:Fn}{K:Nat}{st st₁ st₂:St}{xs ys:List (Str×V)}{σ:List Cell}{elt t:Expr}{sc:Scope}{p:Pos}{x:Str}
noncomputable def Tn(G:Gl)(fn:Fn)(K:Nat)(tg:Tg)(ifs:List Expr)(elt:Expr)(gs:List Comprehension)(items:List V)(st:St)(l:List V)(st':St):Prop:=∀n,turns (compTurn' (AU G (n+K)) fn tg ifs (IJ G (AU G (n+K)) fn elt gs)) items st=some (l,st')
theorem P4{g:Comprehension}{gs:List Comprehension}{it:It}{tg:Tg}{l:List V}(hok:(Gm fn sc&&(g::gs).all GE)=true)(hi:EC G fn K g.iter st it st₁)(ht:Dm g.target=some tg)(hk:Cr (fn.sc sc.names) it.pr tg=true)(hn:Tn G (fn.sc sc.names) K tg g.ifs elt gs it.items ⟨seen sc.names st.vars,st₁.store⟩ l st₂)(hl:l.length<=lim):Ev G fn (K+1) (.ListComp elt (g::gs) sc p) st (.fresh l) ⟨st.vars,st₂.store⟩:=fun n=>
 BM hok (bnd (a:=(tg,it,st₁)) (bnd (hi n) (bnd ht (BM hk rfl))) (bnd (hn n) (Dp hl rfl)))
theorem bV{names:List (Str×NameKind)}(h:(names.lookup x == some .free)=true)(xs:List (Str×V)):AG x (seen names xs)=AG x xs:=by
 induction xs with
 |nil=>rfl
 |cons p r ih=>
  rw[Jb x p.1 p.2 r,<-ih]
  unfold seen
  rw[Gc]
  by_cases e:x=p.1
  ·rw[A5 e,<-e,A5 h];exact A5 e
  ·rw[A3 e]
   by_cases q:(names.lookup p.1 == some .free)=true
   ·rw[A5 q];exact A3 e
   ·rw[A3 q]
theorem A8.seen{names:List (Str×NameKind)}{v:V}(h:A8 xs ys)(hn:(names.lookup x == some .free)=true)(hl:AG x ys=some v):AG x (seen names xs)=some v:=(bV hn xs).trans (h _ _ hl)
theorem Ji{tg:Tg}{ifs:List Expr}{gs:List Comprehension}:Tn G fn K tg ifs elt gs [] st [] st:=fun n=>rfl
noncomputable def Jj(G:Gl)(fn:Fn)(K:Nat)(ifs:List Expr)(st:St)(b:Bool):Prop:=∀n,Nj (AU G (n+K)) fn st ifs=some (b,st)
theorem HD:Jj G fn K [] st true:=fun _=>rfl
theorem GP{b:Bool}(h:Tt G fn K t st b st):Jj G fn K [t] st b:=h
theorem Tq{α:Type}{g h:α->V}{b:α->Bool}{tg:Tg}{ifs:List Expr}{l:List α}:∀(xs:List (Str×V)),A8 xs ys->(∀a∈l,∀xs,A8 xs ys->∃zs,Em tg (g a) ⟨xs,σ⟩=some ⟨zs,σ⟩/\A8 zs ys/\Jj G fn K ifs ⟨zs,σ⟩ (b a)/\(b a=true->Kp G fn K fn.hm elt ⟨zs,σ⟩ (h a) ⟨zs,σ⟩))->
 ∃xs',Tn G fn K tg ifs elt [] (l.map g) ⟨xs,σ⟩ ((l.filter b).map h) ⟨xs',σ⟩/\A8 xs' ys:=by
 induction l with
 |nil=>exact fun xs hs _=>⟨xs,Ji,hs⟩
 |cons a r ih=>
  intro xs hs hh
  obtain⟨zs,h1,h2,h3,h4⟩:=hh a AZ xs hs
  obtain⟨xs',e,hs'⟩:=ih zs h2 fun c hc=>hh c (Aj _ hc)
  refine⟨xs',fun n=>?_,hs'⟩
  rw[Gc]
  cases hb:b a with
  |true=>
   rw[hb] at h3
   exact bnd (a:=([h a],⟨zs,σ⟩)) (bnd h1 (bnd (h3 n) (AQ (h4 hb n) rfl))) (AQ (e n) rfl)
  |false=>
   rw[hb] at h3
   exact bnd (a:=([],⟨zs,σ⟩)) (bnd h1 (bnd (h3 n) rfl)) (AQ (e n) rfl)
section
variable{α:Type}{g h:α->V}{b:α->Bool}{cg:Comprehension}{l:List α}{lr:List V}{σ':List Cell}{q:Pos}{pr:Bool}{y:Str}
theorem Ts{tg:Tg}(hi:EC G fn K cg.iter ⟨xs,σ⟩ ⟨l.map g,pr⟩ ⟨xs,σ'⟩)(hok:(Gm fn sc&&[cg].all GE)=true)(ht:Dm cg.target=some tg)(hk:Cr (fn.sc sc.names) pr tg=true)(hs:A8 (seen sc.names xs) ys)
 (hh:∀a∈l,∀xs,A8 xs ys->∃zs,Em tg (g a) ⟨xs,σ'⟩=some ⟨zs,σ'⟩/\A8 zs ys/\Jj G (fn.sc sc.names) K cg.ifs ⟨zs,σ'⟩ (b a)/\(b a=true->Kp G (fn.sc sc.names) K fn.hm elt ⟨zs,σ'⟩ (h a) ⟨zs,σ'⟩)) (hl:l.length<=lim) (hr:(l.filter b).map h=lr):Ev G fn (K+1) (.ListComp elt [cg] sc q) ⟨xs,σ⟩ (.fresh lr) ⟨xs,σ'⟩:=by
 obtain⟨xs',e,_⟩:=Tq (fn:=fn.sc sc.names) _ hs hh
 subst hr
 exact P4 (st₂:=⟨xs',σ'⟩) hok hi ht hk e (by rw[A4];exact A9 (List.length_filter_le _ _) hl)
theorem Eb(hi:EC G fn K cg.iter ⟨xs,σ⟩ ⟨l.map g,false⟩ ⟨xs,σ'⟩)(hok:(Gm fn sc&&[cg].all GE)=true)(ht:Dm cg.target=some (.one x))(hk:Cr (fn.sc sc.names) false (.one x)=true)(hs:A8 (seen sc.names xs) ys)(hx:AG x ys=.none)
 (hh:∀a∈l,∀zs,A8 zs ((x,g a)::ys)->Jj G (fn.sc sc.names) K cg.ifs ⟨zs,σ'⟩ (b a)/\(b a=true->Kp G (fn.sc sc.names) K fn.hm elt ⟨zs,σ'⟩ (h a) ⟨zs,σ'⟩)) (hl:l.length<=lim) (hr:(l.filter b).map h=lr):Ev G fn (K+1) (.ListComp elt [cg] sc q) ⟨xs,σ⟩ (.fresh lr) ⟨xs,σ'⟩:=
 Ts hi hok ht hk hs (fun a ha xs hs=>⟨AS x (g a) xs,rfl,hs.other hx,hh a ha _ (.cons Bx (hs.other hx))⟩) hl hr
theorem L6{u w:α->V}(hi:EC G fn K cg.iter ⟨xs,σ⟩ ⟨l.map g,pr⟩ ⟨xs,σ'⟩)(hok:(Gm fn sc&&[cg].all GE)=true)(ht:Dm cg.target=some (.two x y))(hk:Cr (fn.sc sc.names) pr (.two x y)=true)(hs:A8 (seen sc.names xs) ys)(hx:AG x ys=.none)(hy:AG y ys=.none)(hxy:x≠y)(hg:∀a,Ha (g a)=some [u a,w a])
 (hh:∀a∈l,∀zs,A8 zs ((x,u a)::(y,w a)::ys)->Jj G (fn.sc sc.names) K cg.ifs ⟨zs,σ'⟩ (b a)/\(b a=true->Kp G (fn.sc sc.names) K fn.hm elt ⟨zs,σ'⟩ (h a) ⟨zs,σ'⟩)) (hl:l.length<=lim) (hr:(l.filter b).map h=lr):Ev G fn (K+1) (.ListComp elt [cg] sc q) ⟨xs,σ⟩ (.fresh lr) ⟨xs,σ'⟩:=
 Ts hi hok ht hk hs (fun a ha xs hs=>⟨AS y (w a) (AS x (u a) xs),bnd (hg a) rfl,(hs.other hx).other hy,hh a ha _ (.cons ((IV hxy).trans Bx) (.cons Bx ((hs.other hx).other hy)))⟩) hl hr
end
theorem Mo{α:Type}{g:α->V}{b:α->Bool}{cg:Comprehension}{l:List α}{σ':List Cell}{q:Pos}(hi:EC G fn (K+1) cg.iter ⟨xs,σ⟩ ⟨l.map g,false⟩ ⟨xs,σ'⟩)(hok:(Gm fn sc&&[cg].all GE)=true)(ht:Dm cg.target=some (.one x))(hk:Cr (fn.sc sc.names) false (.one x)=true)(hf:cg.ifs=[t])(hn:true=DU (sc.names.lookup x))(hs:A8 (seen sc.names xs) ys)(hx:AG x ys=.none)
 (htt:∀a∈l,∀zs,A8 zs ((x,g a)::ys)->Tt G (fn.sc sc.names) (K+1) t ⟨zs,σ'⟩ (b a) ⟨zs,σ'⟩) (hl:l.length<=lim):Ev G fn (K+2) (.ListComp (.Name x p) [cg] sc q) ⟨xs,σ⟩ (.fresh ((l.filter b).map g)) ⟨xs,σ'⟩:=
 Eb hi hok ht hk hs hx (fun a ha zs hz=>⟨hf▸htt a ha zs hz,fun _=>AH (pn hz hn (A5 rfl))⟩) hl rfl
end
inductive Act where
 |put (k:Int) (s:Str) |rem (k:Int) |back |com |syn |chk |fls (n:Int) |crs (n:Nat)
noncomputable def AV:Act->D
 |.put k s=>.tup [.str "put",.key k,.str s]
 |.rem k=>.tup [.str "remove",.key k]
 |.back=>.tup [.str "rollback"]
 |.com=>.tup [.str "commit"]
 |.syn=>.tup [.str "sync"]
 |.chk=>.tup [.str "checkpoint"]
 |.fls n=>.tup [.str "flush",.int n]
 |.crs n=>.tup [.str "crash",.int n]
noncomputable def Ib:Act->Str
 |.put _ _=>"put" |.rem _=>"remove" |.back=>"rollback" |.com=>"commit" |.syn=>"sync" |.chk=>"checkpoint" |.fls _=>"flush" |.crs _=>"crash"
structure PS where
 hand:D
 kept:PF
 disk:PF
 safe:List Rec
 pend:List Rec
theorem Et:PyData.strOk "put" = true:=by decide +kernel
theorem Ft:PyData.strOk "remove" = true:=by decide +kernel
theorem ED:PyData.strOk "rollback" = true:=by decide +kernel
theorem Fu:PyData.strOk "sync" = true:=by decide +kernel
theorem HF:PyData.strOk "checkpoint" = true:=by decide +kernel
theorem Ic:PyData.strOk "flush" = true:=by decide +kernel
noncomputable def pv(s:PS):List (Str×V):=[("hand",.d s.hand),("kept",.d (B2 s.kept)),("disk",.d (B2 s.disk)),("safe",.d (Ao s.safe)),("pending",.d (Ao s.pend))]
noncomputable def CS(n:Int):Rec->Bool
 |.wr m _=>decide (m=n)
 |.fr m=>decide (m=n)
 |.cm _=>false
noncomputable def fls(n:Int)(pend:List Rec)(disk kept:PF):PF:=match kept.f n with
 |some y=>cond (pend.any (CS n)) disk ⟨upd disk.f n (some y),disk.r⟩
 |.none=>disk
structure PSok(s:PS):Prop where
 kept:Good s.kept
 disk:Good s.disk
 safe:∀x∈s.safe,EZ x
 pend:∀x∈s.pend,EZ x
 len:s.safe.length+s.pend.length < 400
noncomputable def P5(s:PS)(a:Act)(s':PS):Prop:=match a with
 |.put k v=>∃d,Ho s.hand k v d/\s'={ s with hand:=d }
 |.rem k=>∃d,EY s.hand k d/\s'={ s with hand:=d }
 |.back=>s'={ s with hand:=B2 s.kept }
 |.com=>∃h,s.hand=B2 h/\Good h/\s'={ s with kept:=h,pend:=s.pend++CH s.kept.f h.f++[.cm h.r] }
 |.syn=>s'={ s with safe:=s.safe++s.pend,pend:=[] }
 |.chk=>s'={ s with disk:=s.kept,safe:=[],pend:=[] }
 |.fls n=>s'={ s with disk:=fls n s.pend s.disk s.kept }
 |.crs n=>s'=⟨B2 (Ea s.disk (By (s.safe++s.pend.take n))),Ea s.disk (By (s.safe++s.pend.take n)),s.disk,By (s.safe++s.pend.take n),[]⟩
section
variable{K:Nat}{xs:List (Str×V)}{s s':PS}{σ:List Cell}{a:Act}
theorem pt{p1 p2 p3 p4 p5:Pos}{k k':Nat}{x:Str}{c:Bool}(h:A8 xs (("a",.d (AV a))::pv s))(hx:PyData.strOk x=true)(hc:decide (Ib a=x)=c):Tt gl EA (K+3) (.Compare (.Subscript (.Name "a" p1) (.Constant (.int 0) k p2) p3) [.Eq] [.Constant (.str x) k' p4] p5) ⟨xs,σ⟩ c ⟨xs,σ⟩:=
 An rfl (iX (pn h rfl rfl) (show CL σ (.val (.d (AV a))) _=some (.d (.str (Ib a))) from by cases a <;> rfl)) (BW hx) (GN (Fq hc))
noncomputable def P6:List Stmt:=CX (BV EA 2)
theorem Ax{K:Nat}{G:Gl}{fn:Fn}{t:Expr}{b:List Stmt}{e:Stmt}{p:Pos}{st st₁ st₂:St}(h:Tt G fn (K+2) t st false st₁)(k:X1 G fn (K+1) e st₁ .next st₂):X1 G fn (K+2) (.If t b [e] p) st .next st₂:=B1 h (xO k)
inductive Turn(xs:List (Str×V))(σ:List Cell)(s':PS):Prop where
 |mk (ys:List (Str×V)) (σ':List Cell):Ex gl EA 220 P6 ⟨xs,σ⟩ .next ⟨ys,σ'⟩->A8 ys (pv s')->Turn xs σ s'
theorem Bi{x:Str}(h:x≠"_Tree"):x≠gl.cls:=h
theorem bW{k:Int}{v:Str}{d:D}(h:A8 xs (("a",.d (AV (.put k v)))::pv s))(hp:Ho s.hand k v d):Turn xs σ { s with hand:=d }:=
 have h':A8 xs (pv s):=h.trans (.cons rfl (.cons rfl (.cons rfl (.cons rfl (.cons rfl .nil)))))
 ⟨_,σ,xO (B4 (pt (a:=.put k v) h Et rfl) (xO (Ac (AH (Br (f:=MN) (us:=[.d s.hand,.d (.key k),.d (.str v)]) rfl (Bi (by decide)) rfl rfl (sN h rfl rfl (sK (iX (pn h rfl rfl) rfl) (sZ (iX (pn h rfl rfl) rfl)))) rfl (hp.u rfl))) rfl))),h'.put rfl⟩
theorem bX{k:Int}{d:D}(h:A8 xs (("a",.d (AV (.rem k)))::pv s))(hp:EY s.hand k d):Turn xs σ { s with hand:=d }:=
 have h':A8 xs (pv s):=h.trans (.cons rfl (.cons rfl (.cons rfl (.cons rfl (.cons rfl .nil)))))
 ⟨_,σ,xO (Ax (pt (a:=.rem k) h Et rfl) (B4 (pt (a:=.rem k) h Ft rfl) (xO (Ac (AH (Br (f:=Ku) (us:=[.d s.hand,.d (.key k)]) rfl (Bi (by decide)) rfl rfl (sN h rfl rfl (sZ (iX (pn h rfl rfl) rfl))) rfl (hp.u rfl))) rfl)))),h'.put rfl⟩
theorem bY(h:A8 xs (("a",.d (AV .back))::pv s)):Turn xs σ { s with hand:=B2 s.kept }:=
 have h':A8 xs (pv s):=h.trans (.cons rfl (.cons rfl (.cons rfl (.cons rfl (.cons rfl .nil)))))
 ⟨_,σ,xO (Ax (pt (a:=.back) h Et rfl) (Ax (pt (a:=.back) h Ft rfl) (B4 (pt (a:=.back) h ED rfl) (xO (Ac (kN h rfl rfl) rfl))))),h'.put rfl⟩
theorem GQ{σ:List Cell}{r₁ r₂:R}{l m:List V}(hi:I4 r₂=.none)(h1:CP σ r₁=some l)(h2:CP σ r₂=some m)(h:l.length+m.length<=lim):Fi σ .Add r₁ r₂=some (.fresh (l++m)):=Es hi (Ba h1 (bnd h2 (Dp h rfl)))
theorem Jk{l:List Rec}:((l.map Ap).map V.d).length=l.length:=by rw[A4,A4]
theorem P7{σ:List Cell}{l m:List Rec}(h:l.length+m.length<=lim):Fi σ .Add (.val (.d (Ao l))) (.val (.d (Ao m)))=some (.fresh (((l++m).map Ap).map V.d)):=by
 rw[AK,AK]
 exact GQ rfl rfl rfl (by rw[Jk,Jk];exact h)
theorem Tu{σ:List Cell}{l m:List Rec}(h:l.length+m.length<=lim):Fi σ .Add (.fresh ((l.map Ap).map V.d)) (.fresh ((m.map Ap).map V.d))=some (.fresh (((l++m).map Ap).map V.d)):=by
 rw[AK,AK]
 exact GQ rfl rfl rfl (by rw[Jk,Jk];exact h)
theorem Mp{σ:List Cell}{l m:List Rec}(h:l.length+m.length<=lim):Fi σ .Add (.val (.d (Ao l))) (.fresh ((m.map Ap).map V.d))=some (.fresh (((l++m).map Ap).map V.d)):=by
 rw[AK,AK]
 exact GQ rfl rfl rfl (by rw[Jk,Jk];exact h)
theorem bZ(h:A8 xs (("a",.d (AV .syn))::pv s))(ok:PSok s):Turn xs σ { s with safe:=s.safe++s.pend,pend:=[] }:=
 have h':A8 xs (pv s):=h.trans (.cons rfl (.cons rfl (.cons rfl (.cons rfl (.cons rfl .nil)))))
 ⟨_,σ,xO (Ax (pt (a:=.syn) h Et rfl) (Ax (pt (a:=.syn) h Ft rfl) (Ax (pt (a:=.syn) h ED rfl) (Ax (pt (a:=.syn) h CU rfl) (B4 (pt (a:=.syn) h Fu rfl) (xO (Cu rfl rfl (BA (Aw (Ag (pn h rfl rfl) (pn h rfl rfl) (P7 (BH (AN ok.len (nL rfl))))) rfl (B6 _)) (BA (Aw (l:=[]) (ds:=[]) (BS Bq rfl) rfl rfl) Cv)) (tN rfl (tO rfl))))))))),(h'.put rfl).put rfl⟩
theorem ba(h:A8 xs (("a",.d (AV .chk))::pv s)):Turn xs σ { s with disk:=s.kept,safe:=[],pend:=[] }:=
 have h':A8 xs (pv s):=h.trans (.cons rfl (.cons rfl (.cons rfl (.cons rfl (.cons rfl .nil)))))
 ⟨_,σ,xO (Ax (pt (a:=.chk) h Et rfl) (Ax (pt (a:=.chk) h Ft rfl) (Ax (pt (a:=.chk) h ED rfl) (Ax (pt (a:=.chk) h CU rfl) (Ax (pt (a:=.chk) h Fu rfl) (B4 (pt (a:=.chk) h HF rfl) (xO (Cu rfl rfl (BA (kN h rfl rfl) (BA (Aw (l:=[]) (ds:=[]) (BS Bq rfl) rfl rfl) (BA (Aw (l:=[]) (ds:=[]) (BS Bq rfl) rfl rfl) Cv))) (tN rfl (tN rfl (tO rfl))))))))))),((h'.put rfl).put rfl).put rfl⟩
theorem be{t:PF}(h:A8 xs (("a",.d (AV .com))::pv s))(ok:PSok s)(ht:s.hand=B2 t)(g:Good t):Turn xs σ { s with kept:=t,pend:=s.pend++CH s.kept.f t.f++[.cm t.r] }:=by
 have h':A8 xs (pv s):=h.trans (.cons rfl (.cons rfl (.cons rfl (.cons rfl (.cons rfl .nil)))))
 have hl:=ok.len
 have hd:=Mj s.kept.f t.f
 obtain⟨hand,kept,disk,safe,pend⟩:=s
 cases ht
 refine⟨_,σ,xO (Ax (pt (a:=.com) h Et rfl) (Ax (pt (a:=.com) h Ft rfl) (Ax (pt (a:=.com) h ED rfl) (B4 (pt (a:=.com) h CU rfl) (B9 (Ac (Aw (Ag (Ag (pn h rfl rfl) (Br (f:=EW) rfl (Bi (by decide)) rfl rfl (sN h rfl rfl (sZ (pn h rfl rfl))) rfl ((bQ ok.kept g).u rfl)) (P7 ?_)) (BS (sZ (Az (vs:=[.d (.str "commit"),.d (.int t.r)]) (sK (BW CU) (sZ (iX (pn h rfl rfl) rfl))) rfl (by decide))) rfl) (Tu (m:=[.cm t.r]) ?_)) rfl (B6 _)) rfl) (xO (Ac (AH (pn (h'.put rfl) rfl rfl)) rfl))))))),(h'.put rfl).put rfl⟩
 ·exact A9 (DF (A9 (G7 _ safe.length) (BH hl)) hd) (nL rfl)
 ·rw[AC];exact A9 (EP (DF (A9 (G7 _ safe.length) (BH hl)) hd) 1) (nL rfl)
end
open PySem
section
variable{K:Nat}{xs:List (Str×V)}{s s':PS}{σ:List Cell}{a:Act}
theorem Tv{fn:Fn}{x:Rec}{n:Int}{e:Expr}{p1 p2 p3 p4 p5 p6 p7 p8 p9 p10:Pos}{k1 k2 k3:Nat}(hr:true=DU (fn.names.lookup ("r" : Str)))(h:AG "r" xs=some (.d (Ap x)))(he:∀K,Ev gl fn (K+2) e ⟨xs,σ⟩ (.val (.d (.int n))) ⟨xs,σ⟩) :
 Tt gl fn (K+4) (.BoolOp .And [.Compare (.Subscript (.Name "r" p1) (.Constant (.int 0) k1 p2) p3) [.NotEq] [.Constant (.str "commit") k2 p4] p5,.Compare (.Subscript (.Name "r" p6) (.Constant (.int 1) k3 p7) p8) [.Eq] [e] p9] p10) ⟨xs,σ⟩ (CS n x) ⟨xs,σ⟩:=by
 have hs:A8 xs [("r",.d (Ap x))]:=.cons h .nil
 have t1:∀{c:Bool},(!decide (GO x ="commit"))=c->Tt gl fn (K+3) (.Compare (.Subscript (.Name "r" p1) (.Constant (.int 0) k1 p2) p3) [.NotEq] [.Constant (.str "commit") k2 p4] p5) ⟨xs,σ⟩ c ⟨xs,σ⟩:=fun {c} hc=>
  An rfl (iX (pn hs hr rfl) (show CL σ (.val (.d (Ap x))) _=some (.d (.str (GO x))) from by cases x <;> rfl)) (BW CU) (Fp (Fq rfl) hc)
 have t2:∀{m:Int},CL σ (.val (.d (Ap x))) (.val (.d (.int 1)))=some (.d (.int m))->Tt gl fn (K+3) (.Compare (.Subscript (.Name "r" p6) (.Constant (.int 1) k3 p7) p8) [.Eq] [e] p9) ⟨xs,σ⟩ (decide (m=n)) ⟨xs,σ⟩:=fun {m} hg=>
  An rfl (iX (pn hs hr rfl) hg) (he K) (GN (Hr rfl rfl rfl))
 cases x with
 |cm k=>exact CM (FM (t1 rfl))
 |wr m p=>exact CM (Ds (t1 rfl) (Dt (t2 rfl)))
 |fr m=>exact CM (Ds (t1 rfl) (Dt (t2 rfl)))
theorem Tw{l:List Rec}(h:∀x∈l,EZ x){c:Bool}(hc:l.isEmpty=c):Di .Eq σ (.fresh (l.map fun r=>V.d (Ap r))) (.fresh [])=some c:=by
 refine bnd (a:=.lst (l.map Ap)) ?_ (bnd (a:=.lst []) rfl (Hr (Mi h 25) rfl ?_))
 ·exact bnd (a:=.d (.lst (l.map Ap))) (AQ (a:=l.map Ap) ((A2 C3 (Ai).symm).trans (B6 _)) rfl) rfl
 ·subst hc;cases l <;> rfl
theorem Tx{l:List Rec}{b:Rec->Bool}:(l.filter b).isEmpty=!l.any b:=by
 induction l with
 |nil=>rfl
 |cons x r ih=>
  rw[Gc,List.any_cons]
  cases b x with
  |true=>rfl
  |false=>exact ih
theorem bf{n:Int}{pend:List Rec}{disk kept:PF}(gd:Good disk)(gk:Good kept):Good (fls n pend disk kept):=by
 unfold fls
 cases h:kept.f n with
 |none=>exact gd
 |some y=>
  cases pend.any (CS n) with
  |true=>exact gd
  |false=>exact P3 (x:=.wr n y) gd ⟨gk.pg n y h,gk.dm n y h⟩
theorem bg{n:Int}(h:A8 xs (("a",.d (AV (.fls n)))::pv s))(ok:PSok s):Turn xs σ { s with disk:=fls n s.pend s.disk s.kept }:=by
 have h':A8 xs (pv s):=h.trans (.cons rfl (.cons rfl (.cons rfl (.cons rfl (.cons rfl .nil)))))
 have hl:=ok.len
 have hA:(σ++[Cell.dct false ((AF s.kept.f).map Aq)])[σ.length]?=some (.dct false ((AF s.kept.f).map Aq)):=Gd
 have h1:A8 (AS "pages" (.loc σ.length) xs) (("pages",.loc σ.length)::("a",.d (AV (.fls n)))::pv s):=.cons Bx (h.other rfl)
 have h1':A8 (AS "pages" (.loc σ.length) xs) (pv s):=h'.other rfl
 have s0:∀{K:Nat} {p1 p2 p3 p4 p5 p6 p7:Pos} {k:Nat},X1 gl EA (K+4) (.Assign [.Name "pages" p1] (.Call (.Name "dict" p2) [.Subscript (.Name "kept" p3) (.Constant (.int 0) k p4) p5] [] p6) p7) ⟨xs,σ⟩ .next ⟨AS "pages" (.loc σ.length) xs,σ++[.dct false ((AF s.kept.f).map Aq)]⟩:=
  fun {K p1 p2 p3 p4 p5 p6 p7 k}=>Ac (AH (IY (fun n=>rfl) (iX (pn h rfl rfl) rfl) (Bg FO))) rfl
 have ea:∀{K:Nat} {p1 p2 p3:Pos} {k:Nat} {zs:List (Str×V)} {τ:List Cell},A8 zs (("pages",.loc σ.length)::("a",.d (AV (.fls n)))::pv s)->Ev gl EA (K+2) (.Subscript (.Name "a" p1) (.Constant (.int 1) k p2) p3) ⟨zs,τ⟩ (.val (.d (.int n))) ⟨zs,τ⟩:=fun hz=>iX (pn hz rfl rfl) rfl
 cases hy:s.kept.f n with
 |none=>
  rw[show fls n s.pend s.disk s.kept=s.disk from by unfold fls;rw[hy]]
  exact⟨_,_,xO (Ax (pt (a:=.fls n) h Et rfl) (Ax (pt (a:=.fls n) h Ft rfl) (Ax (pt (a:=.fls n) h ED rfl) (Ax (pt (a:=.fls n) h CU rfl) (Ax (pt (a:=.fls n) h Fu rfl) (Ax (pt (a:=.fls n) h HF rfl) (B4 (pt (a:=.fls n) h Ic rfl) (B9 s0 (xO (B1 (CM (FM (Ky (ea h1) (pn h1 rfl rfl) (Hq hA (by rw[Fs ok.kept,hy];rfl))))) BO)))))))))),h1'⟩
 |some y=>
  have tin:∀{K:Nat} {p1 p2 p3 p4 p5:Pos} {k:Nat},Tt gl EA (K+3) (.Compare (.Subscript (.Name "a" p1) (.Constant (.int 1) k p2) p3) [.In] [.Name "pages" p4] p5) ⟨AS "pages" (.loc σ.length) xs,σ++[.dct false ((AF s.kept.f).map Aq)]⟩ true ⟨AS "pages" (.loc σ.length) xs,σ++[.dct false ((AF s.kept.f).map Aq)]⟩:=fun {K p1 p2 p3 p4 p5 k}=>Ky (ea h1) (pn h1 rfl rfl) (Hq hA (by rw[Fs ok.kept,hy];rfl))
  have hem:(s.pend.map Ap).map V.d=s.pend.map fun r=>V.d (Ap r):=Ai
  have hpl:s.pend.length<=lim:=A9 (G7 _ _) (BH (AN hl (nL rfl)))
  cases hb:s.pend.any (CS n) with
  |true=>
   rw[show fls n s.pend s.disk s.kept=s.disk from by unfold fls;rw[hy,hb];rfl]
   refine⟨_,_,xO (Ax (pt (a:=.fls n) h Et rfl) (Ax (pt (a:=.fls n) h Ft rfl) (Ax (pt (a:=.fls n) h ED rfl) (Ax (pt (a:=.fls n) h CU rfl) (Ax (pt (a:=.fls n) h Fu rfl) (Ax (pt (a:=.fls n) h HF rfl) (B4 (pt (a:=.fls n) h Ic rfl) (B9 s0 (xO (B1 (CM (Ds tin (Dt (An rfl (Mo (b:=CS n) (ys:=[("a",.d (AV (.fls n)))]) (CF rfl (pn h1 rfl rfl) (A2 (fun l=>some (l,_)) hem)) rfl rfl rfl rfl rfl (.cons (h1.seen rfl rfl) .nil) rfl (fun x _ zs hz=>Tv (K:=_) rfl (hz _ _ rfl) fun K=>iX (pn hz rfl rfl) rfl) hpl) (BS Bq rfl) (Tw (fun x hx=>ok.pend x (List.mem_filter.mp hx).1) (by rw[Tx,hb];rfl)))))) BO)))))))))),h1'⟩
  |false=>
   rw[show fls n s.pend s.disk s.kept=⟨upd s.disk.f n (some y),s.disk.r⟩ from by unfold fls;rw[hy,hb];rfl]
   generalize hσ1:σ++[Cell.dct false ((AF s.kept.f).map Aq)]=σ1 at *
   have hA2:(σ1++[Cell.dct false ((AF s.disk.f).map Aq)])[σ.length]?=some (.dct false ((AF s.kept.f).map Aq)):=by rw[KG (FC.mp hA).1];exact hA
   have hB:(σ1++[Cell.dct false ((AF s.disk.f).map Aq)])[σ1.length]?=some (.dct false ((AF s.disk.f).map Aq)):=Gd
   have hC:((σ1++[Cell.dct false ((AF s.disk.f).map Aq)]).set σ1.length (.dct false ((BL n y (AF s.disk.f)).map Aq)))[σ1.length]?=some (.dct false ((BL n y (AF s.disk.f)).map Aq)):=List.getElem?_set_self (by rw[AC];exact Cc _)
   have h2:A8 (AS "d" (.loc σ1.length) (AS "pages" (.loc σ.length) xs)) (("d",.loc σ1.length)::("pages",.loc σ.length)::("a",.d (AV (.fls n)))::pv s):=.cons Bx (h1.other rfl)
   have h2':A8 (AS "d" (.loc σ1.length) (AS "pages" (.loc σ.length) xs)) (pv s):=h1'.other rfl
   have hDic:=(Dic.of ok.disk.dm).set n y
   have hg:=P3 (x:=.wr n y) ok.disk ⟨ok.kept.pg n y hy,ok.kept.dm n y hy⟩
   have hsrt:=hDic.sorted hg.dm
   refine⟨_,_,xO (Ax (pt (a:=.fls n) h Et rfl) (Ax (pt (a:=.fls n) h Ft rfl) (Ax (pt (a:=.fls n) h ED rfl) (Ax (pt (a:=.fls n) h CU rfl) (Ax (pt (a:=.fls n) h Fu rfl) (Ax (pt (a:=.fls n) h HF rfl) (B4 (pt (a:=.fls n) h Ic rfl) (B9 s0 (xO (B4 (CM (Ds tin (Dt (An rfl (Mo (b:=CS n) (ys:=[("a",.d (AV (.fls n)))]) (CF rfl (pn h1 rfl rfl) (A2 (fun l=>some (l,_)) hem)) rfl rfl rfl rfl rfl (.cons (h1.seen rfl rfl) .nil) rfl (fun x _ zs hz=>Tv (K:=_) rfl (hz _ _ rfl) fun K=>iX (pn hz rfl rfl) rfl) hpl) (BS Bq rfl) (Tw (fun x hx=>ok.pend x (List.mem_filter.mp hx).1) (by rw[Tx,hb];rfl))))))
    (B9 (Ac (AH (IY (fun n=>rfl) (iX (pn h1 rfl rfl) rfl) (Bg FO))) rfl) (B9 (FN (AH (BF rfl (pn h2 rfl rfl) (iX (pn h2 rfl rfl) rfl) (Jh hA2 (by rw[Fs ok.kept,hy];rfl)))) (Hl (k:=(false,n)) (σ':=(σ1++[Cell.dct false ((AF s.disk.f).map Aq)]).set σ1.length (.dct false ((BL n y (AF s.disk.f)).map Aq))) (pn h2 rfl rfl) (iX (pn h2 rfl rfl) rfl) rfl ?_))
    (xO (Ac (AH (Az (vs:=[.d (.lst ((AF (upd s.disk.f n (some y))).map BB)),.d (.int s.disk.r)]) (BT (Aw (MX (fun n=>rfl) (pn h2 rfl rfl) (dd:=(false,(BL n y (AF s.disk.f)).map Aq)) (bnd (a:=σ1.length) rfl (by rw[hC];rfl)) (Oo _) hsrt) rfl (B6 _)) (sZ (iX (pn h2 rfl rfl) rfl))) rfl (by decide))) rfl)))))))))))))),h2'.put rfl⟩
   rw[hB,<-On]
   exact BM (by rw[Fo,A4,Ae (show(AF s.disk.f).length < lim from Aa HC (nL rfl))];rfl) rfl
theorem Ty(x:Rec)(l:List Rec):∀(i a:Nat),FP i a (l++[x])=cond (Bs x) (i+l.length+1) (FP i a l):=by
 induction l with
 |nil=>exact fun _ _=>rfl
 |cons y l ih=>
  intro i a
  refine(ih (i+1) (cond (Bs y) (i+1) a)).trans ?_
  rw[DG i 1];rfl
theorem bh(l:List Rec):∀(i a:Nat),a<=i->FP i a l<=i+l.length:=by
 induction l with
 |nil=>exact fun _ _ h=>h
 |cons y l ih=>
  intro i a h
  refine A9 (ih (i+1) (cond (Bs y) (i+1) a) ?_) (BQ (DG i 1 _))
  cases Bs y with
  |true=>exact Am _
  |false=>exact Eh h
theorem Tz(l:List Rec)(x:Rec)(h:Bs x=false):By (l++[x])=By l:=by
 have:=bh l 0 0 (Am _)
 unfold By
 rw[Ty,h,cond_false,List.take_append_of_le_length (A9 this (BQ (De _)))]
theorem P8(l:List Rec)(x:Rec)(h:Bs x=true):By (l++[x])=l++[x]:=by
 unfold By
 rw[Ty,h,cond_true]
 exact List.take_of_length_le (by rw[AC,De];exact Am _)
theorem bi(l:List Rec):(By l).length<=l.length:=List.length_take_le' _ _
theorem bj{l:List Rec}{x:Rec}(h:x∈By l):x∈l:=I0 h
theorem P9(n:Nat):(-1:Int)+((n+1:Nat):Int)=n:=(Int.add_comm _ _).trans (Int.add_neg_cancel_right (n:Int) 1)
theorem U0{α:Type}(l:List α)(x:α):idx (l++[x]) (-1)=some x:=by
 unfold idx
 rw[show(l++[x]).length=l.length+1 from AC,show seqIndex? (-1) (l.length+1)=some l.length from by
  show(if (decide (0<=(-1:Int)+((l.length+1:Nat):Int))&&decide ((-1:Int)+((l.length+1:Nat):Int) < ((l.length+1:Nat):Int)))=true then some ((-1:Int)+((l.length+1:Nat):Int)).toNat else .none)=_
  rw[P9,A5 (Bb.mpr ⟨Ae (G6 _),Ae (Bp.mpr (Cc _))⟩),F9]]
 exact Gd
theorem bk{α:Type}(l:List α)(x:α):slc (l++[x]) .none (some (-1))=l:=by
 show((l++[x]).take (DK (l++[x]).length (-1))).drop 0=l
 unfold DK
 rw[A3 (by decide),show(l++[x]).length=l.length+1 from AC,P9,F9,List.take_left' rfl];rfl
end
open PySem
section
variable{K:Nat}{xs:List (Str×V)}{s s':PS}{σ:List Cell}{a:Act}
noncomputable def bn:Stmt:=at' (GI (at' (GI (at' (GI (at' (GI (at' (GI (at' (GI (at' P6 0)) 0)) 0)) 0)) 0)) 0)) 0
noncomputable def PA:List Stmt:=GI bn
noncomputable def Wh(G:Gl)(fn:Fn)(K:Nat)(t:Expr)(body:List Stmt)(k:Nat)(st st':St):Prop:=∀n,whileLoop' (AU G (n+K)) fn t body k st=some st'
theorem Jl{G:Gl}{fn:Fn}{t:Expr}{body:List Stmt}{k:Nat}{st st₁:St}(h:Tt G fn K t st false st₁):Wh G fn K t body (k+1) st st₁:=fun n=>bnd (h n) rfl
theorem Mq{G:Gl}{fn:Fn}{t:Expr}{body:List Stmt}{k:Nat}{st st₁ st₂ st₃:St}(h:Tt G fn K t st true st₁)(hb:Ex G fn K body st₁ .next st₂)(r:Wh G fn K t body k st₂ st₃):Wh G fn K t body (k+1) st st₃:=fun n=>bnd (h n) (bnd (hb n) (r n))
theorem Mr{G:Gl}{fn:Fn}{t:Expr}{body:List Stmt}{p:Pos}{st st₁:St}(h:Wh G fn K t body 1000 st st₁):X1 G fn K (.While t body [] p) st .next st₁:=fun n=>AQ (h n) rfl
theorem bo{G:Gl}{fn:Fn}{x y:Str}{p q pos:Pos}{e:Expr}{v:V}{st:St}(ht:(JD [.Name x p,.Name y q]&&(JC [.Name x p,.Name y q]).isSome)=true)(h:Kp G fn K false e st v ⟨xs,σ⟩)(hx:true=Cg fn x)(hy:true=Cg fn y) :
 X1 G fn K (.Assign [.Name x p,.Name y q] e pos) st .next ⟨AS y v (AS x v xs),σ⟩:=fun n=>AQ (a:=⟨AS y v (AS x v xs),σ⟩) (BM ht (bnd (h n) (bnd (Ok hx n) (bnd (Ok hy n) rfl)))) rfl
theorem bp{α:Type}(l:List α):l=[]\/∃a x,l=a++[x]:=(J1 l).imp_right fun h=>h.imp fun a h=>h.imp fun x e=>e.trans J0
theorem U1{l:List Rec}{x:Rec}{c:Bool}(h:A8 xs (("log",.d (Ao (l++[x])))::pv s))(hc:(!decide (GO x ="commit"))=c):Tt gl EA 12 (IU (at' PA 1)) ⟨xs,σ⟩ c ⟨xs,σ⟩:=by
 have htr:Ld σ (.val (.d (Ao (l++[x]))))=some true:=by
  unfold Ao
  rw[AK]
  cases l <;> rfl
 have hlast:CL σ (.val (.d (Ao (l++[x])))) (.val (.d (.int (-1))))=some (.d (Ap x)):=by
  refine Es rfl (bnd (a:=-1) rfl (bnd (a:=((l++[x]).map Ap).map V.d) rfl ?_))
  rw[AK,AK]
  exact U0 _ _
 have htg:CL σ (.val (.d (Ap x))) (.val (.d (.int 0)))=some (.d (.str (GO x))):=by cases x <;> rfl
 exact CM (Ds (Dq (fun n=>rfl) (pn h rfl rfl) htr) (Dt (An rfl (iX (BF rfl (pn h rfl rfl) (fun n=>rfl) hlast) htg) (BW CU) (Fp (Fq rfl) hc))))
noncomputable def Ms(s:PS)(σ:List Cell)(k:Nat)(l:List Rec)(xs:List (Str×V)):Prop:=∃ys,Wh gl EA 12 (IU (at' PA 1)) (CX (at' PA 1)) k ⟨xs,σ⟩ ⟨ys,σ⟩/\A8 ys (("log",.d (Ao (By l)))::pv s)
theorem U2{l:List Rec}{x:Rec}{k:Nat}(hk:(l++[x]).length < k+1)(h:A8 xs (("log",.d (Ao (l++[x])))::pv s))(hx:Bs x=false)(hc:(!decide (GO x ="commit"))=true)(ih:∀l xs,l.length < k->A8 xs (("log",.d (Ao l))::pv s)->Ms s σ k l xs):Ms s σ (k+1) (l++[x]) xs:=by
 unfold Ms
 rw[Tz _ _ hx]
 refine(ih l (AS "log" (.d (Ao l)) xs) (by rw[AC] at hk;exact HZ hk) (.cons Bx ((h.trans (.cons rfl (.cons rfl (.cons rfl (.cons rfl (.cons rfl .nil))))):A8 xs (pv s)).other rfl))).imp fun ys q=>⟨Mq (U1 h hc) (xO (Ac (Aw (l:=(l.map Ap).map V.d) (BN (pn h rfl rfl) (fun n=>BR) (BI (i:=-1) (fun n=>rfl)) ?_) rfl (B6 _)) rfl)) q.1,q.2⟩
 refine A2 (fun l=>some (R.fresh l)) ?_
 rw[AK,AK]
 exact bk _ _
theorem bq(k:Nat):∀(l:List Rec) (xs:List (Str×V)),l.length < k->A8 xs (("log",.d (Ao l))::pv s)->Ms s σ k l xs:=by
 induction k with
 |zero=>exact fun l xs hk=>absurd hk (Nat.not_lt_zero _)
 |succ k ih=>
  intro l xs hk h
  rcases bp l with rfl |⟨l',x,rfl⟩
  ·exact⟨xs,Jl (CM (FM (Dq (fun n=>rfl) (pn h rfl rfl) rfl))),h⟩
  ·cases x with
   |cm q=>exact⟨xs,Jl (U1 h rfl),by rw[P8 _ _ rfl];exact h⟩
   |wr m p=>exact U2 hk h rfl rfl ih
   |fr m=>exact U2 hk h rfl rfl ih
theorem bt{m:Nat}{lg:List Rec}(hL:By (s.safe++s.pend.take m)=lg)(h:A8 xs (("a",.d (AV (.crs m)))::pv s))(ok:PSok s):Turn xs σ ⟨B2 (Ea s.disk lg),Ea s.disk lg,s.disk,lg,[]⟩:=by
 have h':A8 xs (pv s):=h.trans (.cons rfl (.cons rfl (.cons rfl (.cons rfl (.cons rfl .nil)))))
 have hl:=ok.len
 have hlen:(s.safe++s.pend.take m).length < 400:=by rw[AC];exact Aa (C9 (List.length_take_le' _ _) _) hl
 have hr:∀x∈s.safe++s.pend.take m,EZ x:=fun x hx=>(Bv.mp hx).elim (ok.safe x) fun hx=>ok.pend x (I0 hx)
 obtain⟨ys,e1,hy⟩:=bq (σ:=σ) 1000 (s.safe++s.pend.take m) (AS "log" (.d (Ao (s.safe++s.pend.take m))) xs) (AN hlen (nL rfl)) (.cons Bx (h'.other rfl))
 rw[hL] at hy
 have hlg:lg.length < 400:=by rw[<-hL];exact Aa (bi _) hlen
 have hrg:∀x∈lg,EZ x:=fun x hx=>hr x (bj (hL▸hx))
 have hy':A8 ys (pv s):=hy.trans (.cons rfl (.cons rfl (.cons rfl (.cons rfl (.cons rfl .nil)))))
 have hz:A8 (AS "pending" (V.d (Ao [])) (AS "safe" (V.d (Ao lg)) ys)) [("log",.d (Ao lg)),("hand",.d s.hand),("kept",.d (B2 s.kept)),("disk",.d (B2 s.disk)),("safe",.d (Ao lg)),("pending",.d (Ao []))]:=(hy.put rfl).put rfl
 have hz':A8 (AS "pending" (V.d (Ao [])) (AS "safe" (V.d (Ao lg)) ys)) (pv ⟨s.hand,s.kept,s.disk,lg,[]⟩):=(hy'.put rfl).put rfl
 have e3:=Tp (log:=lg) ok.disk hrg (AN hlg (nL rfl))
 refine⟨_,σ,xO (Ax (pt (a:=.crs m) h Et rfl) (Ax (pt (a:=.crs m) h Ft rfl) (Ax (pt (a:=.crs m) h ED rfl) (Ax (pt (a:=.crs m) h CU rfl) (Ax (pt (a:=.crs m) h Fu rfl) (Ax (pt (a:=.crs m) h HF rfl) (B1 (pt (a:=.crs m) h Ic rfl)
  (B9 (Ac (Aw (Ag (pn h rfl rfl) (BN (r₁:=.fresh (((s.pend.take m).map Ap).map V.d)) (pn h rfl rfl) (fun n=>BR) (BI (i:=m) (iX (pn h rfl rfl) rfl)) ?_) (Mp ?_)) rfl (B6 _)) rfl)
  (B9 (Mr (Mine.U.up (nL rfl) (P:=fun n=>whileLoop' (AU gl n) EA _ _ _ _=some _) e1))
  (B9 (Cu rfl rfl (BA (kN hy rfl rfl) (BA (Aw (l:=[]) (ds:=[]) (BS Bq rfl) rfl rfl) Cv)) (tN rfl (tO rfl)))
  (xO (bo rfl (AH (Br (f:=EX) rfl (Bi (by decide)) rfl rfl (sN hz rfl rfl (sZ (pn hz rfl rfl))) rfl (e3.u rfl))) rfl rfl)))))))))))),(hz'.put rfl).put rfl⟩
 ·refine A2 (fun l=>some (R.fresh l)) ?_
  rw[EO,EO]
  exact L5 _ _
 ·exact BH (Aa (C9 (List.length_take_le' _ _) _) (AN hl (nL rfl)))
theorem bu(h:A8 xs (("a",.d (AV a))::pv s))(ok:PSok s)(hs:P5 s a s'):Turn xs σ s':=by
 cases a with
 |put k v=>obtain⟨d,h1,rfl⟩:=hs;exact bW h h1
 |rem k=>obtain⟨d,h1,rfl⟩:=hs;exact bX h h1
 |back=>cases hs;exact bY h
 |com=>obtain⟨t,h1,h2,rfl⟩:=hs;exact be h ok h1 h2
 |syn=>cases hs;exact bZ h ok
 |chk=>cases hs;exact ba h
 |fls n=>cases hs;exact bg h ok
 |crs n=>cases hs;exact bt rfl h ok
inductive Steps:PS->List Act->PS->Prop
 |nil (s:PS):Steps s [] s
 |cons {s t u:PS} {a:Act} {l:List Act}:PSok s->P5 s a t->Steps t l u->Steps s (a::l) u
theorem bv{l:List Act}(hs:Steps s l s'):∀{xs:List (Str×V)} {σ:List Cell},A8 xs (pv s)->∃ys σ',Lp gl EA 220 (.one "a") P6 (l.map fun a=>V.d (AV a)) ⟨xs,σ⟩ ⟨ys,σ'⟩/\A8 ys (pv s'):=by
 induction hs with
 |nil s=>exact fun {xs σ} h=>⟨xs,σ,GK,h⟩
 |cons ok h1 _ ih=>
  rename_i a l _
  intro xs σ h
  obtain⟨ys,σ1,e1,hy⟩:=bu (σ:=σ) (xs:=AS "a" (.d (AV a)) xs) (.cons Bx (h.other rfl)) ok h1
  obtain⟨zs,σ2,e2,hz⟩:=ih hy (σ:=σ1)
  exact⟨zs,σ2,Hn Mn e1 e2,hz⟩
noncomputable def eT:PF:=⟨fun n=>AP n [(0,.tup [.str "leaf",.lst []])],0⟩
noncomputable def U3:PS:=⟨B2 eT,eT,eT,[],[]⟩
noncomputable def bw(s:PS):D:=.tup [s.hand,Ao s.safe,Ao s.pend,B2 s.disk]
theorem bx{l:List Act}(hs:Steps U3 l s'):Cl gl EA 230 [.d (.lst (l.map AV))] [] (.val (.d (bw s'))) []:=by
 obtain⟨ys,σ,e,h⟩:=bv hs (xs:=[("actions",.d (.lst (l.map AV))),("hand",.d (B2 eT)),("kept",.d (B2 eT)),("disk",.d (B2 eT)),("safe",.d (Ao [])),("pending",.d (Ao []))]) (σ:=[]) (.cons rfl (.cons rfl (.cons rfl (.cons rfl (.cons rfl .nil)))))
 refine Cw rfl rfl (AX (xs':=[("actions",.d (.lst (l.map AV))),("hand",.d (B2 eT)),("kept",.d (B2 eT)),("disk",.d (B2 eT))]) (σ':=[]) rfl (fun n=>by kernel_rfl) (AX (xs':=[("actions",.d (.lst (l.map AV))),("hand",.d (B2 eT)),("kept",.d (B2 eT)),("disk",.d (B2 eT)),("safe",.d (Ao [])),("pending",.d (Ao []))]) (σ':=[]) rfl (fun n=>by kernel_rfl) (AX rfl (Hm (l:=⟨l.map fun a=>V.d (AV a),false⟩) (CF rfl (pR rfl rfl) (A2 (fun l=>some (l,_)) Ai)) rfl rfl (Mine.U.up (nL rfl) (P:=fun n=>forLoop' (AU gl n) EA _ _ _ _=some _) e)) ?_)))
 exact CR rfl (Bf (Az (vs:=[.d s'.hand,.d (Ao s'.safe),.d (Ao s'.pend),.d (B2 s'.disk)]) (sN h rfl rfl (sN h rfl rfl (sN h rfl rfl (sZ (pn h rfl rfl))))) rfl (by decide))) rfl
end
open PySem
structure Pag where
 lf:Bool
 xs:List D
 cs:List D
abbrev B0:=Nat×Nat×Nat
noncomputable def Pag.hd(p:Pag)(q:B0):List V:=cond p.lf [.d (.str "leaf"),.loc q.2.1] [.d (.str "inner"),.loc q.2.1,.loc q.2.2]
noncomputable def Pag.d(p:Pag):D:=cond p.lf (.tup [.str "leaf",.lst p.xs]) (.tup [.str "inner",.lst p.xs,.lst p.cs])
abbrev BG:=Int->Option Pag
noncomputable def Lv(l:List D):Option Cell:=some (.lst (l.map .d))
structure Lay(σ:List Cell)(q:B0)(p:Pag):Prop where
 a:σ[q.1]?=some (.lst (p.hd q))
 b:σ[q.2.1]?=Lv p.xs
 c:p.lf=false->σ[q.2.2]?=Lv p.cs
structure Own(o:Nat->Int×Nat)(n:Int)(q:B0)(p:Pag):Prop where
 a:o q.1=(n,0)
 b:o q.2.1=(n,1)
 c:p.lf=false->o q.2.2=(n,2)
noncomputable def Ht(d:Nat)(r:Int):Cell:=.inst [("pages",.loc d),("root",.d (.int r))]
noncomputable def tb(pl:Int->B0)(f:BG):Int->Option V:=fun n=>(f n).map fun _=>.loc (pl n).1
structure HT(σ:List Cell)(s d:Nat)(r:Int)(pl:Int->B0)(f:BG):Prop where
 inst:σ[s]?=some (Ht d r)
 dic:∃es,σ[d]?=some (.dct false es)/\Dic es (tb pl f)
 lay:∀n p,f n=some p->Lay σ (pl n) p
 own:∃o:Nat->Int×Nat,o s=(0,3)/\o d=(0,4)/\∀n p,f n=some p->Own o n (pl n) p
 dm:Bc f
structure Fr(s d:Nat)(pl:Int->B0)(f:BG)(x:Nat):Prop where
 s:x≠s
 d:x≠d
 a:∀n p,f n=some p->x≠(pl n).1
 b:∀n p,f n=some p->x≠(pl n).2.1
 c:∀n p,f n=some p->p.lf=false->x≠(pl n).2.2
section
variable{σ σ':List Cell}{s d:Nat}{r:Int}{pl:Int->B0}{f:BG}{n m:Int}{p p':Pag}{q:B0}{x y:Nat}{c:Cell}{o:Nat->Int×Nat}
theorem Lay.mono(h:Lay σ q p)(k:∀x c,σ[x]?=some c->(x=q.1\/x=q.2.1\/(p.lf=false/\x=q.2.2))->σ'[x]?=some c):Lay σ' q p:=⟨k _ _ h.a (.inl rfl),k _ _ h.b (.inr (.inl rfl)),fun e=>k _ _ (h.c e) (.inr (.inr ⟨e,rfl⟩))⟩
theorem HT.mono(h:HT σ s d r pl f)(k:∀(x:Nat) (c:Cell),σ[x]?=some c->σ'[x]?=some c):HT σ' s d r pl f:=⟨k _ _ h.inst,h.dic.imp fun es e=>⟨k _ _ e.1,e.2⟩,fun n p e=>(h.lay n p e).mono fun x c e _=>k x c e,h.own,h.dm⟩
theorem D9(l:List Cell){x:Nat}{c:Cell}(h:σ[x]?=some c):(σ++l)[x]?=some c:=(KG (FC.mp h).1).trans h
theorem HT.app(h:HT σ s d r pl f)(l:List Cell):HT (σ++l) s d r pl f:=h.mono fun x c e=>D9 l e
theorem Mt(h:σ[x]?=some c):x < σ.length:=(FC.mp h).1
theorem HT.fr(h:HT σ s d r pl f)(hx:σ.length<=x):Fr s d pl f x:=
 have k:∀{y c},σ[y]?=some c->x≠y:=fun e q=>absurd (Mt e) (C2.mpr (q▸hx))
 ⟨k h.inst,h.dic.elim fun _ e=>k e.1,fun n p e=>k (h.lay n p e).a,fun n p e=>k (h.lay n p e).b,fun n p e g=>k ((h.lay n p e).c g)⟩
theorem Own.mem(h:Own o n q p)(e:x=q.1\/x=q.2.1\/(p.lf=false/\x=q.2.2)):(o x).1=n/\(o x).2 < 3:=by
 rcases e with e |e |⟨g,e⟩
 ·rw[e,h.a];exact⟨rfl,CC _⟩
 ·rw[e,h.b];exact⟨rfl,Nat.lt_of_sub_eq_succ rfl⟩
 ·rw[e,h.c g];exact⟨rfl,Cc 2⟩
open Classical in
theorem HT.chg(h:HT σ s d r pl f)(hf:f n=some p)(h1:q.1=(pl n).1)(h2:q.2.1=(pl n).2.1\/Fr s d pl f q.2.1)(h3:p'.lf=p.lf)(h4:p.lf=false->q.2.2=(pl n).2.2\/Fr s d pl f q.2.2)(h5:p.lf=false->q.2.1≠q.2.2)
 (hs:∀x c,σ[x]?=some c->x≠(pl n).1->x≠(pl n).2.1->(p.lf=false->x≠(pl n).2.2)->σ'[x]?=some c) (hl:Lay σ' q p'):HT σ' s d r (upd pl n q) (upd f n (some p')):=by
 obtain⟨o,os,od,on⟩:=h.own
 have no:∀{x c},σ[x]?=some c->((o x).1=n->3<=(o x).2)->σ'[x]?=some c:=fun {x c} e k=>by
  have k:∀{j},o x=(n,j)->3<=j:=fun q=>by have:=k (A2 Prod.fst q);rw[q] at this;exact this
  exact hs x c e (fun q=>absurd (k (q▸(on n p hf).a)) (by decide)) (fun q=>absurd (k (q▸(on n p hf).b)) (by decide)) fun g q=>absurd (k (q▸(on n p hf).c g)) (by decide)
 obtain⟨es,e1,e2⟩:=h.dic
 have hm:∀m,tb (upd pl n q) (upd f n (some p')) m=tb pl f m:=fun m=>by
  unfold tb
  by_cases e:m=n
  ·rw[e,AY,AY,hf,h1];rfl
  ·rw[Ah e,Ah e]
 refine⟨no h.inst fun _=>os▸Am 3,⟨es,no e1 fun _=>od▸Cb 3,e2.nod,fun m=>(e2.look m).trans (hm m).symm⟩,fun m p1 e=>?_,?_,fun m p1 e=>?_⟩
 ·by_cases g:m=n
  ·subst g;rw[AY] at e ⊢;cases e;exact hl
  ·rw[Ah g] at e ⊢
   exact(h.lay m p1 e).mono fun x c ex k=>no ex fun k'=>absurd (((on m p1 e).mem k).1.symm.trans k') g
 ·refine⟨fun x=>if x=q.2.1 then(n,1) else if x=q.2.2/\p.lf=false then(n,2) else o x,?_⟩
  have hb:∀{y:Nat} {m:Int} {j:Nat},o y=(m,j)->(m≠n\/3<=j)->(Fr s d pl f q.2.1->q.2.1≠y)->(Fr s d pl f q.2.2->q.2.2≠y)->(if y=q.2.1 then(n,1) else if y=q.2.2/\p.lf=false then(n,2) else o y)=(m,j):=fun {y m j} ey hmj k1 k2=>by
   have z:∀{i:Nat},i < 3->((m,j):Int×Nat)≠(n,i):=fun {i} hi e=>hmj.elim (fun k=>k (A2 Prod.fst e)) fun k=>absurd (Aa k (Aa (BQ (A2 Prod.snd e)) hi)) (FF 3)
   rw[A3 fun e:y=q.2.1=>h2.elim (fun e'=>z (by decide:(1:Nat) < 3) (ey.symm.trans (by rw[e,e',(on n p hf).b]))) fun F=>k1 F e.symm,
    A3 fun e:y=q.2.2/\p.lf=false=>(h4 e.2).elim (fun e'=>z (by decide:(2:Nat) < 3) (ey.symm.trans (by rw[e.1,e',(on n p hf).c e.2]))) fun F=>k2 F e.1.symm]
   exact ey
  refine⟨hb os (.inr (Am 3)) (fun F=>F.s) (fun F=>F.s),hb od (.inr (nL rfl)) (fun F=>F.d) (fun F=>F.d),fun m p1 e=>?_⟩
  by_cases g:m=n
  ·subst g;rw[AY] at e ⊢;cases e
   refine⟨?_,A5 rfl,fun hl'=>(A3 (h5 (h3.symm.trans hl')).symm).trans (A5 ⟨rfl,h3.symm.trans hl'⟩)⟩
   rw[h1,A3 fun e:(pl m).1=q.2.1=>h2.elim (fun e'=>by have:=(on m p hf).a;rw[e,e',(on m p hf).b] at this;cases this) fun F=>F.a m p hf e.symm,
    A3 fun e:(pl m).1=q.2.2/\p.lf=false=>(h4 e.2).elim (fun e'=>by have:=(on m p hf).a;rw[e.1,e',(on m p hf).c e.2] at this;cases this) fun F=>F.a m p hf e.1.symm]
   exact(on m p hf).a
  ·rw[Ah g] at e ⊢
   exact⟨hb (on m p1 e).a (.inl g) (fun F=>F.a m p1 e) fun F=>F.a m p1 e,hb (on m p1 e).b (.inl g) (fun F=>F.b m p1 e) fun F=>F.b m p1 e,fun hl=>hb ((on m p1 e).c hl) (.inl g) (fun F=>F.c m p1 e hl) fun F=>F.c m p1 e hl⟩
 ·by_cases g:m=n
  ·exact g▸h.dm n p hf
  ·rw[Ah g] at e;exact h.dm m p1 e
theorem U4{α:Type}{g:Int->α}(n:Int):upd g n (g n)=g:=funext fun m=>by
 by_cases e:m=n
 ·rw[e,AY]
 ·exact Ah e
theorem Bj(h:σ[x]?=some c)(e:x≠y){c':Cell}:(σ.set y c')[x]?=some c:=(List.getElem?_set_ne e.symm).trans h
theorem HG(h:σ[x]?=some c){c':Cell}:(σ.set x c')[x]?=some c':=List.getElem?_set_self (Mt h)
theorem HT.ne(h:HT σ s d r pl f)(hf:f n=some p):(pl n).1≠(pl n).2.1/\(p.lf=false->(pl n).2.1≠(pl n).2.2/\(pl n).1≠(pl n).2.2):=by
 obtain⟨o,_,_,on⟩:=h.own
 have on:=on n p hf
 refine⟨fun e=>?_,fun g=>⟨fun e=>?_,fun e=>?_⟩⟩
 ·have:=on.a;rw[e,on.b] at this;cases this
 ·have:=on.b;rw[e,on.c g] at this;cases this
 ·have:=on.a;rw[e,on.c g] at this;cases this
theorem HT.set1(h:HT σ s d r pl f)(hf:f n=some p)(l:List D):HT (σ.set (pl n).2.1 (.lst (l.map .d))) s d r pl (upd f n (some ⟨p.lf,l,p.cs⟩)):=by
 have hl:=h.lay n p hf
 have ne:=h.ne hf
 have:=h.chg (σ':=σ.set (pl n).2.1 (.lst (l.map .d))) (p':=⟨p.lf,l,p.cs⟩) hf (q:=pl n) rfl (.inl rfl) rfl (fun _=>.inl rfl) (fun g=>(ne.2 g).1) (fun x c e _ k _=>Bj e k) ⟨Bj hl.a ne.1,HG hl.b,fun g=>Bj (hl.c g) (ne.2 g).1.symm⟩
 rwa [U4] at this
theorem HT.set2(h:HT σ s d r pl f)(hf:f n=some p)(g:p.lf=false)(l:List D):HT (σ.set (pl n).2.2 (.lst (l.map .d))) s d r pl (upd f n (some ⟨p.lf,p.xs,l⟩)):=by
 have hl:=h.lay n p hf
 have ne:=(h.ne hf).2 g
 have:=h.chg (σ':=σ.set (pl n).2.2 (.lst (l.map .d))) (p':=⟨p.lf,p.xs,l⟩) hf (q:=pl n) rfl (.inl rfl) rfl (fun _=>.inl rfl) (fun g=>ne.1) (fun x c e _ _ k=>Bj e (k g)) ⟨Bj hl.a ne.2,Bj hl.b ne.1,fun g=>HG (hl.c g)⟩
 rwa [U4] at this
theorem HT.mov1(h:HT σ s d r pl f)(hf:f n=some p)(F:Fr s d pl f x){l:List D}(hx:σ[x]?=Lv l):HT (σ.set (pl n).1 (.lst ((p.hd (pl n)).set 1 (.loc x)))) s d r (upd pl n ((pl n).1,x,(pl n).2.2)) (upd f n (some ⟨p.lf,l,p.cs⟩)):=by
 have hl:=h.lay n p hf
 have ne:=h.ne hf
 refine h.chg hf rfl (.inr F) rfl (fun _=>.inl rfl) (fun g=>F.c n p hf g) (fun x c e k _ _=>Bj e k) ⟨(HG hl.a).trans (A2 (fun l=>some (Cell.lst l)) ?_),Bj hx (F.a n p hf),fun g=>Bj (hl.c g) (ne.2 g).2.symm⟩
 unfold Pag.hd
 cases p.lf <;> rfl
theorem HT.mov2(h:HT σ s d r pl f)(hf:f n=some p)(g:p.lf=false)(F:Fr s d pl f x){l:List D}(hx:σ[x]?=Lv l):HT (σ.set (pl n).1 (.lst ((p.hd (pl n)).set 2 (.loc x)))) s d r (upd pl n ((pl n).1,(pl n).2.1,x)) (upd f n (some ⟨p.lf,p.xs,l⟩)):=by
 have hl:=h.lay n p hf
 have ne:=h.ne hf
 refine h.chg hf rfl (.inl rfl) rfl (fun _=>.inr F) (fun g=>(F.b n p hf).symm) (fun x c e k _ _=>Bj e k) ⟨(HG hl.a).trans (A2 (fun l=>some (Cell.lst l)) ?_),Bj hl.b ne.1.symm,fun g=>Bj hx (F.a n p hf)⟩
 unfold Pag.hd
 rw[g];rfl
open Classical in
theorem HT.add(h:HT σ s d r pl f)(hf:f n=.none)(hn:n∈B8){es:List (Int×V)}(he:σ[d]?=some (.dct false es))(hd:Dic es (tb pl f))(hl:Lay σ q p)(F:Fr s d pl f q.1)(F1:Fr s d pl f q.2.1)(F2:p.lf=false->Fr s d pl f q.2.2)(n1:q.1≠q.2.1)(n2:p.lf=false->q.1≠q.2.2/\q.2.1≠q.2.2) :
 HT (σ.set d (.dct false (BL n (.loc q.1) es))) s d r (upd pl n q) (upd f n (some p)):=by
 obtain⟨o,os,od,on⟩:=h.own
 have d1:=hd.set n (.loc q.1)
 have sd:s≠d:=fun e=>by rw[e,od] at os;cases os
 refine⟨Bj h.inst sd,⟨_,HG he,d1.nod,fun m=>(d1.look m).trans ?_⟩,fun m p1 e=>?_,⟨fun x=>if x=q.1 then(n,0) else if x=q.2.1 then(n,1) else if x=q.2.2/\p.lf=false then(n,2) else o x,?_⟩,fun m p1 e=>?_⟩
 ·unfold tb
  by_cases e:m=n
  ·rw[e,AY,AY,AY];rfl
  ·rw[Ah e,Ah e,Ah e]
 ·by_cases g:m=n
  ·subst g;rw[AY] at e ⊢;cases e
   exact⟨Bj hl.a F.d,Bj hl.b F1.d,fun g=>Bj (hl.c g) (F2 g).d⟩
  ·rw[Ah g] at e ⊢
   refine(h.lay m p1 e).mono fun x c ex k=>Bj ex fun e'=>?_
   have:=((on m p1 e).mem k).2
   rw[e',od] at this
   exact absurd this (by decide)
 ·have hb:∀{y:Nat} {z:Int×Nat},o y=z->(∀{x},Fr s d pl f x->x≠y)->(if y=q.1 then(n,0) else if y=q.2.1 then(n,1) else if y=q.2.2/\p.lf=false then(n,2) else o y)=z:=fun {y z} e k=>by
   rw[A3 (k F).symm,A3 (k F1).symm,A3 fun e=>k (F2 e.2) e.1.symm];exact e
  refine⟨hb os fun F=>F.s,hb od fun F=>F.d,fun m p1 e=>?_⟩
  by_cases g:m=n
  ·subst g;rw[AY] at e ⊢;cases e
   exact⟨A5 rfl,(A3 n1.symm).trans (A5 rfl),fun g=>(A3 (n2 g).1.symm).trans ((A3 (n2 g).2.symm).trans (A5 ⟨rfl,g⟩))⟩
  ·rw[Ah g] at e ⊢
   exact⟨hb (on m p1 e).a fun F=>F.a m p1 e,hb (on m p1 e).b fun F=>F.b m p1 e,fun g=>hb ((on m p1 e).c g) fun F=>F.c m p1 e g⟩
 ·by_cases g:m=n
  ·exact g▸hn
  ·rw[Ah g] at e;exact h.dm m p1 e
theorem HT.del(h:HT σ s d r pl f)(n:Int){es:List (Int×V)}(he:σ[d]?=some (.dct false es))(hd:Dic es (tb pl f)):HT (σ.set d (.dct false (CK n es))) s d r pl (upd f n .none):=by
 obtain⟨o,os,od,on⟩:=h.own
 have d1:=hd.del n
 have sd:s≠d:=fun e=>by rw[e,od] at os;cases os
 have hn:∀{m p},upd f n .none m=some p->f m=some p:=fun {m p} e=>by
  by_cases g:m=n
  ·rw[g,AY] at e;cases e
  ·rwa [Ah g] at e
 refine⟨Bj h.inst sd,⟨_,HG he,d1.nod,fun m=>(d1.look m).trans ?_⟩,fun m p1 e=>(h.lay m p1 (hn e)).mono fun x c ex k=>Bj ex fun e'=>?_,⟨o,os,od,fun m p1 e=>on m p1 (hn e)⟩,fun m p1 e=>h.dm m p1 (hn e)⟩
 ·unfold tb
  by_cases e:m=n
  ·rw[e,AY,AY];rfl
  ·rw[Ah e,Ah e]
 ·have:=((on m p1 (hn e)).mem k).2
  rw[e',od] at this
  exact absurd this (by decide)
theorem HT.root(h:HT σ s d r pl f)(r':Int):HT (σ.set s (Ht d r')) s d r' pl f:=by
 obtain⟨o,os,od,on⟩:=h.own
 have sd:d≠s:=fun e=>by rw[e,os] at od;cases od
 refine⟨HG h.inst,h.dic.imp fun es e=>⟨Bj e.1 sd,e.2⟩,fun m p1 e=>(h.lay m p1 e).mono fun x c ex k=>Bj ex fun e'=>?_,h.own,h.dm⟩
 have:=((on m p1 e).mem k).2
 rw[e',os] at this
 exact absurd this (by decide)
end
open PySem
section
variable{G:Gl}{fn f:Fn}{K:Nat}{st st₁ st₂:St}{r:R}{σ σ' σ'':List Cell}{xs xs':List (Str×V)}{e t:Expr}{es:List Expr}{p q pos:Pos}{v w:V}{vs:List V}{i:Nat}{fs fs':List (Str×V)}{a m:Str}{b:Bool}
theorem Mu(hc:(G.flds.contains a&&!Lr e)=true)(h:Ev G fn K e st (.val (.loc i)) st₁)(hs:st₁.store[i]?=some (.inst fs))(hl:AG a fs=some w):Ev G fn (K+1) (.Attribute e a p) st (.val w) st₁:=fun n=>
 BM hc (bnd (a:=(i,st₁)) (bnd (h n) rfl) (bnd (a:=fs) (by rw[hs];rfl) (AQ hl rfl)))
theorem Dv{ap:Pos}(hok:true=Dn e ap pos es.length)(hb:Ev G fn K e st (.val (.loc i)) st₁)(hs:st₁.store[i]?=some (.inst fs))(hm:AG m fs=.none)(ha:Sl G fn K es st₁ vs ⟨xs,σ⟩)(hs':σ[i]?=some (.inst fs'))(hf:AG m G.meths=some f)(hsh:f.sh=true)(hc:Cl G f K (.loc i::vs) σ r σ'):Ev G fn (K+1) (.Call (.Attribute e m ap) es [] pos) st r ⟨xs,σ'⟩:=fun n=>by
 refine BM hok.symm (bnd (bnd (hb n) rfl) (bnd (ha n) ?_))
 show(if (JB m st₁.store[i]? == Ka σ[i]?)=true then KZ G _ i m vs ⟨xs,σ⟩ σ[i]? else .none)=_
 rw[hs,hs']
 show(if ((if (AG m fs).isNone=true then 3 else 0) == 3)=true then _ else _)=_
 rw[hm]
 refine bnd hf ?_
 show cond f.sh _ _=_
 rw[hsh]
 exact AQ (hc n) rfl
theorem Mv(hc:(G.flds.contains a&&decide (fs.length < 8))=true)(h:Ev G fn K e st (.val (.loc i)) ⟨xs,σ⟩)(hs:σ[i]?=some (.inst fs))(hx:σ.set i (.inst (AS a v fs))=σ'):To G fn K (.Attribute e a p) v st ⟨xs,σ'⟩:=fun n=>by
 subst hx
 exact bnd (a:=(i,⟨xs,σ⟩)) (bnd (h n) rfl) (bnd (a:=fs) (by show IL σ[i]?=_;rw[hs];rfl) (BM hc rfl))
theorem Mw(h:Kp G fn K (wants fn (.Attribute t a p)) e st v st₁)(k:To G fn K (.Attribute t a p) v st₁ st₂):X1 G fn K (.Assign [.Attribute t a p] e q) st .next st₂:=fun n=>AQ (bnd (h n) (k n)) rfl
theorem U5{x:Str}{i j:Int}(hc:true=Cg fn x)(hl:AG x xs=some (.d (.int i)))(h:Ev G fn K e ⟨xs,σ⟩ (.val (.d (.int j))) ⟨xs,σ⟩):X1 G fn K (.AugAssign (.Name x p) .Add e q) ⟨xs,σ⟩ .next ⟨AS x (.d (.int (i+j))) xs,σ⟩:=fun n=>
 AQ (BM hc.symm (bnd hl (bnd (a:=i) rfl (AQ (bnd (bnd (h n) rfl) rfl) rfl)))) rfl
noncomputable def Rn(G:Gl)(fn:Fn)(K k:Nat)(xs:List (Str×V))(σ:List Cell)(r:R)(σ':List Cell):Prop:=∃fl xs',(∀n,(AU G (n+K)).ex fn (fn.body.drop k) ⟨xs,σ⟩=some (fl,⟨xs',σ'⟩))/\Lz fl=r
theorem BX{k:Nat}(hk:true=decide (k < fn.body.length))(h:X1 G fn K (BV fn k) ⟨xs,σ⟩ .next ⟨xs',σ'⟩)(r':Rn G fn K (k+1) xs' σ' r σ''):Rn G fn (K+1) k xs σ r σ'':=by
 obtain⟨fl,ys,r',hf⟩:=r'
 refine⟨fl,ys,fun n=>?_,hf⟩
 rw[MY hk]
 exact bnd (h n) (r' n)
theorem FR{k:Nat}(hk:true=decide (k < fn.body.length))(h:X1 G fn K (BV fn k) ⟨xs,σ⟩ (.ret r) ⟨xs',σ'⟩):Rn G fn (K+1) k xs σ r σ':=⟨_,_,fun n=>by rw[MY hk];exact bnd (h n) rfl,rfl⟩
theorem Jm{k:Nat}(hk:fn.body.drop k=[]):Rn G fn (K+1) k xs σ (.val (.d .none)) σ:=⟨.next,xs,fun n=>by rw[hk];rfl,rfl⟩
theorem EE(hl:vs.length=f.params.length)(hs:f.sh=true)(h:Rn G f K 0 (f.params.zip vs) σ r σ'):Cl G f (K+1) vs σ r σ':=fun n=>by
 obtain⟨fl,ys,h,hf⟩:=h
 refine Dp hl ?_
 rw[hs]
 exact AQ (h n) (by rw[hf])
end
theorem Eu:PyData.strOk "leaf" = true:=by decide +kernel
theorem Fv:PyData.strOk "inner" = true:=by decide +kernel
section
variable{fn:Fn}{K:Nat}{σ:List Cell}{s d:Nat}{r:Int}{pl:Int->B0}{f:BG}{n:Int}{p:Pag}{xs ys:List (Str×V)}{e i:Expr}{p1 p2 p3 p4 p5:Pos}{a b:Nat}{z:Str}
noncomputable def U6(b:Bool):Str:=cond b "leaf" "inner"
theorem Id(H:HT σ s d r pl f)(hs:A8 xs ys)(hk:true=DU (fn.names.lookup z))(hl:AG z ys=some (.loc s)):Ev gl fn (K+2) (.Attribute (.Name z p1) "pages" p2) ⟨xs,σ⟩ (.val (.loc d)) ⟨xs,σ⟩:=Mu rfl (pn hs hk hl) H.inst rfl
theorem Fw(H:HT σ s d r pl f)(hs:A8 xs ys)(hk:true=DU (fn.names.lookup z))(hl:AG z ys=some (.loc s)):Ev gl fn (K+2) (.Attribute (.Name z p1) "root" p2) ⟨xs,σ⟩ (.val (.d (.int r))) ⟨xs,σ⟩:=Mu rfl (pn hs hk hl) H.inst rfl
theorem bz(H:HT σ s d r pl f)(hf:f n=some p):CL σ (.val (.loc d)) (.val (.d (.int n)))=some (.loc (pl n).1):=by
 obtain⟨es,h1,h2⟩:=H.dic
 exact Jh h1 ((h2.look n).trans (by unfold tb;rw[hf];rfl))
theorem Ew(H:HT σ s d r pl f)(hf:f n=some p)(hs:A8 xs ys)(hk:true=DU (fn.names.lookup z))(hl:AG z ys=some (.loc s))(hv:IH i=.none)(hi:Ev gl fn (K+2) i ⟨xs,σ⟩ (.val (.d (.int n))) ⟨xs,σ⟩):Ev gl fn (K+3) (.Subscript (.Attribute (.Name z p1) "pages" p2) i p3) ⟨xs,σ⟩ (.val (.loc (pl n).1)) ⟨xs,σ⟩:=BF hv (Id H hs hk hl) hi (bz H hf)
theorem HH{q:Nat}{l:List V}{k:Int}{w:V}(h:σ[q]?=some (.lst l))(hi:idx l k=some w):CL σ (.val (.loc q)) (.val (.d (.int k)))=some w:=Es (show((I5 (.val (.loc q))).bind fun n=>Hc σ[n]?)=_ from bnd (a:=q) rfl (by rw[h];rfl)) (bnd (a:=k) rfl (bnd (a:=l) (Ba (a:=l) (by show ER σ[q]?=_;rw[h];rfl) rfl) hi))
theorem cB(H:HT σ s d r pl f)(hf:f n=some p)(h:Ev gl fn (K+1) e ⟨xs,σ⟩ (.val (.loc (pl n).1)) ⟨xs,σ⟩):Ev gl fn (K+2) (.Subscript e (.Constant (.int 0) a p1) p2) ⟨xs,σ⟩ (.val (.d (.str (U6 p.lf)))) ⟨xs,σ⟩:=iX h (HH (H.lay n p hf).a (by unfold Pag.hd;cases p.lf <;> rfl))
theorem Bk(H:HT σ s d r pl f)(hf:f n=some p)(h:Ev gl fn (K+1) e ⟨xs,σ⟩ (.val (.loc (pl n).1)) ⟨xs,σ⟩):Ev gl fn (K+2) (.Subscript e (.Constant (.int 1) a p1) p2) ⟨xs,σ⟩ (.val (.loc (pl n).2.1)) ⟨xs,σ⟩:=iX h (HH (H.lay n p hf).a (by unfold Pag.hd;cases p.lf <;> rfl))
theorem DM(H:HT σ s d r pl f)(hf:f n=some p)(hb:p.lf=false)(h:Ev gl fn (K+1) e ⟨xs,σ⟩ (.val (.loc (pl n).1)) ⟨xs,σ⟩):Ev gl fn (K+2) (.Subscript e (.Constant (.int 2) a p1) p2) ⟨xs,σ⟩ (.val (.loc (pl n).2.2)) ⟨xs,σ⟩:=iX h (HH (H.lay n p hf).a (by unfold Pag.hd;rw[hb];rfl))
theorem Dw{t:Str}{c:Bool}(H:HT σ s d r pl f)(hf:f n=some p)(h:Ev gl fn (K+1) e ⟨xs,σ⟩ (.val (.loc (pl n).1)) ⟨xs,σ⟩)(ht:PyData.strOk t=true)(hc:decide (U6 p.lf=t)=c):Tt gl fn (K+3) (.Compare (.Subscript e (.Constant (.int 0) a p1) p2) [.Eq] [.Constant (.str t) b p3] p4) ⟨xs,σ⟩ c ⟨xs,σ⟩:=An rfl (cB H hf h) (BW ht) (GN (Fq hc))
theorem U7{q:Nat}{l:List V}(h:σ[q]?=some (.lst l)):GC σ "len" (.val (.loc q))=some (.val (.d (.int l.length))):=AQ (a:=l) (Ba (a:=l) (by show ER σ[q]?=_;rw[h];rfl) rfl) rfl
theorem Hu(H:HT σ s d r pl f)(hf:f n=some p)(hE:∀m,Fj gl (AU gl (m+(K+2))) fn "len" [.Subscript e (.Constant (.int 1) a p1) p2] ⟨xs,σ⟩=Kc (AU gl (m+(K+2))) fn "len" (.Subscript e (.Constant (.int 1) a p1) p2) ⟨xs,σ⟩)(h:Ev gl fn (K+1) e ⟨xs,σ⟩ (.val (.loc (pl n).1)) ⟨xs,σ⟩):Ev gl fn (K+3) (.Call (.Name "len" p3) [.Subscript e (.Constant (.int 1) a p1) p2] [] p4) ⟨xs,σ⟩ (.val (.d (.int p.xs.length))) ⟨xs,σ⟩:=by
 have:=C7 (p:=p4) (q:=p3) hE (Bk H hf h) (U7 (H.lay n p hf).b)
 rwa [A4] at this
end
open PySem
section
variable{σ:List Cell}{s d:Nat}{r:Int}{pl:Int->B0}{f:BG}{n:Int}{p:Pag}{q:B0}{m:Nat}
noncomputable def U8(s a i:Nat):List (Str×V):=[("self",.loc s),("page",.loc a),("n",.d (.int i))]
theorem HT.len(H:HT σ s d r pl f){es:List (Int×V)}(h:Dic es (tb pl f)):es.length < lim:=Aa (h.len fun n y e=>by
 unfold tb at e
 cases hf:f n with
 |none=>rw[hf] at e;cases e
 |some p=>exact H.dm n p hf) (nL rfl)
theorem HT.inn(H:HT σ s d r pl f){c:Bool}(hc:(f n).isSome=c):Fh σ (.val (.d (.int n))) (.val (.loc d))=some c:=by
 obtain⟨es,h1,h2⟩:=H.dic
 exact Hq h1 (by rw[h2.look n];unfold tb;rw[Option.isSome_map];exact hc)
theorem cC(H:HT σ s d r pl f){a:Nat}(L:∀k:Nat,k < m->(f k).isSome=true)(hm:f m=.none):∀(j i k:Nat),i+j=m->j < k->Wh gl JU 8 (IU (BV JU 1)) (CX (BV JU 1)) k ⟨U8 s a i,σ⟩ ⟨U8 s a m,σ⟩:=by
 intro j
 induction j with
 |zero=>
  intro i k e hk
  cases e
  cases k with
  |zero=>exact absurd hk (FF 0)
  |succ k=>exact Jl (Ky (pR rfl rfl) (Id H .refl rfl rfl) (H.inn (by rw[Nat.add_zero] at hm;rw[hm];rfl)))
 |succ j ih=>
  intro i k e hk
  cases k with
  |zero=>exact absurd hk (Nat.not_lt_zero _)
  |succ k=>exact Mq (Ky (pR rfl rfl) (Id H .refl rfl rfl) (H.inn (L i (e▸Ei (CC j))))) (xO (U5 rfl rfl Ab)) (ih (i+1) k ((I2 i j).trans e) (HZ hk))
structure Least(f:BG)(m:Nat):Prop where
 low:∀k:Nat,k < m->(f k).isSome=true
 no:f m=.none
 dm:(m:Int)∈B8
theorem Least.lt(h:Least f m):m < 1000:=by
 have k:∀i∈B8,i < 1000:=by decide
 exact Bp.mp (k _ h.dm)
theorem PB(H:HT σ s d r pl f)(L:Least f m)(hl:Lay σ q p)(F:Fr s d pl f q.1)(F1:Fr s d pl f q.2.1)(F2:p.lf=false->Fr s d pl f q.2.2)(n1:q.1≠q.2.1)(n2:p.lf=false->q.1≠q.2.2/\q.2.1≠q.2.2) :
 ∃σ',Cl gl JU 20 [.loc s,.loc q.1] σ (.val (.d (.int m))) σ'/\HT σ' s d r (upd pl m q) (upd f m (some p)):=by
 obtain⟨es,h1,h2⟩:=H.dic
 refine⟨_,EE rfl rfl (BX rfl (Ac (AH Ab) rfl) (BX rfl (Mr (Mine.U.up (nL rfl) (P:=fun n=>whileLoop' (AU gl n) JU _ _ _ _=some _) (cC H L.low L.no m 0 1000 (De m) L.lt))) (BX rfl (FN (kR rfl rfl) (Hl (σ':=σ.set d (.dct false (BL m (.loc q.1) es))) (Id H .refl rfl rfl) (pR rfl rfl) rfl ?_)) (FR rfl (Bf (pR rfl rfl)))))),H.add L.no L.dm h1 h2 hl F F1 F2 n1 n2⟩
 rw[h1]
 exact BM (by rw[Fo,Ae (H.len h2)];rfl) rfl
noncomputable def Mx(s a:Nat)(k:Int)(i:Nat):List (Str×V):=[("self",.loc s),("page",.loc a),("key",.d (.key k)),("i",.d (.int i))]
theorem PC{α:Type}(l:List α){k:Nat}{x:α}(h:l[k]?=some x):idx l (k:Int)=some x:=by
 refine bnd (a:=k) ?_ h
 unfold seqIndex?
 rw[A3 (E1.mpr (G6 k)),A5 (Bb.mpr ⟨Ae (G6 k),Ae (Bp.mpr (FC.mp h).1)⟩)]
 rfl
theorem DV{q:Nat}{l:List D}{k:Nat}{w:D}(h:σ[q]?=Lv l)(hi:l[k]?=some w):CL σ (.val (.loc q)) (.val (.d (.int k)))=some (.d w):=HH h (PC _ (by rw[C0,hi];rfl))
theorem PD{x y:Int}{c:Bool}(h:decide (x<=y)=c):Di .LtE σ (.val (.d (.key x))) (.val (.d (.key y)))=some c:=A2 some h
theorem EF{x y:Int}{c:Bool}(h:decide (x < y)=c):Di .Lt σ (.val (.d (.int x))) (.val (.d (.int y)))=some c:=A2 some h
theorem Dx{x y:Int}{c:Bool}(h:decide (y < x)=c):Di .Gt σ (.val (.d (.int x))) (.val (.d (.int y)))=some c:=A2 some h
theorem U9{x y:Int}{c:Bool}(h:decide (y<=x)=c):Di .GtE σ (.val (.d (.int x))) (.val (.d (.int y)))=some c:=A2 some h
theorem cD(H:HT σ s d r pl f)(hf:f n=some p){k:Int}{A B:List Int}(hx:p.xs=(A++B).map .key)(ha:∀a∈A,a<=k)(hb:∀b∈B.head?,k < b):∀(j i c:Nat),i+j=A.length->j < c->Wh gl Hg 12 (IU (BV Hg 1)) (CX (BV Hg 1)) c ⟨Mx s (pl n).1 k i,σ⟩ ⟨Mx s (pl n).1 k A.length,σ⟩:=by
 have el:∀{i K:Nat},∀{p1 p2 p3 p4 p5:Pos} {a:Nat},Ev gl Hg (K+3) (.Call (.Name "len" p3) [.Subscript (.Name "page" p5) (.Constant (.int 1) a p1) p2] [] p4) ⟨Mx s (pl n).1 k i,σ⟩ (.val (.d (.int p.xs.length))) ⟨Mx s (pl n).1 k i,σ⟩:=Hu H hf (fun _=>rfl) (pR rfl rfl)
 have ln:p.xs.length=A.length+B.length:=by rw[hx,A4,AC]
 have hi:∀{i:Nat} {a:Int},(A++B)[i]?=some a->p.xs[i]?=some (.key a):=fun e=>by rw[hx,C0,e];rfl
 intro j
 induction j with
 |zero=>
  intro i c e hc
  obtain rfl:i=A.length:=e
  cases c with
  |zero=>exact absurd hc (FF 0)
  |succ c=>
   cases B with
   |nil=>exact Jl (CM (FM (An rfl (pR rfl rfl) el (EF (decide_eq_false (by rw[ln];exact Int.lt_irrefl _))))))
   |cons b B=>
    exact Jl (CM (Ds (An rfl (pR rfl rfl) el (EF (Ae (by rw[ln];exact Bp.mpr (Ei (CC _)))))) (Dt (An rfl (BF rfl (Bk H hf (pR rfl rfl)) (pR rfl rfl) (DV (H.lay n p hf).b (hi (a:=b) (by rw[HX (Am _),Nat.sub_self];rfl)))) (pR rfl rfl) (PD (decide_eq_false (Int.not_le.mpr (hb b rfl))))))))
 |succ j ih=>
  intro i c e hc
  have hi':i < A.length:=e▸Ei (CC j)
  cases c with
  |zero=>exact absurd hc (Nat.not_lt_zero _)
  |succ c=>exact Mq (CM (Ds (An rfl (pR rfl rfl) el (EF (Ae (by rw[ln];exact Bp.mpr (C1 hi' (BJ _ _)))))) (Dt (An rfl (BF rfl (Bk H hf (pR rfl rfl)) (pR rfl rfl) (DV (H.lay n p hf).b (hi (a:=A[i]) (by rw[KG hi',D3 hi'])))) (pR rfl rfl) (PD (Ae (ha _ (List.getElem_mem hi')))))))) (xO (U5 rfl rfl Ab)) (ih (i+1) c ((I2 i j).trans e) (HZ hc))
theorem cE(H:HT σ s d r pl f)(hf:f n=some p){k:Int}{A B:List Int}(hx:p.xs=(A++B).map .key)(ha:∀a∈A,a<=k)(hb:∀b∈B.head?,k < b)(hl:A.length < 1000):Cl gl Hg 20 [.loc s,.loc (pl n).1,.d (.key k)] σ (.val (.d (.int A.length))) σ:=
 EE rfl rfl (BX rfl (Ac (AH Ab) rfl) (BX rfl (Mr (Mine.U.up (nL rfl) (P:=fun n=>whileLoop' (AU gl n) Hg _ _ _ _=some _) (cD H hf hx ha hb A.length 0 1000 (De _) hl))) (FR rfl (Bf (pR rfl rfl)))))
end
open PySem
noncomputable def Af(l:List (Int×Str)):Pag:=⟨true,l.map AL,[]⟩
noncomputable def AT(ks cs:List Int):Pag:=⟨false,ks.map .key,cs.map .int⟩
noncomputable def Bt(k:Int)(v:Str)(l:List (Int×Str)):List (Int×Str):=Bn (·.1) (BL k v l)
noncomputable def sV(v:Str):V:=.d (.str v)
section
variable{σ:List Cell}{s d:Nat}{r:Int}{pl pl' pl'':Int->B0}{f f':BG}{n:Int}{p:Pag}{q x:Nat}{xs ys:List (Str×V)}{K:Nat}{fn:Fn}{e:Expr}
theorem cF(l:List (Int×Str)):IB true (l.map (vm sV))=some (l.map AL):=by
 induction l with
 |nil=>rfl
 |cons p r ih=>exact bnd (a:=.str p.2) rfl (AQ ih rfl)
theorem cG(l:List (Int×Str)):IA true ((l.map AL).map V.d)=some (l.map (vm sV)):=by
 induction l with
 |nil=>rfl
 |cons p r ih=>exact bnd (a:=AL p) rfl (bnd (a:=((true,p.1),.str p.2)) rfl (BM rfl (AQ ih rfl)))
theorem PE(l:List (Int×Str)):IA (Dj ((l.map AL).map V.d)) ((l.map AL).map V.d)=some (l.map (vm sV)):=by
 cases l with
 |nil=>rfl
 |cons p r=>exact cG (p::r)
theorem PG(l:List (Int×Str)){k:Int}:ES (Dj ((l.map AL).map V.d)) (l.map (vm sV)) (true,k)=true:=by
 cases l with
 |nil=>rfl
 |cons p r=>rfl
theorem UA{l:List (Int×Str)}(h:(l.map (·.1)).Nodup)(hl:l.length < 64):ET (l.map AL)=some ((Bn (·.1) l).map AL):=TK (c:=true) (fun _=>rfl) (fun _=>rfl) h hl
theorem UB{α:Type}(l:List α)(a b:α):(l++[a]).set l.length b=l++[b]:=by rw[List.set_append_right _ _ (Am _),Nat.sub_self];rfl
theorem DA{α:Type}(l:List α)(a:α):(l++[a])[l.length]?=some a:=Gd
theorem UC{α:Type}(k:Int)(v:α)(l:List (Int×α)):(BL k v l).length<=l.length+1:=by
 have h:=A2 List.length (Mb k v l)
 rw[A4] at h
 rw[h]
 by_cases e:k∈l.map (·.1)
 ·rw[A5 e,A4];exact Cb _
 ·rw[A3 e,AC,A4];exact Am _
theorem My{α:Type}{k:Int}{v:α}{l:List (Int×α)}(h:(l.map (·.1)).Nodup):((BL k v l).map (·.1)).Nodup:=((⟨h,fun _=>rfl⟩:Dic l fun n=>AP n l).set k v).nod
noncomputable def DW(f:BG)(pl pl':Int->B0):Prop:=∀n p,f n=some p->(pl' n).1=(pl n).1
theorem DW.upd1{x:B0}(h:x.1=(pl n).1):DW f pl (upd pl n x):=fun m p _=>by
 by_cases e:m=n
 ·rw[e,AY,h]
 ·rw[Ah e]
theorem UD{σ':List Cell}{w:Nat}{q:B0}{a:Nat}{p1 p2:Pos}(ha:σ[w]?=some (.lst (p.hd q)))(h:Ev gl fn (K+1) e ⟨xs,σ⟩ (.val (.loc w)) ⟨xs,σ⟩)(hx:σ.set w (.lst ((p.hd q).set 1 (.loc x)))=σ'):To gl fn (K+1) (.Subscript e (.Constant (.int 1) a p1) p2) (.loc x) ⟨xs,σ⟩ ⟨xs,σ'⟩:=Hl h Ab (k:=(false,1)) rfl (by
 rw[ha]
 exact Dp (c:=(decide ((0:Int)<=1)&&decide (1 < (p.hd q).length))=true) (by unfold Pag.hd;cases p.lf <;> rfl) (A2 some hx))
theorem PH{σ':List Cell}{a:Nat}{p1 p2:Pos}(H:HT σ s d r pl f)(hf:f n=some p)(h:Ev gl fn (K+1) e ⟨xs,σ⟩ (.val (.loc (pl n).1)) ⟨xs,σ⟩)(hx:σ.set (pl n).1 (.lst ((p.hd (pl n)).set 1 (.loc x)))=σ'):To gl fn (K+1) (.Subscript e (.Constant (.int 1) a p1) p2) (.loc x) ⟨xs,σ⟩ ⟨xs,σ'⟩:=UD (H.lay n p hf).a h hx
theorem cH{σ':List Cell}{a:Nat}{p1 p2:Pos}(H:HT σ s d r pl f)(hf:f n=some p)(g:p.lf=false)(h:Ev gl fn (K+1) e ⟨xs,σ⟩ (.val (.loc (pl n).1)) ⟨xs,σ⟩)(hx:σ.set (pl n).1 (.lst ((p.hd (pl n)).set 2 (.loc x)))=σ'):To gl fn (K+1) (.Subscript e (.Constant (.int 2) a p1) p2) (.loc x) ⟨xs,σ⟩ ⟨xs,σ'⟩:=Hl h Ab (k:=(false,2)) rfl (by
 rw[(H.lay n p hf).a]
 exact Dp (c:=(decide ((0:Int)<=2)&&decide (2 < (p.hd (pl n)).length))=true) (by unfold Pag.hd;rw[g];rfl) (A2 some hx))
theorem UE{l:List D}{a b:Option Int}(h:σ[q]?=Lv l):GA σ (.val (.loc q)) a b=some (.fresh (slc (l.map V.d) a b)):=Ba (a:=l.map V.d) (by show ER σ[q]?=_;rw[h];rfl) rfl
theorem UF{α:Type}(l:List α)(k:Nat):slc l (some (k:Int)) .none=l.drop k:=by
 show(l.take l.length).drop (DK l.length k)=_
 rw[List.take_length]
 unfold DK
 rw[A5 (G6 k),F9]
 rcases Nat.le_total k l.length with h |h
 ·rw[Nat.min_eq_left h]
 ·rw[Nat.min_eq_right h,List.drop_length,List.drop_of_length_le h]
theorem PJ{l:List D}(k:Nat)(h:σ[q]?=Lv l):GA σ (.val (.loc q)) .none (some (k:Int))=some (.fresh ((l.take k).map V.d)):=by rw[UE h,L5,EO]
theorem PK{l:List D}(k:Nat)(h:σ[q]?=Lv l):GA σ (.val (.loc q)) (some (k:Int)) .none=some (.fresh ((l.drop k).map V.d)):=by rw[UE h,UF,List.map_drop]
noncomputable def L7(s:Nat)(n k:Int)(v:Str)(a:Nat):List (Str×V):=[("self",.loc s),("n",.d (.int n)),("key",.d (.key k)),("value",.d (.str v)),("page",.loc a)]
noncomputable def PL:List Stmt:=CX (BV Er 1)
theorem UG{k:Int}{v:Str}{l:List (Int×Str)}(H:HT σ s d r pl f)(hf:f n=some (Af l))(hn:(l.map (·.1)).Nodup)(hl:l.length < 60):∃σ' pl',HT σ' s d r pl' (upd f n (some (Af (Bt k v l))))/\DW f pl pl'/\
 ∀{K fl st},Ex gl Er (K+20) (PL.drop 3) ⟨L7 s n k v (pl' n).1++[(("d" : Str),V.loc σ.length)],σ'⟩ fl st->Ex gl Er (K+23) PL ⟨L7 s n k v (pl n).1,σ⟩ fl st:=by
 have H1:=H.app [Cell.dct (Dj ((l.map AL).map V.d)) (Cq (l.map (vm sV)))]
 have H2:=H.app [Cell.dct true ((BL k v l).map (vm sV))]
 have H3:=H2.app [Cell.lst (((Bt k v l).map AL).map V.d)]
 have F3:=H2.fr (Am _)
 refine⟨_,_,H3.mov1 hf F3 (DA _ _),DW.upd1 rfl,fun {K fl st} hx=>?_⟩
 have hl':(BL k v l).length < 64:=Aa (UC k v l) (AN (CB hl) (nL rfl))
 refine B9 (Ac (AH (Kw (fun _=>rfl) (Bk H hf (pR rfl rfl)) (by show ER σ[(pl n).2.1]?=_;rw[(H.lay n _ hf).b];rfl) (PE l))) rfl) ?_
 refine B9 (FN (kR rfl rfl) (Hl (k:=(true,k)) (σ':=σ++[Cell.dct true ((BL k v l).map (vm sV))]) (pR rfl rfl) (pR rfl rfl) rfl ?_)) (B9 (FN (Ci (MX (fun _=>rfl) (pR rfl rfl) (dd:=(true,(BL k v l).map (vm sV))) (bnd (a:=σ.length) rfl (by rw[DA];rfl)) (cF _) (UA (My hn) hl')) rfl) (PH H3 hf (pR rfl rfl) rfl)) ?_)
 ·rw[DA]
  show(if (ES _ (Cq (l.map (vm sV))) (true,k)&&decide ((Cq (l.map (vm sV))).length < lim))=true then some ((σ++[_]).set σ.length (.dct true (BL k (sV v) (Cq (l.map (vm sV)))))) else .none)=_
  rw[UB,Je hn,PG,A4,Ae (AN hl (by decide:60 < lim)),Om]
  rfl
 ·rw[AY] at hx;exact hx
end
open PySem
theorem Ec{α:Type}{g:Int->α}{n:Int}{a b:α}:upd (upd g n a) n b=upd g n b:=funext fun m=>by
 by_cases e:m=n
 ·rw[e,AY,AY]
 ·rw[Ah e,Ah e,Ah e]
section
variable{σ:List Cell}{s d:Nat}{r:Int}{pl pl' pl'':Int->B0}{f f' f1:BG}{n k:Int}{p p':Pag}{q x m:Nat}{K:Nat}{v:Str}{l:List (Int×Str)}
theorem Fr.upd1{y:B0}(F:Fr s d pl f x)(h1:x≠y.1)(h2:x≠y.2.1)(h3:p'.lf=false->x≠y.2.2):Fr s d (upd pl n y) (upd f n (some p')) x:=by
 refine⟨F.s,F.d,fun m p e=>?_,fun m p e=>?_,fun m p e=>?_⟩ <;> by_cases g:m=n
 ·rw[g,AY];exact h1
 ·rw[Ah g] at e ⊢;exact F.a m p e
 ·rw[g,AY];exact h2
 ·rw[Ah g] at e ⊢;exact F.b m p e
 ·rw[g,AY] at e ⊢;cases e;exact h3
 ·rw[Ah g] at e ⊢;exact F.c m p e
theorem Least.upd1(L:Least f m)(hf:f n=some p):Least (upd f n (some p')) m:=by
 refine⟨fun k hk=>?_,?_,L.dm⟩
 ·by_cases e:(k:Int)=n
  ·rw[e,AY];rfl
  ·rw[Ah e];exact L.low k hk
 ·rw[Ah fun e=>by have:=L.no;rw[e,hf] at this;cases this];exact L.no
theorem DW.mov{b c:Nat}(h:DW f pl pl'):DW f pl (upd pl' n ((pl' n).1,b,c)):=fun m p e=>by
 by_cases g:m=n
 ·rw[g,AY];exact h n p (g▸e)
 ·rw[Ah g];exact h m p e
theorem DW.add{x:B0}(h:DW f pl pl')(hm:f n=.none):DW f pl (upd pl' n x):=fun m p e=>by
 rw[Ah fun g=>by rw[g,hm] at e;cases e];exact h m p e
inductive PutR(K:Nat)(σ:List Cell)(s d:Nat)(r:Int)(pl:Int->B0)(f:BG)(n k:Int)(v:Str)(res:D)(f':BG):Prop where
 |mk (σ':List Cell) (pl':Int->B0):Cl gl Er K [.loc s,.d (.int n),.d (.key k),.d (.str v)] σ (.val (.d res)) σ'->HT σ' s d r pl' f'->DW f pl pl'->PutR K σ s d r pl f n k v res f'
theorem UH(H:HT σ s d r pl f)(hf:f n=some (Af l))(hn:(l.map (·.1)).Nodup)(hl:l.length < 60)(h4:(Bt k v l).length<=4):PutR 40 σ s d r pl f n k v .none (upd f n (some (Af (Bt k v l)))):=by
 obtain⟨σ',pl',H',S,hx⟩:=UG (k:=k) (v:=v) H hf hn hl
 refine⟨σ',pl',EE rfl rfl (BX rfl (Ac (AH (Ew H hf .refl rfl rfl rfl (pR rfl rfl))) rfl) (FR rfl (B4 (Dw H hf (pR rfl rfl) Eu rfl) (hx (B9 (B1 (An rfl (Hu H' AY (fun _=>rfl) (pR rfl rfl)) Ab (Dx (decide_eq_false ?_))) BO) (Du (Bf HA))))))),H',S⟩
 show ¬(4:Int) < (((Bt k v l).map AL).length:Nat)
 rw[A4]
 exact fun q=>absurd (Bp.mp q) (C2.mpr h4)
theorem PN{a b e:Int×Str}{R:List (Int×Str)}(H:HT σ s d r pl f)(hf:f n=some (Af l))(hn:(l.map (·.1)).Nodup)(hl:l.length < 60)(hL:Bt k v l=a::b::e::R)(h4:1 < R.length)(L:Least f m) :
 PutR 40 σ s d r pl f n k v (.tup [.key e.1,.int m]) (upd (upd f n (some (Af [a,b]))) m (some (Af (e::R)))):=by
 obtain⟨σ1,pl1,H1,S,hx⟩:=UG (k:=k) (v:=v) H hf hn hl
 rw[hL] at H1
 have hf1:upd f n (some (Af (a::b::e::R))) n=some (Af (a::b::e::R)):=AY
 have H2:=H1.app [Cell.lst (((e::R).map AL).map V.d)]
 have F2:=H1.fr (Am σ1.length)
 have H3:=H2.app [Cell.lst (([a,b].map AL).map V.d)]
 have H4:=H3.mov1 hf1 (H2.fr (Am _)) (DA _ _)
 rw[Ec] at H4
 have l2:σ1.length≠(σ1++[Cell.lst (((e::R).map AL).map V.d)]).length:=by rw[AC];exact CA (Cc _)
 have F4:Fr s d (upd pl1 n ((pl1 n).1,(σ1++[Cell.lst (((e::R).map AL).map V.d)]).length,(pl1 n).2.2)) (upd f n (some (Af [a,b]))) σ1.length:=by
  have:=F2.upd1 (n:=n) (p':=Af [a,b]) (y:=((pl1 n).1,(σ1++[Cell.lst (((e::R).map AL).map V.d)]).length,(pl1 n).2.2)) (F2.a n _ hf1) l2 fun e=>nomatch e
  rwa [Ec] at this
 have C4:=Bj (c':=.lst (((Af (a::b::e::R)).hd (pl1 n)).set 1 (.loc (σ1++[Cell.lst (((e::R).map AL).map V.d)]).length))) (D9 [Cell.lst (([a,b].map AL).map V.d)] (DA σ1 (Cell.lst (((e::R).map AL).map V.d)))) (F2.a n _ hf1)
 generalize hσ4:((σ1++[Cell.lst (((e::R).map AL).map V.d)])++[Cell.lst (([a,b].map AL).map V.d)]).set (pl1 n).1 _=σ4 at H4 C4
 have H5:=H4.app [Cell.lst [.d (.str "leaf"),.loc σ1.length]]
 obtain⟨σ6,c6,H6⟩:=PB (q:=(σ4.length,σ1.length,0)) (p:=Af (e::R)) H5 (L.upd1 hf) ⟨DA _ _,D9 _ C4,fun e=>nomatch e⟩ (H4.fr (Am _)) F4 (fun e=>nomatch e) (fun q=>absurd (Mt C4) (C2.mpr (BQ q))) fun e=>nomatch e
 have tl:Ex gl Er 30 (CX (at' PL 3)) ⟨L7 s n k v (pl1 n).1++[(("d" : Str),V.loc σ.length)],σ1⟩ (.ret (.val (.d (.tup [.key e.1,.int m])))) ⟨L7 s n k v (pl1 n).1++[(("d" : Str),V.loc σ.length),("rest",.loc σ1.length)],σ6⟩:=
  B9 (Ac (Ci (BN (Bk H1 hf1 (pR rfl rfl)) (BI Ab) (fun _=>BR) (PK 2 (H1.lay n _ hf1).b)) rfl) rfl)
  (B9 (FN (Ci (BN (Bk H2 hf1 (pR rfl rfl)) (fun _=>BR) (BI Ab) (PJ 2 (H2.lay n _ hf1).b)) rfl) (PH H3 hf1 (pR rfl rfl) hσ4))
  (Du (Bf (Az (vs:=[.d (.key e.1),.d (.int m)]) (sK (iX (iX (pR rfl rfl) (DV (k:=0) C4 rfl)) rfl) (sZ (Dv rfl (pR rfl rfl) H4.inst rfl (BT (Ci (BS (sK (BW Eu) (sO rfl rfl)) rfl) rfl) Bq) H5.inst rfl rfl (c6.u rfl)))) rfl (by decide)))))
 refine⟨σ6,_,EE rfl rfl (BX rfl (Ac (AH (Ew H hf .refl rfl rfl rfl (pR rfl rfl))) rfl) (FR rfl (B4 (Dw H hf (pR rfl rfl) Eu rfl) (hx (Du (B4 (An rfl (Hu H1 hf1 (fun _=>rfl) (pR rfl rfl)) Ab (Dx (Ae ?_))) (tl.up (nL rfl)))))))),H6,S.mov.add L.no⟩
 ·show(4:Int) < (((a::b::e::R).map AL).length:Nat)
  rw[A4]
  exact Bp.mpr (CB (CB (CB h4)))
end
open PySem
section
variable{σ σ':List Cell}{s d:Nat}{r:Int}{pl pl' pl'':Int->B0}{f f' f1:BG}{n k c:Int}{p p':Pag}{q x m:Nat}{K:Nat}{v:Str}{fn:Fn}{e e1 e2:Expr}{xs:List (Str×V)}{p1 p2 p3 ap pos:Pos}{a:Nat}
theorem cI{α:Type}(A B:List α)(x:α):IK (A++B) A.length x=A++x::B:=by
 unfold IK
 rw[List.take_left',List.drop_left'] <;> rfl
theorem cJ{A B:List D}{x:D}{i:Int}(hi:i=(A.length:Int))(hl:A.length+B.length < 1000):JA σ q ((A++B).map V.d) "insert" [.d (.int i),.d x]=some (.val (.d .none),σ.set q (.lst ((A++x::B).map V.d))):=by
 subst hi
 have h1:((A++B).map V.d).length=A.length+B.length:=by rw[A4,AC]
 have h2:=cI (A.map V.d) (B.map V.d) (V.d x)
 rw[A4,<-AK] at h2
 refine(A3 (by decide)).trans ((A5 rfl).trans (bnd (a:=(V.d (.int A.length),V.d x)) rfl (bnd (a:=(A.length:Int)) rfl (BM (Bb.mpr ⟨Bb.mpr ⟨Ae (G6 _),Ae ?_⟩,Ae ?_⟩) ?_))))
 ·exact BH (Aa (BJ _ _) (AN hl (nL rfl)))
 ·rw[h1];exact AN hl (nL rfl)
 ·show some (R.val (.d .none),σ.set q (.lst (IK ((A++B).map V.d) (min (A.length:Int).toNat ((A++B).map V.d).length) (V.d x))))=_
  rw[h1,F9,Nat.min_eq_left (BJ _ _),h2,<-Dc,<-AK]
theorem L8{A B l l0:List D}{x:D}{i:Int}(hok:true=Dn e ap pos 2)(he:Ev gl fn K e ⟨xs,σ⟩ (.val (.loc q)) ⟨xs,σ⟩)(h0:σ[q]?=Lv l0)(h1:Ev gl fn K e1 ⟨xs,σ⟩ (.val (.d (.int i))) ⟨xs,σ⟩)(h2:Ev gl fn K e2 ⟨xs,σ⟩ (.val (.d x)) ⟨xs,σ'⟩)(hq:σ'[q]?=Lv (A++B))(hi:i=(A.length:Int))(hl:A.length+B.length < 1000)(hr:A++x::B=l) :
 X1 gl fn (K+1) (.Expr (.Call (.Attribute e "insert" ap) [e1,e2] [] pos) p3) ⟨xs,σ⟩ .next ⟨xs,σ'.set q (.lst (l.map V.d))⟩:=hr▸HB rfl (Kx hok he h0 (sK h1 (sZ h2)) hq (cJ hi hl))
structure Inn(f:BG)(n k:Int)(A B C E:List Int)(c:Int):Prop where
 pg:f n=some (AT (A++B) (C++c::E))
 len:C.length=A.length
 low:∀a∈A,a<=k
 high:∀b∈B.head?,k < b
 sm:A.length+B.length < 100
 smc:C.length+E.length < 100
variable{A B C E:List Int}
theorem mid{α:Type}{A B:List α}{c:α}{m:Nat}(h:A.length=m):(A++c::B)[m]?=some c:=by rw[<-h,HX (Am _),Nat.sub_self];rfl
theorem Inn.child(I:Inn f n k A B C E c)(H:HT σ s d r pl f):Cl gl Hg 20 [.loc s,.loc (pl n).1,.d (.key k)] σ (.val (.d (.int A.length))) σ:=cE H I.pg rfl I.low I.high (Aa (BJ _ _) (AN I.sm (nL rfl)))
theorem Inn.at(I:Inn f n k A B C E c):(AT (A++B) (C++c::E)).cs[A.length]?=some (.int c):=by
 show((C++c::E).map D.int)[A.length]?=_
 rw[C0,mid I.len];rfl
noncomputable def L9(s:Nat)(n k:Int)(v:Str)(a i:Nat)(u:D):List (Str×V):=L7 s n k v a++[(("i" : Str),V.d (.int i)),("up",.d u)]
theorem PO{res res':D}(hc:PutR (K+20) σ s d r pl f c k v res f1)(H:HT σ s d r pl f)(I:Inn f n k A B C E c)(hk:∀σ1 pl1,HT σ1 s d r pl1 f1->∃σ' pl',Rn gl Er (K+21) 4 (L9 s n k v (pl1 n).1 A.length res) σ1 (.val (.d res')) σ'/\HT σ' s d r pl' f'/\DW f pl1 pl'):PutR (K+30) σ s d r pl f n k v res' f':=by
 obtain⟨σ1,pl1,h1,H1,S1⟩:=hc
 obtain⟨σ',pl',h2,H2,S2⟩:=hk σ1 pl1 H1
 rw[S1 n _ I.pg] at h2
 have h3:Cl gl Er (K+26) [.loc s,.d (.int n),.d (.key k),.d (.str v)] σ (.val (.d res')) σ':=EE rfl rfl (BX rfl (Ac (AH (Ew H I.pg .refl rfl rfl rfl (pR rfl rfl))) rfl) (BX rfl (B1 (Dw H I.pg (pR rfl rfl) Eu rfl) BO) (BX rfl (Ac (AH (Dv rfl (pR rfl rfl) H.inst rfl (sR rfl rfl (sO rfl rfl)) H.inst rfl rfl ((I.child H).up (G7 20 (K+1))))) rfl) (BX rfl (Ac (AH (Dv rfl (pR rfl rfl) H.inst rfl (sK (BF rfl (DM H I.pg rfl (pR rfl rfl)) (pR rfl rfl) (DV ((H.lay n _ I.pg).c rfl) I.at)) (sR rfl rfl (sO rfl rfl))) H.inst rfl rfl h1)) rfl) h2))))
 exact⟨σ',pl',h3.up (C9 (nL rfl) K),H2,fun j q e=>(S2 j q e).trans (S1 j q e)⟩
theorem PP(hc:PutR (K+20) σ s d r pl f c k v .none f1)(H:HT σ s d r pl f)(I:Inn f n k A B C E c):PutR (K+30) σ s d r pl f n k v .none f1:=
 PO hc H I fun σ1 pl1 H1=>⟨σ1,pl1,BX rfl (B1 (Dq (fun _=>rfl) (pR rfl rfl) rfl) BO) (FR rfl (Bf HA)),H1,fun _ _ _=>rfl⟩
end
open PySem
section
variable{σ:List Cell}{s d:Nat}{r:Int}{pl:Int->B0}{f f1:BG}{n k c k2:Int}{m m2:Nat}{K:Nat}{v:Str}{A B C E:List Int}
noncomputable def PQ:List Stmt:=CX (BV Er 4)
theorem Ie{α β:Type}(g:α->β)(A:List α)(x:α)(B:List α):A.map g++g x::B.map g=(A++x::B).map g:=by rw[AK];rfl
theorem cL(C E:List Int)(c m:Int):(C++[c]).map D.int++.int m::E.map D.int=(C++c::m::E).map .int:=by rw[Ie,AJ];rfl
theorem cN(C E:List Int)(c:Int):(C++c::E).map D.int=(C++[c]).map D.int++E.map D.int:=by rw[<-AK,AJ];rfl
theorem UI(I:Inn f n k A B C E c)(hf1:f1 n=some (AT (A++B) (C++c::E)))(H1:HT σ s d r pl f1):∃σ',HT σ' s d r pl (upd f1 n (some (AT (A++k2::B) (C++c::(m:Int)::E))))/\
 ∀{K fl st},Ex gl Er (K+10) (PQ.drop 2) ⟨L9 s n k v (pl n).1 A.length (.tup [.key k2,.int m]),σ'⟩ fl st->Ex gl Er (K+12) PQ ⟨L9 s n k v (pl n).1 A.length (.tup [.key k2,.int m]),σ⟩ fl st:=by
 have H2:=H1.set1 hf1 ((A++k2::B).map .key)
 have H3:=H2.set2 AY rfl ((C++c::(m:Int)::E).map .int)
 rw[Ec] at H3
 refine⟨_,H3,fun {K fl st} hx=>B9 (L8 (A:=A.map .key) (B:=B.map .key) rfl (Bk H1 hf1 (pR rfl rfl)) (H1.lay n _ hf1).b (pR rfl rfl) (iX (pR rfl rfl) rfl) ((H1.lay n _ hf1).b.trans (A2 Lv AK)) (by rw[A4]) (by rw[A4,A4];exact AN I.sm (nL rfl)) (Ie ..))
  (B9 (L8 (i:=A.length+1) (A:=(C++[c]).map .int) (B:=E.map .int) rfl (DM H2 AY rfl (pR rfl rfl)) ((H2.lay n _ AY).c rfl) (Ag (pR rfl rfl) Ab rfl) (iX (pR rfl rfl) rfl) (((H2.lay n _ AY).c rfl).trans (A2 Lv (cN ..))) ?_ ?_ (cL ..)) hx)⟩
 ·rw[A4,AC,I.len];rfl
 ·rw[A4,A4,AC,DG];exact Aa (Nat.succ_le_of_lt I.smc) (nL rfl)
theorem cO(hc:PutR (K+20) σ s d r pl f c k v (.tup [.key k2,.int m]) f1)(H:HT σ s d r pl f)(I:Inn f n k A B C E c)(hf1:f1 n=some (AT (A++B) (C++c::E)))(h4:(A++k2::B).length<=4):PutR (K+30) σ s d r pl f n k v .none (upd f1 n (some (AT (A++k2::B) (C++c::(m:Int)::E)))):=
 PO hc H I fun σ1 pl1 H1=>by
  obtain⟨σ',H',hx⟩:=UI (k2:=k2) (m:=m) (v:=v) I hf1 H1
  refine⟨σ',pl1,BX rfl (B4 (Dq (fun _=>rfl) (pR rfl rfl) rfl) (hx (xO (B1 (An rfl (Hu H' AY (fun _=>rfl) (pR rfl rfl)) Ab (Dx (decide_eq_false ?_))) BO)))) (FR rfl (Bf HA)),H',fun _ _ _=>rfl⟩
  show ¬(4:Int) < (((A++k2::B).map D.key).length:Nat)
  rw[A4]
  exact fun q=>absurd (Bp.mp q) (C2.mpr h4)
theorem cQ{x1 x2 x3 y1 y2 y3:Int}{Rk Tc:List Int}(hc:PutR (K+20) σ s d r pl f c k v (.tup [.key k2,.int m]) f1)(H:HT σ s d r pl f)(I:Inn f n k A B C E c)(hf1:f1 n=some (AT (A++B) (C++c::E)))(hk:A++k2::B=x1::x2::x3::Rk)(hy:C++c::(m:Int)::E=y1::y2::y3::Tc)(h4:1 < Rk.length)(L:Least f1 m2)(L':f m2=.none)(hK:20<=K) :
 PutR (K+30) σ s d r pl f n k v (.tup [.key x3,.int m2]) (upd (upd f1 n (some (AT [x1,x2] [y1,y2,y3]))) m2 (some (AT Rk Tc))):=
 PO hc H I fun σ1 pl1 H1=>by
  obtain⟨σ3,H3,hx⟩:=UI (k2:=k2) (m:=m) (v:=v) I hf1 H1
  rw[hk,hy] at H3
  have hf3:upd f1 n (some (AT (x1::x2::x3::Rk) (y1::y2::y3::Tc))) n=some (AT (x1::x2::x3::Rk) (y1::y2::y3::Tc)):=AY
  have ne:=H3.ne hf3
  have ne':=ne.2 rfl
  have H4:=H3.app [Cell.lst (([x1,x2].map D.key).map V.d)]
  have H5:=H4.app [Cell.lst (([y1,y2,y3].map D.int).map V.d)]
  have F3:=H3.fr (Am σ3.length)
  have F4:=H4.fr (Am _)
  have H6:=H5.mov1 hf3 F3 (D9 _ (DA _ _))
  have F6:=F4.upd1 (n:=n) (p':=⟨false,[x1,x2].map .key,(y1::y2::y3::Tc).map .int⟩) (y:=((pl1 n).1,σ3.length,(pl1 n).2.2)) (F4.a n _ hf3) (by rw[AC];exact CV (Cc _)) fun _=>F4.c n _ hf3 rfl
  have C6:=Bj (c':=.lst (((AT (x1::x2::x3::Rk) (y1::y2::y3::Tc)).hd (pl1 n)).set 1 (.loc σ3.length))) (DA (σ3++[Cell.lst (([x1,x2].map D.key).map V.d)]) (Cell.lst (([y1,y2,y3].map D.int).map V.d))) (F4.a n _ hf3)
  have D6:=Bj (c':=.lst (((AT (x1::x2::x3::Rk) (y1::y2::y3::Tc)).hd (pl1 n)).set 1 (.loc σ3.length))) (H5.lay n _ hf3).b ne.1.symm
  have E6:=Bj (c':=.lst (((AT (x1::x2::x3::Rk) (y1::y2::y3::Tc)).hd (pl1 n)).set 1 (.loc σ3.length))) ((H5.lay n _ hf3).c rfl) ne'.2.symm
  rw[Ec] at H6 F6
  generalize hσ6:(σ3++_++_).set (pl1 n).1 _=σ6 at H6 C6 D6 E6
  have hf6:upd f1 n (some (⟨false,[x1,x2].map .key,(y1::y2::y3::Tc).map .int⟩:Pag)) n=some ⟨false,[x1,x2].map .key,(y1::y2::y3::Tc).map .int⟩:=AY
  have H7:=H6.mov2 hf6 rfl F6 C6
  rw[AY,Ec,Ec] at H7
  have D7:=Bj (c':=.lst (((⟨false,[x1,x2].map .key,(y1::y2::y3::Tc).map .int⟩:Pag).hd ((pl1 n).1,σ3.length,(pl1 n).2.2)).set 2 (.loc (σ3++[Cell.lst (([x1,x2].map D.key).map V.d)]).length))) D6 ne.1.symm
  have E7:=Bj (c':=.lst (((⟨false,[x1,x2].map .key,(y1::y2::y3::Tc).map .int⟩:Pag).hd ((pl1 n).1,σ3.length,(pl1 n).2.2)).set 2 (.loc (σ3++[Cell.lst (([x1,x2].map D.key).map V.d)]).length))) E6 ne'.2.symm
  have T6:∀{K:Nat} {a:Nat} {p1 p2 p3:Pos} {xs:List (Str×V)},AG "page" xs=some (.loc (pl1 n).1)->To gl Er (K+1) (.Subscript (.Name "page" p3) (.Constant (.int 2) a p1) p2) (.loc (σ3++[Cell.lst (([x1,x2].map D.key).map V.d)]).length) ⟨xs,σ6⟩ ⟨xs,σ6.set (pl1 n).1 (.lst (((⟨false,[x1,x2].map .key,(y1::y2::y3::Tc).map .int⟩:Pag).hd ((pl1 n).1,σ3.length,(pl1 n).2.2)).set 2 (.loc (σ3++[Cell.lst (([x1,x2].map D.key).map V.d)]).length)))⟩:=fun {K a p1 p2 p3 xs} hl=>cH H6 hf6 rfl (by rw[AY];exact pR rfl hl) (by rw[AY])
  generalize hσ7:σ6.set (pl1 n).1 _=σ7 at H7 D7 E7 T6
  have H8:=H7.app [Cell.lst ((Rk.map D.key).map V.d)]
  have H9:=H8.app [Cell.lst ((Tc.map D.int).map V.d)]
  have E8:=D9 [Cell.lst ((Rk.map D.key).map V.d)] E7
  have l8:(σ7++[Cell.lst ((Rk.map D.key).map V.d)]).length=σ7.length+1:=by rw[AC];rfl
  have l9:(σ7++[Cell.lst ((Rk.map D.key).map V.d)]++[Cell.lst ((Tc.map D.int).map V.d)]).length=σ7.length+2:=by rw[AC,l8];rfl
  have H10:=H9.app [Cell.lst [.d (.str "inner"),.loc σ7.length,.loc (σ7++[Cell.lst ((Rk.map D.key).map V.d)]).length]]
  obtain⟨σ11,c11,H11⟩:=PB (q:=((σ7++[Cell.lst ((Rk.map D.key).map V.d)]++[Cell.lst ((Tc.map D.int).map V.d)]).length,σ7.length,(σ7++[Cell.lst ((Rk.map D.key).map V.d)]).length)) (p:=AT Rk Tc) H10 (L.upd1 hf1) ⟨DA _ _,D9 _ (D9 _ (DA _ _)),fun _=>D9 _ (DA _ _)⟩ (H7.fr (by rw[l9];exact BJ _ _)) (H7.fr (Am _)) (fun _=>H7.fr (by rw[l8];exact BJ _ _)) (by rw[l9];exact CV (Ei (nL rfl))) fun _=>by
   rw[l9,l8];exact⟨CV (Cc _),CA (Cc _)⟩
  have tl:Ex gl Er 30 (CX (at' PQ 2)) ⟨L9 s n k v (pl1 n).1 A.length (.tup [.key k2,.int m]),σ3⟩ (.ret (.val (.d (.tup [.key x3,.int m2])))) ⟨L9 s n k v (pl1 n).1 A.length (.tup [.key k2,.int m])++[(("k" : Str),V.loc (pl1 n).2.1),("c",V.loc (pl1 n).2.2)],σ11⟩:=
   B9 (Cu rfl rfl (BA (AH (Bk H3 hf3 (pR rfl rfl))) (BA (AH (DM H3 hf3 rfl (pR rfl rfl))) Cv)) (tN rfl (tO rfl)))
   (B9 (Cu rfl rfl (BA (Ci (BN (pR rfl rfl) (fun _=>BR) (BI Ab) (PJ 2 (H3.lay n _ hf3).b)) rfl) (BA (Ci (BN (pR rfl rfl) (fun _=>BR) (BI Ab) (PJ 3 ((H4.lay n _ hf3).c rfl))) rfl) Cv)) (Oj (PH H5 hf3 (pR rfl rfl) hσ6) (Oj (T6 rfl) TF)))
   (Du (Bf (Az (vs:=[.d (.key x3),.d (.int m2)]) (sK (iX (pR rfl rfl) (DV (k:=2) D7 rfl)) (sZ (Dv rfl (pR rfl rfl) H7.inst rfl (BT (Ci (BS (sK (BW Fv) (BT (Ci (BN (pR rfl rfl) (BI Ab) (fun _=>BR) (PK 3 D7)) rfl) (BT (Ci (BN (pR rfl rfl) (BI Ab) (fun _=>BR) (PK 3 E8)) rfl) Bq))) rfl) rfl) Bq) H10.inst rfl rfl (c11.u rfl)))) rfl (by decide)))))
  refine⟨σ11,_,FR rfl (B4 (Dq (fun _=>rfl) (pR rfl rfl) rfl) (hx (Du (B4 (An rfl (Hu H3 hf3 (fun _=>rfl) (pR rfl rfl)) Ab (Dx (Ae ?_))) (tl.up ?_))))),H11,DW.add (DW.mov fun _ _ _=>rfl) L'⟩
  ·show(4:Int) < (((x1::x2::x3::Rk).map D.key).length:Nat)
   rw[A4]
   exact Bp.mpr (CB (CB (CB h4)))
  ·exact A9 (by decide:30<=20+17) (EP hK 17)
end
open PySem
section
variable{G:Gl}{st st₁:St}{σ σ':List Cell}{q q':Nat}{K:Nat}{fn:Fn}{e e1 e2 t:Expr}{xs:List (Str×V)}{p p1 p2 p3 ap pos:Pos}{a:Nat}{l l0 A B:List D}{x y:D}{v:V}{r:R}
theorem UJ(h:Tt G fn K t st true st₁){st₂:St}(k:Ev G fn K e st₁ r st₂):Ev G fn (K+1) (.IfExp t e e1 p) st r st₂:=fun n=>bnd (h n) (k n)
theorem UK(h:Tt G fn K t st false st₁){st₂:St}(k:Ev G fn K e1 st₁ r st₂):Ev G fn (K+1) (.IfExp t e e1 p) st r st₂:=fun n=>bnd (h n) (k n)
theorem PR(hok:true=Dn e ap pos 0)(he:Ev gl fn K e ⟨xs,σ⟩ (.val (.loc q)) ⟨xs,σ⟩)(hq:σ[q]?=Lv (l++[x])):Ev gl fn (K+1) (.Call (.Attribute e "pop" ap) [] [] pos) ⟨xs,σ⟩ (.val (.d x)) ⟨xs,σ.set q (.lst (l.map V.d))⟩:=
 Kx hok he hq Bq hq ((A3 (by decide)).trans ((A3 (by decide)).trans ((A3 (by decide)).trans ((A5 rfl).trans ((A5 rfl).trans (AQ (a:=V.d x) (by rw[AK];exact J2 ..) (by rw[AK];exact A2 (fun l=>(R.val (V.d x),σ.set q (.lst l))) List.dropLast_concat)))))))
theorem PT(hok:true=Dn e ap pos 1)(he:Ev gl fn K e ⟨xs,σ⟩ (.val (.loc q)) ⟨xs,σ⟩)(h0:Ev gl fn K e1 ⟨xs,σ⟩ (.val (.d (.int 0))) ⟨xs,σ⟩)(hq:σ[q]?=Lv (x::l)):Ev gl fn (K+1) (.Call (.Attribute e "pop" ap) [e1] [] pos) ⟨xs,σ⟩ (.val (.d x)) ⟨xs,σ.set q (.lst (l.map V.d))⟩:=
 Kx hok he hq (sZ h0) hq rfl
theorem Mz{lr:List D}(hok:true=Dn e ap pos 1)(he:Ev gl fn K e ⟨xs,σ⟩ (.val (.loc q)) ⟨xs,σ⟩)(h0:σ[q]?=Lv l0)(h1:Ev gl fn K e1 ⟨xs,σ⟩ (.val (.d x)) ⟨xs,σ'⟩)(hq:σ'[q]?=Lv l)(hl:l.length < 1000)(hr:l++[x]=lr):X1 gl fn (K+1) (.Expr (.Call (.Attribute e "append" ap) [e1] [] pos) p) ⟨xs,σ⟩ .next ⟨xs,σ'.set q (.lst (lr.map V.d))⟩:=
 Jg hok he h0 (AH h1) hq (by rw[A4];exact AN hl (nL rfl)) (by rw[<-hr,AK];rfl)
theorem PU{l' lr:List D}(hok:true=Dn e ap pos 1)(he:Ev gl fn K e ⟨xs,σ⟩ (.val (.loc q)) ⟨xs,σ⟩)(hq:σ[q]?=Lv l)(h1:Ev gl fn K e1 ⟨xs,σ⟩ (.val (.loc q')) ⟨xs,σ⟩)(hq':σ[q']?=Lv l')(hne:q'≠q)(hl:l.length+l'.length < 1000)(hr:l++l'=lr):X1 gl fn (K+1) (.Expr (.Call (.Attribute e "extend" ap) [e1] [] pos) p) ⟨xs,σ⟩ .next ⟨xs,σ.set q (.lst (lr.map V.d))⟩:=
 HB rfl (Kx hok he hq (sZ h1) hq ((A3 (by decide)).trans ((A3 (by decide)).trans ((A5 rfl).trans (bnd (a:=V.loc q') rfl (bnd (a:=q') rfl (bnd (a:=l'.map V.d) (by rw[hq'];rfl) (BM (Bb.mpr ⟨by rw[decide_eq_false hne];rfl,Ae (by rw[A4,A4];exact BH (AN hl (nL rfl)))⟩) (by rw[<-hr,AK])))))))))
theorem cR{α:Type}(A:List α)(y x:α)(B:List α):(A++y::B).set A.length x=A++x::B:=by rw[List.set_append_right _ _ (Am _),Nat.sub_self];rfl
theorem cS{α:Type}(A:List α)(y:α)(B:List α):(A++y::B).eraseIdx A.length=A++B:=by rw[List.eraseIdx_append_of_length_le (Am _),Nat.sub_self];rfl
theorem map_mid'(g:D->V):(A++y::B).map g=A.map g++g y::B.map g:=AK
theorem N0{i:Int}(he:Ev gl fn K e ⟨xs,σ⟩ (.val (.loc q)) ⟨xs,σ⟩)(h1:Ev gl fn K e1 ⟨xs,σ⟩ (.val (.d (.int i))) ⟨xs,σ⟩)(hq:σ[q]?=Lv (A++y::B))(hi:i=(A.length:Int))(hr:A++x::B=l):To gl fn K (.Subscript e e1 p) (.d x) ⟨xs,σ⟩ ⟨xs,σ.set q (.lst (l.map V.d))⟩:=Hl he h1 (k:=(false,i)) rfl (by
 rw[hq,<-hr,hi]
 refine(Dp (c:=(decide ((0:Int)<=A.length)&&decide ((A.length:Int).toNat < ((A++y::B).map V.d).length))=true) (Bb.mpr ⟨Ae (G6 _),Ae ?_⟩) rfl).trans ?_
 ·rw[A4,AC,F9];exact Ei (CC _)
 ·rw[F9,map_mid',map_mid']
  have:=cR (A.map V.d) (V.d y) (V.d x) (B.map V.d)
  rw[A4] at this
  rw[this])
noncomputable def Dl(ts:List Expr)(fn:Fn)(K:Nat)(st st':St):Prop:=∀n,Ke (AU gl (n+K)) fn ts st=some st'
theorem PV:Dl [] fn K st st:=fun _=>rfl
theorem UL{i:Int}{ts:List Expr}(he:Ev gl fn K e ⟨xs,σ⟩ (.val (.loc q)) ⟨xs,σ⟩)(h1:Ev gl fn K e1 ⟨xs,σ⟩ (.val (.d (.int i))) ⟨xs,σ⟩)(hq:σ[q]?=Lv (A++y::B))(hi:i=(A.length:Int))(hr:A++B=l)(k:Dl ts fn K ⟨xs,σ.set q (.lst (l.map V.d))⟩ st):Dl (.Subscript e e1 p::ts) fn K ⟨xs,σ⟩ st:=fun n=>by
 refine bnd (a:=(e,e1)) rfl (bnd (a:=(q,⟨xs,σ⟩)) (bnd (he n) rfl) (bnd (a:=((false,i),⟨xs,σ⟩)) (bnd (h1 n) rfl) (bnd (a:=⟨xs,σ.set q (.lst (l.map V.d))⟩) (AQ (a:=σ.set q (.lst (l.map V.d))) ?_ rfl) (k n))))
 show Lw σ q (false,i) σ[q]?=_
 rw[hq,hi,<-hr]
 show(seqIndex? (A.length:Int) ((A++y::B).map V.d).length).map (fun k=>σ.set q (.lst (((A++y::B).map V.d).eraseIdx k)))=_
 refine AQ (a:=A.length) ?_ ?_
 ·unfold seqIndex?
  rw[A3 (E1.mpr (G6 _)),A5 (Bb.mpr ⟨Ae (G6 _),Ae (Bp.mpr ?_)⟩)]
  ·rfl
  ·rw[A4,AC];exact Ei (CC _)
 ·rw[map_mid',AK]
  have:=cS (A.map V.d) (V.d y) (B.map V.d)
  rw[A4] at this
  rw[this]
theorem UM{ts:List Expr}{d:Nat}{i:Int}{es:List (Int×V)}(he:Ev gl fn K e ⟨xs,σ⟩ (.val (.loc d)) ⟨xs,σ⟩)(h1:Ev gl fn K e1 ⟨xs,σ⟩ (.val (.d (.int i))) ⟨xs,σ⟩)(hq:σ[d]?=some (.dct false es))(hi:(AP i es).isSome=true)(k:Dl ts fn K ⟨xs,σ.set d (.dct false (CK i es))⟩ st):Dl (.Subscript e e1 p::ts) fn K ⟨xs,σ⟩ st:=fun n=>by
 refine bnd (a:=(e,e1)) rfl (bnd (a:=(d,⟨xs,σ⟩)) (bnd (he n) rfl) (bnd (a:=((false,i),⟨xs,σ⟩)) (bnd (h1 n) rfl) (bnd (a:=⟨xs,σ.set d (.dct false (CK i es))⟩) (AQ (a:=σ.set d (.dct false (CK i es))) ?_ rfl) (k n))))
 show Lw σ d (false,i) σ[d]?=_
 rw[hq]
 exact BM (by rw[Fo,hi];rfl) rfl
theorem PX{ts:List Expr}(h:Dl ts fn K st st₁):X1 gl fn K (.Delete ts p) st .next st₁:=fun n=>AQ (h n) rfl
theorem EG{m:Nat}{z:Str}(hk:true=DU (fn.names.lookup z))(h:AG z xs=some (.d (.int ((m+1:Nat):Int)))):Ev gl fn (K+2) (.BinOp (.Name z p1) .Sub (.Constant (.int 1) a p2) p3) ⟨xs,σ⟩ (.val (.d (.int (m:Int)))) ⟨xs,σ⟩:=Ag (pR hk h) Ab (A2 (fun i=>some (R.val (V.d (.int i)))) (Int.add_sub_cancel (m:Int) 1))
end
open PySem
section
variable{σ σ':List Cell}{s d:Nat}{r:Int}{pl pl':Int->B0}{f f1 f':BG}{n k c:Int}{K:Nat}{A B C E:List Int}{l:List (Int×Str)}{pm:Pag}
inductive RemR(K:Nat)(σ:List Cell)(s d:Nat)(r:Int)(pl:Int->B0)(f:BG)(n k:Int)(f':BG):Prop where
 |mk (σ':List Cell) (pl':Int->B0):Cl gl Ch K [.loc s,.d (.int n),.d (.key k)] σ (.val (.d .none)) σ'->HT σ' s d r pl' f'->DW f pl pl'->RemR K σ s d r pl f n k f'
noncomputable def outP'(k:Int)(l:List (Int×Str)):List (Int×Str):=l.filter fun p=>!decide (p.1=k)
theorem UN(H:HT σ s d r pl f)(hf:f n=some (Af l))(hl:l.length < 60):RemR 40 σ s d r pl f n k (upd f n (some (Af (outP' k l)))):=by
 have hL:=H.lay n _ hf
 have ne:=H.ne hf
 have F:=H.fr (Am σ.length)
 have a1:(σ.set (pl n).2.1 (.froz (l.map AL))++[Cell.lst (((outP' k l).map AL).map V.d)])[(pl n).1]?=some (.lst ((Af l).hd (pl n))):=D9 _ (Bj hL.a ne.1)
 have lq:(σ.set (pl n).2.1 (.froz (l.map AL))).length=σ.length:=List.length_set
 have a2:=DA (σ.set (pl n).2.1 (.froz (l.map AL))) (Cell.lst (((outP' k l).map AL).map V.d))
 rw[lq] at a2
 have H':=H.chg (σ':=(σ.set (pl n).2.1 (.froz (l.map AL))++[Cell.lst (((outP' k l).map AL).map V.d)]).set (pl n).1 (.lst (((Af l).hd (pl n)).set 1 (.loc σ.length)))) (p':=Af (outP' k l)) (q:=((pl n).1,σ.length,(pl n).2.2)) hf rfl (.inr F) rfl (fun e=>nomatch e) (fun e=>nomatch e) (fun x c e h1 h2 _=>Bj (D9 _ (Bj e h2)) h1) ⟨HG a1,Bj a2 (F.a n _ hf),fun e=>nomatch e⟩
 refine⟨_,_,EE rfl rfl (BX rfl (Ac (AH (Ew H hf .refl rfl rfl rfl (pR rfl rfl))) rfl) (FR rfl (B4 (Dw H hf (pR rfl rfl) Eu rfl) (B9 (FN (v:=.loc σ.length) (st₁:=⟨[("self",.loc s),("n",.d (.int n)),("key",.d (.key k)),("page",.loc (pl n).1)],σ.set (pl n).2.1 (.froz (l.map AL))++[Cell.lst (((outP' k l).map AL).map V.d)]⟩) ?_ (UD a1 (pR rfl rfl) rfl)) (Du fun _=>rfl))))),H',DW.mov fun _ _ _=>rfl⟩
 rw[<-lq]
 refine Ci (Eb (ys:=[("key",.d (.key k))]) (g:=fun p=>V.d (AL p)) (h:=fun p=>V.d (AL p)) (b:=fun p=>!decide (p.1=k)) (l:=l) (CF rfl (Bk H hf (pR rfl rfl)) ?_) rfl rfl rfl (.cons rfl .nil) rfl (fun p _ zs hz=>⟨GP (An rfl (iX (pn hz rfl rfl) rfl) (pn hz rfl rfl) rfl),fun _=>kN hz rfl rfl⟩) (BH (AN hl (nL rfl))) Ai.symm) rfl
 show Av (KQ σ (pl n).2.1 σ[(pl n).2.1]?) some (J8 σ (pl n).2.1 σ[(pl n).2.1]?)=_
 rw[hL.b]
 exact AQ (B6 (l.map AL)) (A2 (·,_) Ai)
noncomputable def N1(s:Nat)(n k:Int)(a i:Nat)(me:V):List (Str×V):=[("self",.loc s),("n",.d (.int n)),("key",.d (.key k)),("page",.loc a),("i",.d (.int i)),("me",me)]
theorem UO(hc:RemR (K+20) σ s d r pl f c k f1)(H:HT σ s d r pl f)(I:Inn f n k A B C E c)(hn:f1 n=f n)(hm:f1 c=some pm)(hk:∀σ1 pl1,HT σ1 s d r pl1 f1->∃σ' pl',Rn gl Ch (K+20) 5 (N1 s n k (pl1 n).1 A.length (.loc (pl1 c).1)) σ1 (.val (.d .none)) σ'/\HT σ' s d r pl' f'/\DW f pl1 pl'):RemR (K+30) σ s d r pl f n k f':=by
 obtain⟨σ1,pl1,h1,H1,S1⟩:=hc
 obtain⟨σ',pl',h2,H2,S2⟩:=hk σ1 pl1 H1
 have S:=S1 n _ I.pg
 have hf1:=hn.trans I.pg
 rw[S] at h2
 have ep:∀{K:Nat} {p:Pos} {i:V},Ev gl Ch (K+1) (.Name "page" p) ⟨[("self",.loc s),("n",.d (.int n)),("key",.d (.key k)),("page",.loc (pl n).1),("i",i)],σ1⟩ (.val (.loc (pl1 n).1)) ⟨[("self",.loc s),("n",.d (.int n)),("key",.d (.key k)),("page",.loc (pl n).1),("i",i)],σ1⟩:=fun {K p i}=>by rw[S];exact pR rfl rfl
 have h3:Cl gl Ch (K+26) [.loc s,.d (.int n),.d (.key k)] σ (.val (.d .none)) σ':=EE rfl rfl (BX rfl (Ac (AH (Ew H I.pg .refl rfl rfl rfl (pR rfl rfl))) rfl) (BX rfl (B1 (Dw H I.pg (pR rfl rfl) Eu rfl) BO) (BX rfl (Ac (AH (Dv rfl (pR rfl rfl) H.inst rfl (sR rfl rfl (sO rfl rfl)) H.inst rfl rfl ((I.child H).up (G7 20 (K+1))))) rfl) (BX rfl (HB rfl (Dv rfl (pR rfl rfl) H.inst rfl (sK (BF rfl (DM H I.pg rfl (pR rfl rfl)) (pR rfl rfl) (DV ((H.lay n _ I.pg).c rfl) I.at)) (sO rfl rfl)) H.inst rfl rfl h1)) (BX rfl (Ac (AH (Ew H1 hm .refl rfl rfl rfl (BF rfl (DM H1 hf1 rfl ep) (pR rfl rfl) (DV ((H1.lay n _ hf1).c rfl) I.at)))) rfl) h2)))))
 exact⟨σ',pl',h3.up (C9 (nL rfl) K),H2,fun j q e=>(S2 j q e).trans (S1 j q e)⟩
theorem PY(hc:RemR (K+20) σ s d r pl f c k f1)(H:HT σ s d r pl f)(I:Inn f n k A B C E c)(hn:f1 n=f n)(hm:f1 c=some pm)(h2:2<=pm.xs.length):RemR (K+30) σ s d r pl f n k f1:=
 UO hc H I hn hm fun σ1 pl1 H1=>⟨σ1,pl1,FR rfl (B4 (An rfl (Hu H1 hm (fun _=>rfl) (pR rfl rfl)) Ab (U9 (Ae (FZ.mpr h2)))) (Du fun _=>rfl)),H1,fun _ _ _=>rfl⟩
end
open PySem
section
variable{fn:Fn}{σ σ':List Cell}{s d q:Nat}{r:Int}{pl pl':Int->B0}{f f1 f':BG}{n k c m:Int}{K:Nat}{A B C E:List Int}{pm p:Pag}{xs:List (Str×V)}{e:Expr}{p1 p2 p3 p4 p5 p6 p7 p8 p9:Pos}{a a':Nat}{l:List D}
theorem UP(hE:∀m,Fj gl (AU gl (m+K)) fn "len" [e] ⟨xs,σ⟩=Kc (AU gl (m+K)) fn "len" e ⟨xs,σ⟩)(h:Ev gl fn K e ⟨xs,σ⟩ (.val (.loc q)) ⟨xs,σ⟩)(hq:σ[q]?=Lv l):Ev gl fn (K+1) (.Call (.Name "len" p3) [e] [] p4) ⟨xs,σ⟩ (.val (.d (.int l.length))) ⟨xs,σ⟩:=by
 have:=C7 (p:=p4) (q:=p3) hE h (U7 hq)
 rwa [A4] at this
noncomputable def Ig(pl:Int->B0)(C:List Int):V:=Av C.getLast? (fun c=>.loc (pl c).1) (.d .none)
noncomputable def Jn(pl:Int->B0)(E:List Int):V:=Av E.head? (fun c=>.loc (pl c).1) (.d .none)
noncomputable def FT(s:Nat)(n k:Int)(a i:Nat)(me l r:V):List (Str×V):=[("self",.loc s),("n",.d (.int n)),("key",.d (.key k)),("page",.loc a),("i",.d (.int i)),("me",me),("left",l),("right",r)]
theorem cT{C E:List Int}{b c:Int}:((C++[b]++c::E).map D.int)[C.length]?=some (.int b):=by rw[AJ,C0];exact A2 (Option.map D.int) (mid rfl)
theorem UQ{C E:List Int}{b c:Int}:((C++c::b::E).map D.int)[C.length+1]?=some (.int b):=by
 have:(C++c::b::E)[C.length+1]?=some b:=by rw[HX (BJ _ _),Nat.add_sub_cancel_left];rfl
 rw[C0,this];rfl
theorem cU{i:Nat}(H:HT σ s d r pl f)(hf:f n=some (AT (A++B) (C++c::E)))(hl:C.length=i)(h:∀a∈C.getLast?,(f a).isSome=true){v:V}:X1 gl Ch (K+10) (BV Ch 6) ⟨N1 s n k (pl n).1 i v,σ⟩ .next ⟨N1 s n k (pl n).1 i v++[(("left" : Str),Ig pl C)],σ⟩:=by
 subst hl
 rcases J1 C with rfl |⟨C',b,rfl⟩
 ·exact Ac (AH (UK (An rfl (pR rfl rfl) Ab (Dx rfl)) HA)) rfl
 ·rw[J0] at *
  obtain⟨y,hy⟩:=J4.mp (h b J2)
  rw[show Ig pl (C'++[b])=.loc (pl b).1 from Ba J2 rfl,show(C'++[b]).length=C'.length+1 from AC]
  exact Ac (AH (UJ (An rfl (pR rfl rfl) Ab (Dx (Ae (Bp.mpr (CC C'.length))))) (Ew H hy .refl rfl rfl rfl (BF rfl (DM H hf rfl (pR rfl rfl)) (EG rfl rfl) (DV (k:=C'.length) ((H.lay n _ hf).c rfl) cT))))) rfl
theorem cV{i:Nat}(H:HT σ s d r pl f)(hf:f n=some (AT (A++B) (C++c::E)))(hl:C.length=i)(h:∀a∈E.head?,(f a).isSome=true){v w:V}:X1 gl Ch (K+10) (BV Ch 7) ⟨N1 s n k (pl n).1 i v++[(("left" : Str),w)],σ⟩ .next ⟨FT s n k (pl n).1 i v w (Jn pl E),σ⟩:=by
 subst hl
 cases E with
 |nil=>exact Ac (AH (UK (An rfl (Ag (pR rfl rfl) Ab rfl) (UP (fun _=>rfl) (DM H hf rfl (pR rfl rfl)) ((H.lay n _ hf).c rfl)) (EF (decide_eq_false (by
  show ¬(C.length:Int)+1 < (((C++[c]).map D.int).length:Nat)
  rw[A4,AC];exact Int.lt_irrefl _)))) HA)) rfl
 |cons b E=>
  obtain⟨y,hy⟩:=J4.mp (h b rfl)
  exact Ac (AH (UJ (An rfl (Ag (pR rfl rfl) Ab rfl) (UP (fun _=>rfl) (DM H hf rfl (pR rfl rfl)) ((H.lay n _ hf).c rfl)) (EF (Ae (by
   show(C.length:Int)+1 < (((C++c::b::E).map D.int).length:Nat)
   rw[A4,AC]
   exact Bp.mpr (J3 (CB (CC _)) _))))) (Ew H hy .refl rfl rfl rfl (BF rfl (DM H hf rfl (pR rfl rfl)) (Ag (pR rfl rfl) Ab rfl) (DV (k:=C.length+1) ((H.lay n _ hf).c rfl) UQ))))) rfl
inductive Step8(K:Nat)(s:Nat)(n k:Int)(pl:Int->B0)(i:Nat)(me l r:V)(σ:List Cell)(d:Nat)(rt:Int)(f':BG):Prop where
 |mk (σ':List Cell) (xs':List (Str×V)):X1 gl Ch (K+16) (BV Ch 8) ⟨FT s n k (pl n).1 i me l r,σ⟩ .next ⟨xs',σ'⟩->HT σ' s d rt pl f'->Step8 K s n k pl i me l r σ d rt f'
theorem LA(hc:RemR (K+20) σ s d r pl f c k f1)(H:HT σ s d r pl f)(I:Inn f n k A B C E c)(hn:f1 n=f n)(hm:f1 c=some pm)(h1:pm.xs.length < 2)(hL:∀a∈C.getLast?,(f1 a).isSome=true)(hR:∀a∈E.head?,(f1 a).isSome=true)
 (hk:∀σ1 pl1,HT σ1 s d r pl1 f1->Step8 K s n k pl1 A.length (.loc (pl1 c).1) (Ig pl1 C) (Jn pl1 E) σ1 d r f'):RemR (K+30) σ s d r pl f n k f':=
 UO hc H I hn hm fun σ1 pl1 H1=>by
  obtain⟨σ',xs,e,H'⟩:=hk σ1 pl1 H1
  have hf1:=hn.trans I.pg
  exact⟨σ',pl1,BX rfl (B1 (An rfl (Hu H1 hm (fun _=>rfl) (pR rfl rfl)) Ab (U9 (decide_eq_false fun q=>absurd (FZ.mp q) (Nat.not_le.mpr h1)))) BO) (BX rfl (cU H1 hf1 I.len hL) (BX rfl (cV H1 hf1 I.len hR) (BX rfl e (Jm rfl)))),H',fun _ _ _=>rfl⟩
theorem cW(p:Pag)(q:B0):(!(p.hd q).isEmpty)=true:=by unfold Pag.hd;cases p.lf <;> rfl
theorem GR{b:Bool}{v:V}{z:Str}(hE:∀{K:Nat} {m:Nat},Fj gl (AU gl (m+K)) Ch "len" [.Subscript (.Name z p1) (.Constant (.int 1) a p2) p3] ⟨xs,σ⟩=Kc (AU gl (m+K)) Ch "len" (.Subscript (.Name z p1) (.Constant (.int 1) a p2) p3) ⟨xs,σ⟩)(hz:true=DU (Ch.names.lookup z))(hl:AG z xs=some v)(H:HT σ s d r pl f)(h:(v=.d .none/\b=false)\/∃m p,v=.loc (pl m).1/\f m=some p/\decide (2 < p.xs.length)=b) :
 Tt gl Ch (K+6) (.BoolOp .And [.Name z p6,.Compare (.Call (.Name "len" p4) [.Subscript (.Name z p1) (.Constant (.int 1) a p2) p3] [] p5) [.Gt] [.Constant (.int 2) a' p7] p8] p9) ⟨xs,σ⟩ b ⟨xs,σ⟩:=by
 rcases h with⟨rfl,rfl⟩ |⟨m,p,rfl,hf,hb⟩
 ·exact CM (FM (Dq (fun _=>rfl) (pR hz hl) rfl))
 ·refine CM (Ds (Dq (fun _=>rfl) (pR hz hl) ?_) (Dt (An rfl (Hu H hf (fun _=>hE) (pR hz hl)) Ab (Dx ?_))))
  ·exact Ba (a:=(p.hd (pl m))) (Ba (a:=(p.hd (pl m))) (by show ER σ[(pl m).1]?=_;rw[(H.lay m p hf).a];rfl) rfl) (A2 some (cW p (pl m)))
  ·rw[<-hb];exact decide_eq_decide.mpr Bp
end
open PySem
section
variable{σ σ':List Cell}{s d q:Nat}{r:Int}{pl:Int->B0}{f f':BG}{n k L M ka:Int}{K:Nat}{A B C E kl km cl cm:List Int}{ll lm:List (Int×Str)}{x y:Int×Str}{kx cx:Int}{v:V}
structure Adj(f:BG)(n L M ka:Int)(A B C E:List Int):Prop where
 pg:f n=some (AT (A++ka::B) (C++L::M::E))
 len:C.length=A.length
 nL:n≠L
 nM:n≠M
 LM:L≠M
theorem N2{m:Nat}(h:2 < m){α:Type}{l:List α}(e:l.length=m):decide (2 < l.length)=true:=Ae (e▸h)
theorem cX(H:HT σ s d r pl f)(J:Adj f n L M ka A B C E)(hl:f L=some (Af (ll++[x])))(hm:f M=some (Af lm))(h2:2 < (ll++[x]).length)(hs:lm.length < 100):Step8 K s n k pl (A.length+1) (.loc (pl M).1) (.loc (pl L).1) v σ d r (upd (upd (upd f L (some (Af ll))) M (some (Af (x::lm)))) n (some (AT (A++x.1::B) (C++L::M::E)))):=by
 have H2:=H.set1 hl (ll.map AL)
 have m2:upd f L (some (⟨true,ll.map AL,[]⟩:Pag)) M=some (Af lm):=(Ah J.LM.symm).trans hm
 have H3:=H2.set1 m2 ((x::lm).map AL)
 have n3:upd (upd f L (some (⟨true,ll.map AL,[]⟩:Pag))) M (some ⟨true,(x::lm).map AL,[]⟩) n=some (AT (A++ka::B) (C++L::M::E)):=(Ah J.nM).trans ((Ah J.nL).trans J.pg)
 have H4:=H3.set1 n3 ((A++x.1::B).map .key)
 exact⟨_,_,B4 (GR rfl rfl rfl H (.inr ⟨L,_,rfl,hl,N2 h2 (A4 _)⟩)) (xO (B4 (Dw H hm (pR rfl rfl) Eu rfl) (B9 (L8 (A:=[]) (B:=lm.map AL) (l:=(x::lm).map AL) (x:=AL x) rfl (Bk H hm (pR rfl rfl)) (H.lay M _ hm).b Ab (PR rfl (Bk H hl (pR rfl rfl)) ((H.lay L _ hl).b.trans (A2 Lv AK))) (H2.lay M _ m2).b rfl (by rw[A4];exact AN (J3 hs 0) (nL rfl)) rfl) (xO (FN (AH (iX (iX (Bk H3 AY (pR rfl rfl)) (DV (k:=0) (H3.lay M _ AY).b rfl)) rfl)) (N0 (A:=A.map .key) (B:=B.map .key) (Bk H3 n3 (pR rfl rfl)) (EG rfl rfl) ((H3.lay n _ n3).b.trans (A2 Lv AK)) (by rw[A4]) (Ie ..))))))),H4⟩
theorem UR{α:Type}{g:Int->α}{a b c:α}(h:L≠M):upd (upd (upd g M a) L b) M c=upd (upd g M c) L b:=funext fun j=>by
 by_cases e:j=M
 ·rw[e,AY,Ah h.symm,AY]
 ·rw[Ah e]
  by_cases e':j=L
  ·rw[e',AY,AY]
  ·rw[Ah e',Ah e',Ah e,Ah e]
theorem cY(H:HT σ s d r pl f)(J:Adj f n L M ka A B C E)(hl:f L=some (AT (kl++[kx]) (cl++[cx])))(hm:f M=some (AT km cm))(h2:2 < (kl++[kx]).length)(hs:km.length < 100)(hs':cm.length < 100):Step8 K s n k pl (A.length+1) (.loc (pl M).1) (.loc (pl L).1) v σ d r (upd (upd (upd f M (some (AT (ka::km) (cx::cm)))) L (some (AT kl cl))) n (some (AT (A++kx::B) (C++L::M::E)))):=by
 have H2:=H.set1 hm ((ka::km).map .key)
 have l2:upd f M (some (⟨false,(ka::km).map .key,cm.map .int⟩:Pag)) L=some (AT (kl++[kx]) (cl++[cx])):=(Ah J.LM).trans hl
 have H3:=H2.set2 l2 rfl (cl.map .int)
 have m3:upd (upd f M (some (⟨false,(ka::km).map .key,cm.map .int⟩:Pag))) L (some ⟨false,(kl++[kx]).map .key,cl.map .int⟩) M=some ⟨false,(ka::km).map .key,cm.map .int⟩:=(Ah J.LM.symm).trans AY
 have H4:=H3.set2 m3 rfl ((cx::cm).map .int)
 have e3:HT _ s d r pl _:=H3
 rw[UR J.LM] at H4
 have H5:=H4.set1 AY (kl.map .key)
 rw[Ec] at H5
 have n5:upd (upd f M (some (⟨false,(ka::km).map .key,(cx::cm).map .int⟩:Pag))) L (some ⟨false,kl.map .key,cl.map .int⟩) n=some (AT (A++ka::B) (C++L::M::E)):=(Ah J.nL).trans ((Ah J.nM).trans J.pg)
 have H6:=H5.set1 n5 ((A++kx::B).map .key)
 refine⟨_,_,B4 (GR rfl rfl rfl H (.inr ⟨L,_,rfl,hl,N2 h2 (A4 _)⟩)) (xO (B1 (Dw H hm (pR rfl rfl) Eu rfl)
  (B9 (L8 (A:=[]) (B:=km.map .key) (l:=(ka::km).map .key) (x:=.key ka) rfl (Bk H hm (pR rfl rfl)) (H.lay M _ hm).b Ab (BF rfl (Bk H J.pg (pR rfl rfl)) (EG rfl rfl) (DV (k:=A.length) (H.lay n _ J.pg).b ?_)) (H.lay M _ hm).b rfl (by rw[A4];exact AN (J3 hs 0) (nL rfl)) rfl)
  (B9 (L8 (A:=[]) (B:=cm.map .int) (l:=(cx::cm).map .int) (x:=.int cx) rfl (DM H2 AY rfl (pR rfl rfl)) ((H2.lay M _ AY).c rfl) Ab (PR rfl (DM H2 l2 rfl (pR rfl rfl)) (((H2.lay L _ l2).c rfl).trans (A2 Lv AK))) ((H3.lay M _ m3).c rfl) rfl (by rw[A4];exact AN (J3 hs' 0) (nL rfl)) rfl)
  (xO (FN (AH (PR rfl (Bk H4 AY (pR rfl rfl)) ((H4.lay L _ AY).b.trans (A2 Lv AK)))) (N0 (A:=A.map .key) (B:=B.map .key) (Bk H5 n5 (pR rfl rfl)) (EG rfl rfl) ((H5.lay n _ n5).b.trans (A2 Lv AK)) (by rw[A4]) (Ie ..)))))))),H6⟩
 show((A++ka::B).map D.key)[A.length]?=_
 rw[C0,mid rfl];rfl
end
open PySem
section
variable{σ σ':List Cell}{s d q:Nat}{r:Int}{pl:Int->B0}{f f':BG}{n k L M ka:Int}{K:Nat}{A B C E kl km cl cm kr cr:List Int}{ll lm lr:List (Int×Str)}{x y:Int×Str}{kx cx:Int}{v w:V}
noncomputable def FU(f:BG)(pl:Int->B0)(v:V):Prop:=v=.d .none\/∃m p,v=.loc (pl m).1/\f m=some p/\p.xs.length<=2
theorem FU.t(h:FU f pl v):(v=.d .none/\false=false)\/∃m p,v=.loc (pl m).1/\f m=some p/\decide (2 < p.xs.length)=false:=h.imp (fun e=>⟨e,rfl⟩) fun ⟨m,p,e,hf,hl⟩=>⟨m,p,e,hf,decide_eq_false (C2.mpr hl)⟩
theorem Ih{α β:Type}(g:α->β)(A:List α)(x:α):A.map g++[g x]=(A++[x]).map g:=(AK (l₁:=A) (l₂:=[x]) (f:=g)).symm
theorem cZ(H:HT σ s d r pl f)(J:Adj f n L M ka A B C E)(hl:f L=some (Af lm))(hm:f M=some (Af (x::y::lr)))(h2:2 < (x::y::lr).length)(hs:lm.length < 100)(hv:FU f pl v):Step8 K s n k pl A.length (.loc (pl L).1) v (.loc (pl M).1) σ d r (upd (upd (upd f M (some (Af (y::lr)))) L (some (Af (lm++[x])))) n (some (AT (A++y.1::B) (C++L::M::E)))):=by
 have H2:=H.set1 hm ((y::lr).map AL)
 have l2:upd f M (some (⟨true,(y::lr).map AL,[]⟩:Pag)) L=some (Af lm):=(Ah J.LM).trans hl
 have H3:=H2.set1 l2 ((lm++[x]).map AL)
 have m3:upd (upd f M (some (⟨true,(y::lr).map AL,[]⟩:Pag))) L (some ⟨true,(lm++[x]).map AL,[]⟩) M=some ⟨true,(y::lr).map AL,[]⟩:=(Ah J.LM.symm).trans AY
 have n3:upd (upd f M (some (⟨true,(y::lr).map AL,[]⟩:Pag))) L (some ⟨true,(lm++[x]).map AL,[]⟩) n=some (AT (A++ka::B) (C++L::M::E)):=(Ah J.nL).trans ((Ah J.nM).trans J.pg)
 have H4:=H3.set1 n3 ((A++y.1::B).map .key)
 exact⟨_,_,B1 (GR rfl rfl rfl H hv.t) (xO (B4 (GR rfl rfl rfl H (.inr ⟨M,_,rfl,hm,N2 h2 (A4 _)⟩)) (xO (B4 (Dw H hl (pR rfl rfl) Eu rfl) (B9 (Mz (l:=lm.map AL) (x:=AL x) rfl (Bk H hl (pR rfl rfl)) (H.lay L _ hl).b (PT rfl (Bk H hm (pR rfl rfl)) Ab (H.lay M _ hm).b) (H2.lay L _ l2).b (by rw[A4];exact AN hs (nL rfl)) (Ih ..)) (xO (FN (AH (iX (iX (Bk H3 m3 (pR rfl rfl)) (DV (k:=0) (H3.lay M _ m3).b rfl)) rfl)) (N0 (A:=A.map .key) (B:=B.map .key) (Bk H3 n3 (pR rfl rfl)) (pR rfl rfl) ((H3.lay n _ n3).b.trans (A2 Lv AK)) (by rw[A4]) (Ie ..))))))))),H4⟩
theorem ca(H:HT σ s d r pl f)(J:Adj f n L M ka A B C E)(hl:f L=some (AT km cm))(hm:f M=some (AT (kx::kr) (cx::cr)))(h2:2 < (kx::kr).length)(hs:km.length < 100)(hs':cm.length < 100)(hv:FU f pl v):Step8 K s n k pl A.length (.loc (pl L).1) v (.loc (pl M).1) σ d r (upd (upd (upd f L (some (AT (km++[ka]) (cm++[cx])))) M (some (AT kr cr))) n (some (AT (A++kx::B) (C++L::M::E)))):=by
 have H2:=H.set1 hl ((km++[ka]).map .key)
 have m2:upd f L (some (⟨false,(km++[ka]).map .key,cm.map .int⟩:Pag)) M=some (AT (kx::kr) (cx::cr)):=(Ah J.LM.symm).trans hm
 have H3:=H2.set2 m2 rfl (cr.map .int)
 have l3:upd (upd f L (some (⟨false,(km++[ka]).map .key,cm.map .int⟩:Pag))) M (some ⟨false,(kx::kr).map .key,cr.map .int⟩) L=some ⟨false,(km++[ka]).map .key,cm.map .int⟩:=(Ah J.LM).trans AY
 have H4:=H3.set2 l3 rfl ((cm++[cx]).map .int)
 rw[UR J.LM.symm] at H4
 have H5:=H4.set1 AY (kr.map .key)
 rw[Ec] at H5
 have n5:upd (upd f L (some (⟨false,(km++[ka]).map .key,(cm++[cx]).map .int⟩:Pag))) M (some ⟨false,kr.map .key,cr.map .int⟩) n=some (AT (A++ka::B) (C++L::M::E)):=(Ah J.nM).trans ((Ah J.nL).trans J.pg)
 have H6:=H5.set1 n5 ((A++kx::B).map .key)
 refine⟨_,_,B1 (GR rfl rfl rfl H hv.t) (xO (B4 (GR rfl rfl rfl H (.inr ⟨M,_,rfl,hm,N2 h2 (A4 _)⟩)) (xO (B1 (Dw H hl (pR rfl rfl) Eu rfl)
  (B9 (Mz (l:=km.map .key) (x:=.key ka) rfl (Bk H hl (pR rfl rfl)) (H.lay L _ hl).b (BF rfl (Bk H J.pg (pR rfl rfl)) (pR rfl rfl) (DV (k:=A.length) (H.lay n _ J.pg).b ?_)) (H.lay L _ hl).b (by rw[A4];exact AN hs (nL rfl)) (Ih ..))
  (B9 (Mz (l:=cm.map .int) (x:=.int cx) rfl (DM H2 AY rfl (pR rfl rfl)) ((H2.lay L _ AY).c rfl) (PT rfl (DM H2 m2 rfl (pR rfl rfl)) Ab ((H2.lay M _ m2).c rfl)) ((H3.lay L _ l3).c rfl) (by rw[A4];exact AN hs' (nL rfl)) (Ih ..))
  (xO (FN (AH (PT rfl (Bk H4 AY (pR rfl rfl)) Ab (H4.lay M _ AY).b)) (N0 (A:=A.map .key) (B:=B.map .key) (Bk H5 n5 (pR rfl rfl)) (pR rfl rfl) ((H5.lay n _ n5).b.trans (A2 Lv AK)) (by rw[A4]) (Ie ..)))))))))),H6⟩
 show((A++ka::B).map D.key)[A.length]?=_
 rw[C0,mid rfl];rfl
noncomputable def LB:List Stmt:=GI (at' (GI (BV Ch 8)) 0)
theorem US(H:HT σ s d r pl f)(J:Adj f n L M ka A B C E)(hm:(f M).isSome=true):∃σ',Ex gl Ch (K+8) (LB.drop 3) ⟨FT s n k (pl n).1 (A.length+1) (.loc (pl M).1) (.loc (pl L).1) v,σ⟩ .next ⟨FT s n k (pl n).1 (A.length+1) (.loc (pl M).1) (.loc (pl L).1) v,σ'⟩/\HT σ' s d r pl (upd (upd f M .none) n (some (AT (A++B) (C++L::E)))):=by
 obtain⟨es,e1,e2⟩:=H.dic
 have H2:=H.del M e1 e2
 have n2:upd f M .none n=some (AT (A++ka::B) (C++L::M::E)):=(Ah J.nM).trans J.pg
 have H3:=H2.set1 n2 ((A++B).map .key)
 have H4:=H3.set2 AY rfl ((C++L::E).map .int)
 rw[Ec] at H4
 have ec:(C++L::M::E).map D.int=(C++[L]).map D.int++.int M::E.map .int:=by rw[Ie,AJ];rfl
 have ln:((A.length+1:Nat):Int)=(((C++[L]).map D.int).length:Nat):=by rw[A4,AC,J.len];rfl
 have em:((C++L::M::E).map D.int)[A.length+1]?=some (.int M):=J.len▸UQ
 refine⟨_,B9 (PX (UM (Id H .refl rfl rfl) (BF rfl (DM H J.pg rfl (pR rfl rfl)) (pR rfl rfl) (DV ((H.lay n _ J.pg).c rfl) em)) e1 ?_ PV)) (xO (PX (UL (A:=A.map .key) (B:=B.map .key) (l:=(A++B).map .key) (Bk H2 n2 (pR rfl rfl)) (EG rfl rfl) ((H2.lay n _ n2).b.trans (A2 Lv AK)) (by rw[A4]) AK.symm (UL (A:=(C++[L]).map .int) (B:=E.map .int) (l:=(C++L::E).map .int) (DM H3 AY rfl (pR rfl rfl)) (pR rfl rfl) (((H3.lay n _ AY).c rfl).trans (A2 Lv ec)) ln (by rw[<-AK,AJ];rfl) PV)))),H4⟩
 rw[e2.look M];unfold tb;rw[Option.isSome_map];exact hm
theorem HT.pls(H:HT σ s d r pl f){p p':Pag}(hl:f L=some p)(hm:f M=some p')(h:L≠M):(pl M).2.1≠(pl L).2.1/\(p.lf=false->p'.lf=false->(pl M).2.2≠(pl L).2.2):=by
 obtain⟨o,_,_,on⟩:=H.own
 exact⟨fun q=>h (A2 Prod.fst ((on L _ hl).b.symm.trans ((A2 o q.symm).trans (on M _ hm).b))),fun g g' q=>h (A2 Prod.fst (((on L _ hl).c g).symm.trans ((A2 o q.symm).trans ((on M _ hm).c g'))))⟩
theorem UT(H:HT σ s d r pl f)(J:Adj f n L M ka A B C E)(hl:f L=some (Af ll))(hm:f M=some (Af lm))(hs:ll.length+lm.length < 100):∃σ',Ex gl Ch (K+12) (LB.drop 1) ⟨FT s n k (pl n).1 (A.length+1) (.loc (pl M).1) (.loc (pl L).1) v,σ⟩ .next ⟨FT s n k (pl n).1 (A.length+1) (.loc (pl M).1) (.loc (pl L).1) v,σ'⟩/\HT σ' s d r pl (upd (upd (upd f L (some (Af (ll++lm)))) M .none) n (some (AT (A++B) (C++L::E)))):=by
 have H2:=H.set1 hl ((ll++lm).map AL)
 have m2:upd f L (some (⟨true,(ll++lm).map AL,[]⟩:Pag)) M=some (Af lm):=(Ah J.LM.symm).trans hm
 obtain⟨σ',e,H'⟩:=US (K:=K+2) (k:=k) (v:=v) H2 ⟨(Ah J.nL).trans J.pg,J.len,J.nL,J.nM,J.LM⟩ (A2 Option.isSome m2)
 refine⟨σ',B9 (B1 (Dw H hm (pR rfl rfl) Fv rfl) BO) (B9 (PU rfl (Bk H hl (pR rfl rfl)) (H.lay L _ hl).b (Bk H hm (pR rfl rfl)) (H.lay M _ hm).b ?_ (by rw[show(Af ll).xs.length=ll.length from A4 _,show(Af lm).xs.length=lm.length from A4 _];exact AN hs (nL rfl)) AK.symm) e),H'⟩
 exact(H.pls hl hm J.LM).1
theorem UU(H:HT σ s d r pl f)(J:Adj f n L M ka A B C E)(hl:f L=some (AT kl cl))(hm:f M=some (AT km cm))(hs:kl.length+km.length < 100)(hs':cl.length+cm.length < 100):∃σ',Ex gl Ch (K+12) (LB.drop 1) ⟨FT s n k (pl n).1 (A.length+1) (.loc (pl M).1) (.loc (pl L).1) v,σ⟩ .next ⟨FT s n k (pl n).1 (A.length+1) (.loc (pl M).1) (.loc (pl L).1) v,σ'⟩/\HT σ' s d r pl (upd (upd (upd f L (some (AT (kl++ka::km) (cl++cm)))) M .none) n (some (AT (A++B) (C++L::E)))):=by
 have H2:=H.set1 hl ((kl++[ka]).map .key)
 have m2:upd f L (some (⟨false,(kl++[ka]).map .key,cl.map .int⟩:Pag)) M=some (AT km cm):=(Ah J.LM.symm).trans hm
 have H3:=H2.set2 AY rfl ((cl++cm).map .int)
 rw[Ec] at H3
 have m3:upd f L (some (⟨false,(kl++[ka]).map .key,(cl++cm).map .int⟩:Pag)) M=some (AT km cm):=(Ah J.LM.symm).trans hm
 have H4:=H3.set1 AY ((kl++ka::km).map .key)
 rw[Ec] at H4
 have m4:upd f L (some (⟨false,(kl++ka::km).map .key,(cl++cm).map .int⟩:Pag)) M=some (AT km cm):=(Ah J.LM.symm).trans hm
 have P:=H.pls hl hm J.LM
 obtain⟨σ',e,H'⟩:=US (K:=K+2) (k:=k) (v:=v) H4 ⟨(Ah J.nL).trans J.pg,J.len,J.nL,J.nM,J.LM⟩ (A2 Option.isSome m4)
 refine⟨σ',B9 (B4 (Dw H hm (pR rfl rfl) Fv rfl) (B9 (Mz (l:=kl.map .key) (x:=.key ka) rfl (Bk H hl (pR rfl rfl)) (H.lay L _ hl).b (BF rfl (Bk H J.pg (pR rfl rfl)) (EG rfl rfl) (DV (k:=A.length) (H.lay n _ J.pg).b ?_)) (H.lay L _ hl).b (by rw[A4];exact AN (Aa (BJ _ _) hs) (nL rfl)) (Ih ..)) (xO (PU (l:=cl.map .int) (l':=cm.map .int) rfl (DM H2 AY rfl (pR rfl rfl)) ((H2.lay L _ AY).c rfl) (DM H2 m2 rfl (pR rfl rfl)) ((H2.lay M _ m2).c rfl) (P.2 rfl rfl) (by rw[A4,A4];exact AN hs' (nL rfl)) AK.symm))))
  (B9 (PU (l:=(kl++[ka]).map .key) (l':=km.map .key) rfl (Bk H3 AY (pR rfl rfl)) (H3.lay L _ AY).b (Bk H3 m3 (pR rfl rfl)) (H3.lay M _ m3).b P.1 (by rw[A4,A4,AC,DG];exact Aa (Nat.succ_le_of_lt hs) (nL rfl)) (by rw[<-AK,AJ];rfl)) e),H'⟩
 show((A++ka::B).map D.key)[A.length]?=_
 rw[C0,mid rfl];rfl
theorem N4{fn:Fn}{e:Expr}{a:Nat}{p q:Pos}{st st₁:St}{r:R}{b:Bool}(h:Ev gl fn K e st r st₁)(hb:isNone r=b):Tt gl fn (K+1) (.Compare e [.Is] [.Constant .none a p] q) st b st₁:=fun n=>AQ (h n) (by rw[hb])
theorem UV{f1:BG}(H:HT σ s d r pl f)(hv:FU f pl (.loc (pl L).1))(hw:FU f pl w)(h:∃σ',Ex gl Ch (K+12) (LB.drop 1) ⟨FT s n k (pl n).1 (A.length+1) (.loc (pl M).1) (.loc (pl L).1) w,σ⟩ .next ⟨FT s n k (pl n).1 (A.length+1) (.loc (pl M).1) (.loc (pl L).1) w,σ'⟩/\HT σ' s d r pl f1):Step8 K s n k pl (A.length+1) (.loc (pl M).1) (.loc (pl L).1) w σ d r f1:=by
 obtain⟨σ',e,H'⟩:=h
 exact⟨σ',_,B1 (GR rfl rfl rfl H hv.t) (xO (B1 (GR rfl rfl rfl H hw.t) (B9 (B1 (N4 (pR rfl rfl) rfl) BO) (e.up (C9 (nL rfl) K))))),H'⟩
theorem UW{f1:BG}(H:HT σ s d r pl f)(hw:FU f pl (.loc (pl M).1))(h:∃σ',Ex gl Ch (K+12) (LB.drop 1) ⟨FT s n k (pl n).1 (A.length+1) (.loc (pl M).1) (.loc (pl L).1) (.loc (pl M).1),σ⟩ .next ⟨FT s n k (pl n).1 (A.length+1) (.loc (pl M).1) (.loc (pl L).1) (.loc (pl M).1),σ'⟩/\HT σ' s d r pl f1):Step8 K s n k pl A.length (.loc (pl L).1) (.d .none) (.loc (pl M).1) σ d r f1:=by
 obtain⟨σ',e,H'⟩:=h
 exact⟨σ',_,B1 (GR rfl rfl rfl H (.inl ⟨rfl,rfl⟩)) (xO (B1 (GR rfl rfl rfl H hw.t) (B9 (B4 (N4 (pR rfl rfl) rfl) (xO (Cu rfl rfl (BA (AH (Ag (pR rfl rfl) Ab rfl)) (BA (kR rfl rfl) (BA (kR rfl rfl) Cv))) (tN rfl (tN rfl (tO rfl)))))) (e.up (C9 (nL rfl) K))))),H'⟩
end
open PySem
section
variable{σ σ':List Cell}{s d q:Nat}{r:Int}{pl:Int->B0}{f f':BG}{n:Int}{K:Nat}{p:Pag}{xs ys:List (Str×V)}{G:Gl}{fn:Fn}{st st₁ st₂ st₃:St}{elt:Expr}
theorem N5{tg:Tg}{v w:V}{l r:List V}(hb:Em tg v st=some st₁)(he:Kp G fn K fn.hm elt st₁ w st₂)(k:Tn G fn K tg [] elt [] r st₂ l st₃):Tn G fn K tg [] elt [] (v::r) st (w::l) st₃:=fun n=>bnd (bnd hb (bnd (a:=(true,st₁)) rfl (AQ (he n) rfl))) (AQ (k n) rfl)
theorem UX{sc:Scope}{p:Pos}{g:Comprehension}{it:It}{tg:Tg}{l:List V}{zs:List (Str×V)}{σ1:List Cell}(hok:(Gm fn sc&&[g].all GE)=true)(hi:EC G fn K g.iter ⟨xs,σ⟩ it ⟨xs,σ1⟩)(ht:Dm g.target=some tg)(hk:Cr (fn.sc sc.names) it.pr tg=true)(hn:Tn G (fn.sc sc.names) K tg g.ifs elt [] it.items ⟨seen sc.names xs,σ1⟩ l ⟨zs,σ'⟩)(hl:l.length<=lim):Ev G fn (K+1) (.ListComp elt [g] sc p) ⟨xs,σ⟩ (.fresh l) ⟨xs,σ'⟩:=P4 (st₂:=⟨zs,σ'⟩) hok hi ht hk hn hl
noncomputable def inB:List Stmt:=CX (BV Gw 1)
noncomputable def cb:Stmt->Expr
 |.Assign _ e _=>e
 |_=>.Constant .none 0 default
noncomputable def cells(p:Pag):List Cell:=cond p.lf [.lst (p.xs.map .d)] [.lst (p.xs.map .d),.lst (p.cs.map .d)]
noncomputable def Fy(σ:List Cell)(p:Pag):B0:=cond p.lf (σ.length+1,σ.length,0) (σ.length+2,σ.length,σ.length+1)
theorem ce{e:Expr}(he:cb (at' inB 0)=e)(h:A8 xs ys)(hp:AG "p" ys=some (.d p.d)):Ev gl Gw (K+10) e ⟨xs,σ⟩ (.fresh (p.hd (Fy σ p))) ⟨xs,σ++cells p⟩:=by
 subst he
 obtain⟨lf,l,c⟩:=p
 cases lf
 ·have e1:(σ++[Cell.lst (l.map .d)]).length=σ.length+1:=AC
  have e2:σ++cells ⟨false,l,c⟩=(σ++[Cell.lst (l.map .d)])++[Cell.lst (c.map .d)]:=by rw[AJ];rfl
  show Ev gl Gw (K+10) _ ⟨xs,σ⟩ (.fresh [.d (.str "inner"),.loc σ.length,.loc (σ.length+1)]) ⟨xs,_⟩
  rw[e2,<-e1]
  exact Ag (b:=.fresh [.loc σ.length,.loc (σ++[Cell.lst (l.map .d)]).length]) (BS (sZ (iX (pn h rfl hp) rfl)) rfl) (UX (l:=[.loc σ.length,.loc (σ++[Cell.lst (l.map .d)]).length]) rfl (CF rfl (BN (pn h rfl hp) (BI Ab) (fun _=>BR) rfl) rfl) rfl rfl (N5 rfl (Ci (C7 (fun _=>rfl) (pR rfl Bx) rfl) rfl) (N5 rfl (Ci (C7 (fun _=>rfl) (pR rfl Bx) rfl) rfl) Ji)) (by decide:2<=lim)) rfl
 ·exact Ag (b:=.fresh [.loc σ.length]) (BS (sZ (iX (pn h rfl hp) rfl)) rfl) (UX (l:=[.loc σ.length]) rfl (CF rfl (BN (pn h rfl hp) (BI Ab) (fun _=>BR) rfl) rfl) rfl rfl (N5 rfl (Ci (C7 (fun _=>rfl) (pR rfl Bx) rfl) rfl) Ji) (by decide:1<=lim)) rfl
theorem Jo{α:Type}{a b:List α}{m j:Nat}(h:a.length=m):(a++b)[m+j]?=b[j]?:=by subst h;rw[HX (BJ _ _),Nat.add_sub_cancel_left]
structure PlsOk(τ:List Cell)(m:Nat)(q:B0)(p:Pag):Prop where
 lay:Lay τ q p
 a:m<=q.1
 b:m<=q.2.1
 c:p.lf=false->m<=q.2.2
 ne:q.1≠q.2.1
 ne':p.lf=false->q.1≠q.2.2/\q.2.1≠q.2.2
theorem cf{τ:List Cell}(h:τ.length=σ.length):∀p:Pag,PlsOk (τ++(cells p++[Cell.lst (p.hd (Fy σ p))])) σ.length (Fy σ p) p
 |⟨true,l,c⟩=>⟨⟨Jo h,Jo (j:=0) h,fun e=>Bool.noConfusion e⟩,BJ _ _,Am _,fun e=>Bool.noConfusion e,CV (Cc _),fun e=>Bool.noConfusion e⟩
 |⟨false,l,c⟩=>⟨⟨Jo h,Jo (j:=0) h,fun _=>Jo h⟩,BJ _ _,Am _,fun _=>BJ _ _,CV (Nat.lt_succ_of_lt (Cc _)),fun _=>⟨CV (Cc _),CA (Cc _)⟩⟩
theorem ch(σ:List Cell):∀p:Pag,(Fy σ p).1=(σ++cells p).length
 |⟨true,l,c⟩=>by rw[AC];rfl
 |⟨false,l,c⟩=>by rw[AC];rfl
noncomputable def UY(q:Int×Pag):V:=.d (.tup [.int q.1,q.2.d])
theorem ci(hs:σ[s]?=some (.inst [("pages",.loc d)]))(H:HT (σ.set s (Ht d 0)) s d 0 pl f)(h:A8 xs ys)(hy:AG "self" ys=some (.loc s))(hp:AG "p" ys=some (.d p.d))(hn:AG "n" ys=some (.d (.int n)))(hf:f n=.none)(hd:n∈B8):∃σ' pl',Ex gl Gw (K+20) inB ⟨xs,σ⟩ .next ⟨xs,σ'⟩/\σ'[s]?=some (.inst [("pages",.loc d)])/\HT (σ'.set s (Ht d 0)) s d 0 pl' (upd f n (some p)):=by
 obtain⟨es,e1,e2⟩:=H.dic
 obtain⟨o,os,od,_⟩:=H.own
 have sd:s≠d:=fun e=>by rw[e,od] at os;cases os
 have hS:=Mt hs
 have lS:(σ.set s (Ht d 0)).length=σ.length:=List.length_set
 have ed:σ[d]?=some (.dct false es):=(List.getElem?_set_ne sd).symm.trans e1
 have H2:=H.app (cells p++[Cell.lst (p.hd (Fy σ p))])
 have P:=cf (σ:=σ) lS p
 have ge:∀x,σ.length<=x->Fr s d pl f x:=fun x hx=>H.fr (lS▸hx)
 have H3:=H2.add hf hd (D9 _ e1) e2 P.lay (ge _ P.a) (ge _ P.b) (fun e=>ge _ (P.c e)) P.ne P.ne'
 refine⟨(σ++(cells p++[Cell.lst (p.hd (Fy σ p))])).set d (.dct false (BL n (.loc (Fy σ p).1) es)),upd pl n (Fy σ p),xO (FN (v:=.loc (Fy σ p).1) (st₁:=⟨xs,σ++(cells p++[Cell.lst (p.hd (Fy σ p))])⟩) ?_ (Hl (k:=(false,n)) (Mu rfl (pn h rfl hy) (D9 _ hs) rfl) (pn h rfl hn) rfl ?_)),Bj (D9 _ hs) sd,?_⟩
 ·rw[show(Fy σ p).1=(σ++cells p).length from ch σ p,<-AJ]
  exact Ci (ce (K:=K+9) (σ:=σ) rfl h hp) rfl
 ·rw[D9 _ ed]
  exact BM (by rw[Fo,Ae (H.len e2)];rfl) rfl
 ·rw[List.set_comm _ _ sd.symm,List.set_append_left _ _ hS]
  exact H3
theorem cj{α:Type}{P:List (Int×α)}{n:Int}{p:α}(h:n∉P.map (·.1)):upd (fun m=>AP m P) n (some p)=fun m=>AP m (P++[(n,p)]):=funext fun m=>by
 rw[<-TM h,Ol]
 by_cases e:m=n
 ·rw[A5 e,e,AY]
 ·rw[A3 e,Ah e]
theorem ck(R:List (Int×Pag)):∀(P:List (Int×Pag)) (σ:List Cell) (pl:Int->B0) (xs:List (Str×V)),((P++R).map (·.1)).Nodup->(∀q∈R,q.1∈B8)->σ[s]?=some (.inst [("pages",.loc d)])->HT (σ.set s (Ht d 0)) s d 0 pl (fun m=>AP m P)->A8 xs ys->AG "self" ys=some (.loc s)->AG "n" ys=.none->AG "p" ys=.none->
 ∃σ' pl' xs',Lp gl Gw 30 (.two "n" "p") inB (R.map UY) ⟨xs,σ⟩ ⟨xs',σ'⟩/\σ'[s]?=some (.inst [("pages",.loc d)])/\HT (σ'.set s (Ht d 0)) s d 0 pl' (fun m=>AP m (P++R))/\A8 xs' ys:=by
 induction R with
 |nil=>exact fun P σ pl xs _ _ hs H h _ _ _=>⟨σ,pl,xs,GK,hs,by rw[As];exact H,h⟩
 |cons q R ih=>
  intro P σ pl xs nd hd hs H h h1 h2 h3
  have nq:q.1∉P.map (·.1):=fun e=>by
   rw[AK] at nd
   exact(FD.mp nd).2.2 _ e _ AZ rfl
  have hz:A8 (AS "p" (.d q.2.d) (AS "n" (.d (.int q.1)) xs)) (("n",.d (.int q.1))::("p",.d q.2.d)::ys):=.cons ((IV (by decide)).trans Bx) (.cons Bx ((h.other h2).other h3))
  obtain⟨σ1,pl1,e1,s1,H1⟩:=ci (K:=10) (p:=q.2) hs H hz h1 rfl rfl (Cz.mpr nq) (hd q AZ)
  rw[cj nq] at H1
  obtain⟨σ2,pl2,xs2,e2,s2,H2,hx⟩:=ih (P++[q]) σ1 pl1 _ (by rw[AJ];exact nd) (fun a ha=>hd a (Aj _ ha)) s1 H1 ((h.other h2).other h3) h1 h2 h3
  rw[AJ] at H2
  exact⟨σ2,pl2,xs2,Hn rfl e1 e2,s2,H2,hx⟩
noncomputable def tD(f:BG)(r:Int):D:=B2 ⟨fun n=>(f n).map Pag.d,r⟩
theorem UZ{α β:Type}(g:α->β)(f:Int->Option α)(ds:List Int):D8 ds (fun n=>(f n).map g)=(D8 ds f).map (vm g):=by
 induction ds with
 |nil=>rfl
 |cons n ds ih=>
  rw[Hp,Hp]
  cases f n with
  |none=>exact ih
  |some y=>exact A2 (_::·) ih
theorem N6(hf:Bc f):∃σ' pl,Cl gl Gw 40 [.loc σ.length,.d (tD f r)] (σ++[.inst []]) (.val (.d .none)) σ'/\HT σ' σ.length (σ.length+1) r pl f:=by
 have a1:((σ++[Cell.inst [("pages",V.loc (σ.length+1))]])++[Cell.dct false []])[σ.length]?=some (.inst [("pages",.loc (σ.length+1))]):=D9 _ (DA _ _)
 have a2:((σ++[Cell.inst [("pages",V.loc (σ.length+1))]])++[Cell.dct false []])[σ.length+1]?=some (.dct false []):=by rw[AJ];exact Jo rfl
 have H0:HT (((σ++[Cell.inst [("pages",V.loc (σ.length+1))]])++[Cell.dct false []]).set σ.length (Ht (σ.length+1) 0)) σ.length (σ.length+1) 0 (fun _=>(0,0,0)) (fun m=>AP m []):=⟨HG a1,⟨[],Bj a2 (CV (Cc _)),Ca,fun _=>rfl⟩,fun _ _ e=>(nomatch e),⟨fun x=>if x=σ.length then(0,3) else(0,4),A5 rfl,A3 (CV (Cc _)),fun _ _ e=>(nomatch e)⟩,fun _ _ e=>(nomatch e)⟩
 obtain⟨σ',pl',xs',e,s',H',hx⟩:=ck (ys:=[("self",.loc σ.length),("tree",.d (tD f r))]) (AF f) [] _ _ _ (Bg FO) (fun q hq=>(GM.mp hq).1) a1 H0 .refl rfl rfl rfl
 have H2:=H'.root r
 rw[List.set_set] at H2
 refine⟨_,pl',EE rfl rfl (BX rfl (Mw (AH fun _=>rfl) (Mv (σ':=(σ++[Cell.inst [("pages",V.loc (σ.length+1))]])++[Cell.dct false []]) rfl (pR rfl rfl) (D9 _ (DA _ _)) ?_)) (BX rfl (Hm (l:=⟨(AF f).map UY,false⟩) (CF rfl (iX (pR rfl rfl) rfl) ?_) rfl rfl (Mine.U.up (nL rfl) (P:=fun n=>forLoop' (AU gl n) Gw _ _ _ _=some _) e)) (BX rfl (Mw (AH (iX (pn hx rfl rfl) rfl)) (Mv rfl (pn hx rfl rfl) s' rfl)) (Jm rfl)))),?_⟩
 ·show((σ++[Cell.inst []])++[Cell.dct false []]).set σ.length (.inst [("pages",V.loc (σ++[Cell.inst []]).length)])=_
  rw[AC,List.set_append_left _ _ (by rw[AC];exact Cc _),UB];rfl
 ·show some (((D8 B8 fun n=>(f n).map Pag.d).map BB).map V.d,_)=_
  rw[UZ,Ai,Ai];rfl
 ·have e:(fun m=>AP m (AF f))=f:=funext fun m=>L3 hf m
  rw[List.nil_append,e] at H2
  exact H2
end
open PySem
section
variable{σ σ':List Cell}{s d q:Nat}{r:Int}{pl:Int->B0}{f f':BG}{n:Int}{K:Nat}{p:Pag}{xs ys:List (Str×V)}{fn:Fn}
noncomputable def Jp(pl:Int->B0)(q:Int×Pag):V:=.tup [.d (.int q.1),.tup (q.2.hd (pl q.1))]
theorem cp(p:Pag)(q:B0):EQ (p.hd q)=.tup (p.hd q):=by unfold Pag.hd;cases p.lf <;> rfl
theorem cq{es:List (Int×V)}(H:HT σ s d r pl f)(h:Dic es (tb pl f)):(B8.filter fun n=>(es.map (·.1)).contains n)=(AF f).map (·.1):=by
 have e1:(B8.filter fun n=>(es.map (·.1)).contains n)=B8.filter fun n=>(f n).isSome:=List.filter_congr fun n _=>by
  rw[Bool.eq_iff_iff,Da]
  have e:=h.look n
  unfold tb at e
  cases hf:f n with
  |none=>rw[hf] at e;exact⟨fun q=>absurd q (Cz.mp e),fun q=>Bool.noConfusion q⟩
  |some p=>rw[hf] at e;exact⟨fun _=>rfl,fun _=>Classical.byContradiction fun q=>by rw[Cz.mpr q] at e;cases e⟩
 have e2:∀ds:List Int,(D8 ds f).map (·.1)=ds.filter fun n=>(f n).isSome:=by
  intro ds
  induction ds with
  |nil=>rfl
  |cons n ds ih=>
   rw[Hp,Gc]
   cases hf:f n with
   |none=>exact ih
   |some y=>exact A2 (n::·) ih
 exact e1.trans (e2 B8).symm
theorem Ua(H:HT σ s d r pl f):Cl gl Sk 40 [.loc s] σ (.val (.tup [.loc σ.length,.d (.int r)])) (σ++[.lst ((AF f).map (Jp pl))]):=by
 obtain⟨es,e1,e2⟩:=H.dic
 have hs:GC σ "sorted" (.val (.loc d))=some (.fresh (((AF f).map (·.1)).map fun n=>V.d (.int n))):=by
  refine(A3 (by decide)).trans ((A3 (by decide)).trans ((A3 (by decide)).trans ((A5 rfl).trans (Ba (a:=(false,es)) (bnd (a:=d) rfl (by rw[e1];rfl)) ?_))))
  have hi:=Te (l:=es.map (·.1)) e2.nod fun n hn=>by
   obtain⟨p,hp⟩:∃p,f n=some p:=by
    have e:=e2.look n
    unfold tb at e
    cases hf:f n with
    |none=>rw[hf] at e;exact absurd hn (Cz.mp e)
    |some p=>exact⟨p,rfl⟩
   exact H.dm n p hp
  rw[cq H e2,Ai] at hi
  exact AQ hi (A2 R.fresh Ai)
 refine EE rfl rfl (FR rfl (Bf (Az (vs:=[.loc σ.length,.d (.int r)]) (BT (Ci (Eb (g:=fun q:Int×Pag=>V.d (.int q.1)) (h:=Jp pl) (b:=fun _=>true) (l:=AF f) (ys:=[("self",.loc s)]) (Jd (fun _=>rfl) (C7 (fun _=>rfl) (Id H .refl rfl rfl) hs) (A2 (fun l=>some (l,σ)) Ai)) rfl rfl rfl (.cons rfl .nil) rfl (fun q hq zs hz=>⟨HD,fun _=>AH (Az (vs:=[.d (.int q.1),.tup (q.2.hd (pl q.1))]) (sN hz rfl rfl (sZ (C7 (fun _=>rfl) (Ew H (GM.mp hq).2 hz rfl rfl rfl (pn hz rfl rfl)) ?_))) rfl (by decide))⟩) (A9 HC (nL rfl)) (A2 (List.map _) (HW.mpr fun _ _=>rfl))) rfl) (sZ (Fw (H.app _) .refl rfl rfl))) rfl (by decide))))
 refine(A3 (by decide)).trans ((A3 (by decide)).trans ((A5 rfl).trans (AQ (a:=q.2.hd (pl q.1)) ?_ (A2 R.val (cp q.2 _)))))
 show ER σ[(pl q.1).1]?=_
 rw[(H.lay q.1 q.2 (GM.mp hq).2).a];rfl
theorem G0{α β:Type}{g:α->Option β}{a:α}{b:β}{l:List α}{m:List β}(h:g a=some b)(k:l.mapM g=some m):(a::l).mapM g=some (b::m):=by rw[List.mapM_cons];exact bnd h (bnd k rfl)
theorem N7{α β:Type}{g:α->Option β}:[].mapM g=some []:=rfl
theorem LC(k:Nat)(x:D):FK k σ (.d x)=some x:=by cases k <;> rfl
theorem PZ(k:Nat)(l:List D):(l.map V.d).mapM (FK k σ)=some l:=by
 induction l with
 |nil=>rfl
 |cons x r ih=>exact G0 (LC k x) ih
theorem Pa{l:List D}(k:Nat)(h:σ[q]?=Lv l):FK (k+1) σ (.loc q)=some (.lst l):=bnd (a:=l.map .d) (by rw[h];rfl) (AQ (PZ k l) rfl)
theorem cu{q:B0}(h:Lay σ q p)(k:Nat):FK (k+2) σ (.tup (p.hd q))=some p.d:=by
 obtain⟨lf,l,c⟩:=p
 cases lf with
 |true=>exact AQ (a:=[.str "leaf",.lst l]) (G0 (LC _ _) (G0 (Pa k h.b) N7)) rfl
 |false=>exact AQ (a:=[.str "inner",.lst l,.lst c]) (G0 (LC _ _) (G0 (Pa k h.b) (G0 (Pa k (h.c rfl)) N7))) rfl
theorem cw(L:List (Int×Pag))(h:∀q∈L,Lay σ (pl q.1) q.2)(k:Nat):(L.map (Jp pl)).mapM (FK (k+3) σ)=some ((L.map (vm Pag.d)).map BB):=by
 induction L with
 |nil=>rfl
 |cons q L ih=>exact G0 (AQ (a:=[.int q.1,q.2.d]) (G0 (LC _ _) (G0 (cu (h q AZ) k) N7)) rfl) (ih fun a ha=>h a (Aj _ ha))
theorem Ub(H:HT σ s d r pl f):J9 (σ++[.lst ((AF f).map (Jp pl))]) (.val (.tup [.loc σ.length,.d (.int r)]))=some (.val (.d (tD f r))):=by
 have H':=H.app [.lst ((AF f).map (Jp pl))]
 refine AQ (a:=tD f r) (AQ (a:=[.lst ((AF fun n=>(f n).map Pag.d).map BB),.int r]) (G0 (bnd (a:=(AF f).map (Jp pl)) (by rw[DA];rfl) (AQ (cw (AF f) (fun q hq=>H'.lay _ _ (GM.mp hq).2) 3) ?_)) (G0 (LC _ _) N7)) rfl) rfl
 unfold AF
 rw[UZ]
end
open PySem
section
variable{σ σ':List Cell}{s d q:Nat}{r r' k k2:Int}{m m2:Nat}{pl:Int->B0}{f f':BG}{n:Int}{K:Nat}{p:Pag}{xs ys:List (Str×V)}{fn:Fn}{v:Str}{st:St}{es:List Expr}{vs:List V}{ps qs:Pos}
inductive TP(σ:List Cell)(s d:Nat)(k:Int)(v:Str)(r:Int)(f':BG):Prop where
 |mk (σ':List Cell) (pl':Int->B0):Cl gl Sn 80 [.loc s,.d (.key k),.d (.str v)] σ (.val (.d .none)) σ'->HT σ' s d r pl' f'->TP σ s d k v r f'
inductive TQ(σ:List Cell)(s d:Nat)(k r:Int)(f':BG):Prop where
 |mk (σ':List Cell) (pl':Int->B0):Cl gl OS 80 [.loc s,.d (.key k)] σ (.val (.d .none)) σ'->HT σ' s d r pl' f'->TQ σ s d k r f'
theorem Uc(h:PutR 60 σ s d r pl f r k v .none f')(H:HT σ s d r pl f):TP σ s d k v r f':=by
 obtain⟨σ',pl',h1,H',_⟩:=h
 exact⟨σ',pl',EE rfl rfl (BX rfl (Ac (AH (Dv rfl (pR rfl rfl) H.inst rfl (sK (Fw H .refl rfl rfl) (sR rfl rfl (sO rfl rfl))) H.inst rfl rfl (h1.u rfl))) rfl) (BX rfl (B1 (Dq (fun _=>rfl) (pR rfl rfl) rfl) BO) (Jm rfl))),H'⟩
theorem Ud(h:PutR 60 σ s d r pl f r k v (.tup [.key k2,.int m]) f')(H:HT σ s d r pl f)(L:Least f' m2):TP σ s d k v m2 (upd f' m2 (some (AT [k2] [r,m]))):=by
 obtain⟨σ1,pl1,h1,H1,_⟩:=h
 have H2:=H1.app [Cell.lst [.d (.key k2)]]
 have H3:=H2.app [Cell.lst [.d (.int r),.d (.int m)]]
 have l2:(σ1++[Cell.lst [.d (.key k2)]]).length=σ1.length+1:=by rw[AC];rfl
 have l3:(σ1++[Cell.lst [.d (.key k2)]]++[Cell.lst [.d (.int r),.d (.int m)]]).length=σ1.length+2:=by rw[AC,l2];rfl
 have H4:=H3.app [Cell.lst [.d (.str "inner"),.loc σ1.length,.loc (σ1++[Cell.lst [.d (.key k2)]]).length]]
 obtain⟨σ5,c5,H5⟩:=PB (q:=((σ1++[Cell.lst [.d (.key k2)]]++[Cell.lst [.d (.int r),.d (.int m)]]).length,σ1.length,(σ1++[Cell.lst [.d (.key k2)]]).length)) (p:=AT [k2] [r,m]) H4 L ⟨DA _ _,D9 _ (D9 _ (DA _ _)),fun _=>D9 _ (DA _ _)⟩ (H1.fr (by rw[l3];exact BJ _ _)) (H1.fr (Am _)) (fun _=>H1.fr (by rw[l2];exact BJ _ _)) (by rw[l3];exact CV (Ei (nL rfl))) fun _=>by
  rw[l3,l2];exact⟨CV (Cc _),CA (Cc _)⟩
 exact⟨_,_,EE rfl rfl (BX rfl (Ac (AH (Dv rfl (pR rfl rfl) H.inst rfl (sK (Fw H .refl rfl rfl) (sR rfl rfl (sO rfl rfl))) H.inst rfl rfl (h1.u rfl))) rfl) (BX rfl (B4 (Dq (fun _=>rfl) (pR rfl rfl) rfl) (xO (Mw (AH (Dv rfl (pR rfl rfl) H1.inst rfl (BT (Ci (BS (sK (BW Fv) (BT (Ci (BS (sZ (iX (pR rfl rfl) rfl)) rfl) rfl) (BT (Ci (BS (sK (Fw H2 .refl rfl rfl) (sZ (iX (pR rfl rfl) rfl))) rfl) rfl) Bq))) rfl) rfl) Bq) H4.inst rfl rfl (c5.u rfl))) (Mv rfl (pR rfl rfl) H5.inst rfl)))) (Jm rfl))),H5.root m2⟩
theorem Jq(h:RemR 60 σ s d r pl f r k f')(H:HT σ s d r pl f)(hf:f' r=some p)(hp:p.lf=true\/p.xs≠[]):TQ σ s d k r f':=by
 obtain⟨σ',pl',h1,H',_⟩:=h
 refine⟨σ',pl',EE rfl rfl (BX rfl (HB rfl (Dv rfl (pR rfl rfl) H.inst rfl (sK (Fw H .refl rfl rfl) (sO rfl rfl)) H.inst rfl rfl (h1.u rfl))) (BX rfl (Ac (AH (Ew H' hf .refl rfl rfl rfl (Fw H' .refl rfl rfl))) rfl) (BX (xs':=[("self",.loc s),("key",.d (.key k)),("top",.loc (pl' r).1)]) (σ':=σ') rfl (B1 (st₁:=⟨[("self",.loc s),("key",.d (.key k)),("top",.loc (pl' r).1)],σ'⟩) ?_ BO) (Jm rfl)))),H'⟩
 show Tt gl OS 76 _ ⟨[("self",.loc s),("key",.d (.key k)),("top",.loc (pl' r).1)],σ'⟩ false _
 obtain⟨lf,l,c⟩:=p
 cases lf with
 |true=>exact CM (FM (Dw H' hf (pR rfl rfl) Fv rfl))
 |false=>
  cases l with
  |nil=>exact absurd rfl (hp.resolve_left (fun e=>Bool.noConfusion e))
  |cons x l=>exact CM (Ds (Dw H' hf (pR rfl rfl) Fv rfl) (Dt (Jc (Dq (fun _=>rfl) (Bk H' hf (pR rfl rfl)) (Ba (a:=(x::l).map V.d) (Ba (a:=(x::l).map V.d) (by show ER σ'[_]?=_;rw[(H'.lay r _ hf).b];rfl) rfl) rfl)) rfl)))
theorem Pb{c:Int}(h:RemR 60 σ s d r pl f r k f')(H:HT σ s d r pl f)(hf:f' r=some (AT [] [c])):TQ σ s d k c (upd f' r .none):=by
 obtain⟨σ',pl',h1,H',_⟩:=h
 obtain⟨es,e1,e2⟩:=H'.dic
 have H2:=H'.del r e1 e2
 have sd:s≠d:=fun e=>by have:=H'.inst;rw[e,e1] at this;cases this
 have a2:(σ'.set d (.dct false (CK r es)))[(pl' r).1]?=some (.lst ((AT [] [c]).hd (pl' r))):=Bj (H'.lay r _ hf).a fun e=>by have:=(H'.lay r _ hf).a;rw[e,e1] at this;cases this
 have a3:(σ'.set d (.dct false (CK r es)))[(pl' r).2.2]?=Lv [.int c]:=Bj ((H'.lay r _ hf).c rfl) fun e=>by have:=(H'.lay r _ hf).c rfl;rw[e,e1] at this;cases this
 refine⟨_,pl',EE rfl rfl (BX rfl (HB rfl (Dv rfl (pR rfl rfl) H.inst rfl (sK (Fw H .refl rfl rfl) (sO rfl rfl)) H.inst rfl rfl (h1.u rfl))) (BX rfl (Ac (AH (Ew H' hf .refl rfl rfl rfl (Fw H' .refl rfl rfl))) rfl) (BX rfl (B4 (CM (Ds (Dw H' hf (pR rfl rfl) Fv rfl) (Dt (Jc (Dq (fun _=>rfl) (Bk H' hf (pR rfl rfl)) (Ba (a:=[]) (Ba (a:=[]) (by show ER σ'[_]?=_;rw[(H'.lay r _ hf).b];rfl) rfl) rfl)) rfl)))) (B9 (PX (UM (Id H' .refl rfl rfl) (Fw H' .refl rfl rfl) e1 ?_ PV)) (xO (Mw (AH (iX (iX (pR rfl rfl) (HH a2 rfl)) (DV (k:=0) a3 rfl))) (Mv rfl (pR rfl rfl) H2.inst rfl))))) (Jm rfl)))),H2.root c⟩
 rw[e2.look r];unfold tb;rw[hf];rfl
theorem N8(hx:true=IF fn "_Tree")(ha:Sl gl fn K es st vs ⟨xs,σ⟩)(hc:Cl gl Gw K (.loc σ.length::vs) (σ++[.inst []]) (.val (.d .none)) σ'):Ev gl fn (K+1) (.Call (.Name "_Tree" qs) es [] ps) st (.val (.loc σ.length)) ⟨xs,σ'⟩:=fun n=>BM hx.symm (Dp (c:=_=_) rfl (bnd (ha n) (bnd (hc n) rfl)))
theorem N9(hf:Bc f)(h:∀σ s d pl,HT σ s d r pl f->TP σ s d k v r' f'):Ho (tD f r) k v (tD f' r'):=by
 obtain⟨σ1,pl1,c1,H1⟩:=N6 (σ:=[]) (r:=r) hf
 obtain⟨σ2,pl2,c2,H2⟩:=h σ1 _ _ pl1 H1
 exact Cl.u (Cw rfl rfl (AX rfl (Ac (AH (N8 rfl (sO rfl rfl) (c1.u rfl))) rfl) (AX rfl (HB rfl (Dv rfl (pR rfl rfl) H1.inst rfl (sR rfl rfl (sO rfl rfl)) H1.inst rfl rfl (c2.u rfl))) (CR rfl (Bf (Dv rfl (pR rfl rfl) H2.inst rfl Bq H2.inst rfl rfl ((Ua H2).u rfl))) (Ub H2)))):Cl gl MN 100 [.d (tD f r),.d (.key k),.d (.str v)] [] (.val (.d (tD f' r'))) []) rfl
end
open PySem
section
variable{σ σ':List Cell}{s d q:Nat}{r r' k:Int}{pl:Int->B0}{f f':BG}{n:Int}{K j:Nat}{l:List (Int×Str)}
inductive Path(f:BG)(k:Int):Nat->Int->List (Int×Str)->Prop
 |leaf {n:Int} {l:List (Int×Str)}:f n=some (Af l)->Path f k 0 n l
 |inner {j:Nat} {n c:Int} {A B C E:List Int} {l:List (Int×Str)}:Inn f n k A B C E c->Path f k j c l->Path f k (j+1) n l
theorem Path.has(P:Path f k j n l):∃p,f n=some p:=by
 cases P with
 |leaf h=>exact⟨_,h⟩
 |inner I _=>exact⟨_,I.pg⟩
noncomputable def Ue(t:D)(k:Int)(s a:Nat):List (Str×V):=[("tree",.d t),("key",.d (.key k)),("t",.loc s),("page",.loc a)]
theorem cy{t:D}(H:HT σ s d r pl f)(P:Path f k j n l):∀c,j < c->∃m,Wh gl GH 30 (IU (BV GH 2)) (CX (BV GH 2)) c ⟨Ue t k s (pl n).1,σ⟩ ⟨Ue t k s (pl m).1,σ⟩/\f m=some (Af l):=by
 induction P with
 |leaf hf=>
  intro c hc
  cases c with
  |zero=>exact absurd hc (FF 0)
  |succ c=>exact⟨_,Jl (Dw H hf (pR rfl rfl) Fv rfl),hf⟩
 |inner I P ih=>
  intro c hc
  obtain⟨y,hy⟩:=P.has
  cases c with
  |zero=>exact absurd hc (Nat.not_lt_zero _)
  |succ c=>
   obtain⟨m,e,hm⟩:=ih c (HZ hc)
   exact⟨m,Mq (Dw H I.pg (pR rfl rfl) Fv rfl) (xO (Ac (AH (Ew H hy .refl rfl rfl rfl (BF rfl (DM H I.pg rfl (pR rfl rfl)) (Dv rfl (pR rfl rfl) H.inst rfl (sR rfl rfl (sO rfl rfl)) H.inst rfl rfl ((I.child H).u rfl)) (DV ((H.lay _ _ I.pg).c rfl) I.at)))) rfl)) e,hm⟩
noncomputable def EH(k:Int)(l:List (Int×Str)):D:=Av (AP k l) .str .none
theorem NA(hf:Bc f)(P:Path f k j r l)(hj:j < 900)(hn:(l.map (·.1)).Nodup):Cl gl GH 80 [.d (tD f r),.d (.key k)] [] (.val (.d (EH k l))) []:=by
 obtain⟨σ1,pl1,c1,H1⟩:=N6 (σ:=[]) (r:=r) hf
 obtain⟨m,e,hm⟩:=cy (t:=tD f r) H1 P 1000 (AN hj (nL rfl))
 have hL:=H1.lay m _ hm
 have hd:(σ1++[Cell.dct (Dj ((l.map AL).map V.d)) (Cq (l.map (vm sV)))])[σ1.length]?=some (.dct (Dj ((l.map AL).map V.d)) (Cq (l.map (vm sV)))):=DA _ _
 refine Cw rfl rfl (AX rfl (Ac (AH (N8 rfl (sO rfl rfl) (c1.u rfl))) rfl) (AX rfl (Ac (AH (Ew H1 P.has.choose_spec .refl rfl rfl rfl (Fw H1 .refl rfl rfl))) rfl) (AX rfl (Mr (Mine.U.up (nL rfl) (P:=fun n=>whileLoop' (AU gl n) GH _ _ _ _=some _) e)) (CR rfl (Bf (Oh (r:=.val (.d (EH k l))) (σ':=σ1++[Cell.dct (Dj ((l.map AL).map V.d)) (Cq (l.map (vm sV)))]) rfl (Kw (fun _=>rfl) (Bk H1 hm (pR rfl rfl)) (by show ER σ1[(pl1 m).2.1]?=_;rw[hL.b];rfl) (PE l)) hd (sO rfl rfl) hd ?_)) rfl))))
 refine(A5 rfl).trans (bnd (a:=V.d (.key k)) rfl (bnd (a:=(true,k)) rfl (BM ?_ ?_)))
 ·rw[Je hn,PG]
 ·rw[Je hn,L0]
  unfold EH
  cases AP k l <;> rfl
theorem Uf(hf:Bc f)(P:Path f k j r l)(hj:j < 900)(hn:(l.map (·.1)).Nodup)(h:AP k l=.none):EY (tD f r) k (tD f r):=by
 have e:=NA hf P hj hn
 rw[show EH k l=.none from by unfold EH;rw[h];rfl] at e
 exact Cl.u (Cw rfl rfl (CR rfl (B4 (N4 (Br (f:=GH) rfl (Bi (by decide)) rfl rfl (sR rfl rfl (sO rfl rfl)) rfl (e.u rfl)) rfl) (Du (Bf (pR rfl rfl)))) rfl):Cl gl Ku 100 [.d (tD f r),.d (.key k)] [] (.val (.d (tD f r))) []) rfl
theorem Ii{v:Str}(hf:Bc f)(P:Path f k j r l)(hj:j < 900)(hn:(l.map (·.1)).Nodup)(hv:AP k l=some v)(h:∀σ s d pl,HT σ s d r pl f->TQ σ s d k r' f'):EY (tD f r) k (tD f' r'):=by
 have e:=NA hf P hj hn
 rw[show EH k l=.str v from by unfold EH;rw[hv];rfl] at e
 obtain⟨σ1,pl1,c1,H1⟩:=N6 (σ:=[]) (r:=r) hf
 obtain⟨σ2,pl2,c2,H2⟩:=h σ1 _ _ pl1 H1
 exact Cl.u (Cw rfl rfl (AX rfl (B1 (N4 (Br (f:=GH) rfl (Bi (by decide)) rfl rfl (sR rfl rfl (sO rfl rfl)) rfl (e.u rfl)) rfl) BO) (AX rfl (Ac (AH (N8 rfl (sO rfl rfl) (c1.u rfl))) rfl) (AX rfl (HB rfl (Dv rfl (pR rfl rfl) H1.inst rfl (sO rfl rfl) H1.inst rfl rfl (c2.u rfl))) (CR rfl (Bf (Dv rfl (pR rfl rfl) H2.inst rfl Bq H2.inst rfl rfl ((Ua H2).u rfl))) (Ub H2))))):Cl gl Ku 120 [.d (tD f r),.d (.key k)] [] (.val (.d (tD f' r'))) []) rfl
end
open PySem
section
variable{σ σ' σ'':List Cell}{s d q x:Nat}{r k lo hi:Int}{pl:Int->B0}{f:BG}{n:Int}{K j:Nat}{p:Pag}{c:Cell}{l:List D}{G:Gl}{fn:Fn}{st st₁ st₂ st₃:St}{elt:Expr}
noncomputable def Fz(σ σ':List Cell):Prop:=∀x:Nat,σ'[x]?=σ[x]?\/∃l,σ[x]?=Lv l/\σ'[x]?=some (.froz l)
theorem Fz.refl:Fz σ σ:=fun _=>.inl rfl
theorem Fz.set(F:Fz σ σ')(h:σ[q]?=Lv l):Fz σ (σ'.set q (.froz l)):=fun x=>by
 by_cases e:q=x
 ·subst e
  by_cases hx:q < σ'.length
  ·exact .inr ⟨l,h,List.getElem?_set_self hx⟩
  ·rw[List.set_eq_of_length_le (C2.mp hx)];exact F q
 ·rw[List.getElem?_set_ne e];exact F x
theorem Fz.keep(F:Fz σ σ')(h:σ[x]?=some c)(hc:∀l:List D,c≠.lst (l.map V.d)):σ'[x]?=some c:=(F x).elim (fun e=>e.trans h) fun ⟨l,e,_⟩=>absurd (Option.some.inj (h.symm.trans e)) (hc l)
theorem Fz.read(F:Fz σ σ')(h:σ[x]?=Lv l):σ'[x]?=Lv l\/σ'[x]?=some (.froz l):=(F x).elim (fun e=>.inl (e.trans h)) fun ⟨m,e,e'⟩=>by
 have:l=m:=(List.map_inj_right fun a b h=>V.d.inj h).mp (Cell.lst.inj (Option.some.inj (h.symm.trans e)))
 exact .inr (this▸e')
theorem Fz.lst(F:Fz σ σ')(h:σ[x]?=Lv l):ER σ'[x]?=some (l.map V.d):=(F.read h).elim (fun e=>by rw[e];rfl) fun e=>by rw[e];rfl
theorem cz(p:Pag)(q:B0)(l:List D):Cell.lst (p.hd q)≠.lst (l.map V.d):=fun e=>by
 have e:=Cell.lst.inj e
 unfold Pag.hd at e
 cases hp:p.lf <;> rw[hp] at e <;> cases l with
 |nil=>cases e
 |cons a l=>cases l with
  |nil=>cases e
  |cons b l=>cases (List.cons.inj (List.cons.inj e).2).1
theorem Fz.iter(F:Fz σ σ')(h:σ[q]?=Lv l):∃σ'',Fz σ σ''/\Lh σ' (.val (.loc q))=some (l.map V.d,σ''):=by
 rcases F.read h with e |e
 ·refine⟨_,F.set h,?_⟩
  show Av (KQ σ' q σ'[q]?) some (J8 σ' q σ'[q]?)=_
  rw[e]
  exact AQ (B6 l) rfl
 ·refine⟨σ',F,?_⟩
  show Av (KQ σ' q σ'[q]?) some (J8 σ' q σ'[q]?)=_
  rw[e];rfl
noncomputable def NB{α:Type}(P:Int->List α->Prop):List Int->List α->Prop
 |[],L=>L=[]
 |c::cs,L=>∃a b,L=a++b/\P c a/\NB P cs b
noncomputable def Jr(f:BG):Nat->Int->List (Int×Str)->Prop
 |0,n,L=>f n=some (Af L)
 |j+1,n,L=>∃ks cs,f n=some (AT ks cs)/\NB (Jr f j) cs L
theorem Ug{tg:Tg}{v:V}{l1 l2 r:List V}{gs:List Comprehension}(hb:Em tg v st=some st₁)(hg:∀n,IJ G (AU G (n+K)) fn elt gs st₁=some (l1,st₂))(k:Tn G fn K tg [] elt gs r st₂ l2 st₃):Tn G fn K tg [] elt gs (v::r) st (l1++l2) st₃:=fun n=>bnd (bnd hb (bnd (a:=(true,st₁)) rfl (hg n))) (AQ (k n) rfl)
theorem Uh{g:Comprehension}{it:It}{tg:Tg}{l:List V}{gs:List Comprehension}(hi:EC G fn K g.iter st it st₁)(ht:Dm g.target=some tg)(hk:Cr fn it.pr tg=true)(hn:Tn G fn K tg g.ifs elt gs it.items st₁ l st₂):∀n,IJ G (AU G (n+K)) fn elt (g::gs) st=some (l,st₂):=fun n=>bnd (a:=(tg,it,st₁)) (bnd (hi n) (bnd ht (BM hk rfl))) (hn n)
noncomputable def Cj(L:List (Int×Str)):List V:=(L.map AL).map V.d
theorem d0{ys:List (Str×V)}{gs:List Comprehension}{P:Int->List (Int×Str)->Prop}{x:Str}(hx:AG x ys=.none)(hg:∀c A σ1 zs,P c A->A.length < 1000->Fz σ σ1->A8 zs ((x,.d (.int c))::ys)->∃σ2 zs2,Fz σ σ2/\A8 zs2 ys/\∀n,IJ G (AU G (n+K)) fn elt gs ⟨zs,σ1⟩=some (Cj A,⟨zs2,σ2⟩))(cs:List Int):∀L σ1 xs,NB P cs L->L.length < 1000->Fz σ σ1->A8 xs ys->∃σ2 xs2,Fz σ σ2/\Tn G fn K (.one x) [] elt gs ((cs.map D.int).map V.d) ⟨xs,σ1⟩ (Cj L) ⟨xs2,σ2⟩:=by
 induction cs with
 |nil=>intro L σ1 xs h _ F _;cases h;exact⟨σ1,xs,F,Ji⟩
 |cons c cs ih=>
  intro L σ1 xs h hL F hs
  obtain⟨A,B,rfl,hA,hB⟩:=h
  rw[AC] at hL
  obtain⟨σ2,zs2,F2,s2,e2⟩:=hg c A σ1 (AS x (.d (.int c)) xs) hA (Aa (BJ _ _) hL) F (.cons Bx (hs.other hx))
  obtain⟨σ3,xs3,F3,e3⟩:=ih B σ2 zs2 hB (Aa (G7 _ _) hL) F2 s2
  refine⟨σ3,xs3,F3,?_⟩
  rw[show Cj (A++B)=Cj A++Cj B from by unfold Cj;rw[AK,AK]]
  exact Ug rfl e2 e3
theorem Ui{sc:Scope}{xs zs:List (Str×V)}{p:Pos}{g g':Comprehension}{it:It}{tg:Tg}{l:List V}{σ1:List Cell}(hok:(Gm fn sc&&[g,g'].all GE)=true)(hi:EC G fn K g.iter ⟨xs,σ⟩ it ⟨xs,σ1⟩)(ht:Dm g.target=some tg)(hk:Cr (fn.sc sc.names) it.pr tg=true)(hn:Tn G (fn.sc sc.names) K tg g.ifs elt [g'] it.items ⟨seen sc.names xs,σ1⟩ l ⟨zs,σ'⟩)(hl:l.length<=lim):Ev G fn (K+1) (.ListComp elt [g,g'] sc p) ⟨xs,σ⟩ (.fresh l) ⟨xs,σ'⟩:=P4 (st₂:=⟨zs,σ'⟩) hok hi ht hk hn hl
theorem d3{ys:List (Str×V)}{x:Str}{p:Pos}(hk:true=DU (fn.names.lookup x))(hx:AG x ys=.none)(L:List V):∀xs,A8 xs ys->∃xs',Tn G fn (K+1) (.one x) [] (.Name x p) [] L ⟨xs,σ⟩ L ⟨xs',σ⟩/\A8 xs' ys:=by
 induction L with
 |nil=>exact fun xs h=>⟨xs,Ji,h⟩
 |cons v L ih=>
  intro xs h
  obtain⟨xs',e,h'⟩:=ih (AS x v xs) (h.other hx)
  exact⟨xs',N5 rfl (kR hk Bx) e,h'⟩
theorem d4(H:HT σ s d r pl f)(j:Nat):∀{n:Int} {L:List (Int×Str)} {σ':List Cell},Jr f j n L->L.length < 1000->Fz σ σ'->∃σ'',Fz σ σ''/\Cl gl Kt (20*j+30) [.loc s,.d (.int n)] σ' (.fresh (Cj L)) σ'':=by
 have pg:∀{n:Int} {p:Pag} {σ':List Cell} {K:Nat} {p1 p2 p3 p4:Pos},f n=some p->Fz σ σ'->Ev gl Kt (K+4) (.Subscript (.Attribute (.Name "t" p1) "pages" p2) (.Name "n" p4) p3) ⟨[("t",.loc s),("n",.d (.int n))],σ'⟩ (.val (.loc (pl n).1)) ⟨[("t",.loc s),("n",.d (.int n))],σ'⟩:=fun {n p σ' K p1 p2 p3 p4} hf F=>by
  obtain⟨es,e1,e2⟩:=H.dic
  exact BF rfl (Mu rfl (pR rfl rfl) (F.keep H.inst fun _=>nofun) rfl) (pR rfl rfl) (Jh (F.keep e1 fun _=>nofun) ((e2.look n).trans (by unfold tb;rw[hf];rfl)))
 have hd:∀{n:Int} {p:Pag} {σ':List Cell},f n=some p->Fz σ σ'->σ'[(pl n).1]?=some (.lst (p.hd (pl n))):=fun {n p σ'} hf F=>F.keep (H.lay n p hf).a (cz _ _)
 induction j with
 |zero=>
  intro n L σ' hP _ F
  have hf:f n=some (Af L):=hP
  have a:=hd hf F
  refine⟨σ',F,EE rfl rfl (BX rfl (Ac (AH (pg hf F)) rfl) (FR rfl (B4 (An rfl (iX (pR rfl rfl) (HH a rfl)) (BW Eu) (GN (Fq rfl))) (Du (Bf (C7 (fun _=>rfl) (iX (pR rfl rfl) (HH a rfl)) ?_))))))⟩
  exact(A3 (by decide)).trans ((A5 rfl).trans (AQ (a:=Cj L) (Ba (a:=Cj L) (F.lst (H.lay n _ hf).b) rfl) rfl))
 |succ j ih=>
  intro n L σ' hP hL F
  obtain⟨ks,cs,hf,hc⟩:=hP
  have a:=hd hf F
  obtain⟨σ1,F1,hi⟩:=F.iter ((H.lay n _ hf).c rfl)
  refine Exists.elim (d0 (σ:=σ) (P:=Jr f j) (x:="c") (ys:=[("t",.loc s)]) (K:=20*j+40) (G:=gl) (fn:=_) (elt:=_) (gs:=_) rfl ?hg cs L σ1 _ hc hL F1 ?hs) fun σ2 h=>h.elim fun xs2 h=>⟨σ2,h.1,(show Cl gl Kt (20*j+45) [.loc s,.d (.int n)] σ' (.fresh (Cj L)) σ2 from EE rfl rfl (BX rfl (Ac (AH (pg hf F)) rfl) (BX rfl (B1 (An rfl (iX (pR rfl rfl) (HH a rfl)) (BW Eu) (GN (Fq rfl))) BO) (FR rfl (Bf (Ui rfl (CF rfl (iX (pR rfl rfl) (HH a rfl)) hi) rfl rfl h.2 ?hl)))))).up (by omega)⟩
  case hl=>unfold Cj;rw[A4,A4];exact BH (AN hL (nL rfl))
  case hs=>exact .cons rfl .nil
  case hg=>
   intro c A σ1 zs hA hlA F1 hz
   obtain⟨σ2,F2,c2⟩:=ih hA hlA F1
   have hz':A8 zs [("t",.loc s)]:=hz.trans (.cons rfl .nil)
   exact Exists.elim (d3 (x:="p") (p:=_) (fn:=Kt.sc _) (K:=20*j+39) (σ:=σ2) rfl rfl (Cj A) zs hz') fun zs2 h=>⟨σ2,zs2,F2,h.2,Uh (Jd (fun _=>rfl) (TC rfl (Bi (by decide)) rfl rfl (sN hz rfl rfl (sZ (pn hz rfl rfl))) (c2.up (C9 (nL rfl) _))) rfl) rfl rfl h.1⟩
theorem d5{l m e:Expr}{p:Pos}{a b c:Int}(h1:Ev gl fn K l st (.val (.d (.key a))) st)(h2:Ev gl fn K m st (.val (.d (.key b))) st)(h3:Ev gl fn K e st (.val (.d (.key c))) st):Tt gl fn (K+1) (.Compare l [.LtE,.Lt] [m,e] p) st (decide (a<=b)&&decide (b < c)) st:=fun n=>by
 show Nq (AU gl (n+K)) fn l (.LtE,m) (.Lt,e) st=_
 refine BM rfl (bnd (a:=((true,a),st)) (bnd (h1 n) rfl) (bnd (a:=((true,b),st)) (bnd (h2 n) rfl) (bnd (a:=decide (a<=b)) rfl ?_)))
 show cond (decide (a<=b)) _ _=_
 cases decide (a<=b) with
 |true=>exact bnd (a:=((true,c),st)) (bnd (h3 n) rfl) rfl
 |false=>rfl
noncomputable def LD(lo hi:Int)(L:List (Int×Str)):List (Int×Str):=L.filter fun p=>decide (lo<=p.1)&&decide (p.1 < hi)
theorem d6{L:List (Int×Str)}(hf:Bc f)(P:Jr f j r L)(hj:j < 5)(hL:L.length < 1000):Cl gl MM 160 [.d (tD f r),.d (.key lo),.d (.key hi)] [] (.fresh (Cj (LD lo hi L))) []:=by
 obtain⟨σ1,pl1,c1,H1⟩:=N6 (σ:=[]) (r:=r) hf
 obtain⟨σ2,F2,c2⟩:=d4 H1 j P hL .refl
 refine Cw rfl rfl (AX rfl (Ac (AH (N8 rfl (sO rfl rfl) (c1.u rfl))) rfl) (CR rfl (Bf (Eb (g:=fun p=>V.d (AL p)) (h:=fun p=>V.d (AL p)) (b:=fun p:Int×Str=>decide (lo<=p.1)&&decide (p.1 < hi)) (l:=L) (lr:=Cj (LD lo hi L)) (ys:=[("low",.d (.key lo)),("high",.d (.key hi))]) (Jd (fun _=>rfl) (TC rfl (Bi (by decide)) rfl rfl (sR rfl rfl (sZ (Fw H1 .refl rfl rfl))) (c2.up ?_)) (A2 (fun l=>some (l,_)) Ai)) rfl rfl rfl (.cons rfl (.cons rfl .nil)) rfl (fun p _ zs hz=>⟨GP (d5 (pn hz rfl rfl) (iX (pn hz rfl rfl) rfl) (pn hz rfl rfl)),fun _=>kN hz rfl rfl⟩) (BH (AN hL (nL rfl))) (Ai (f:=AL) (g:=V.d)).symm)) (AQ (PZ 8 ((LD lo hi L).map AL)) rfl)))
 exact A9 (EP (Nat.mul_le_mul_left 20 (BH hj)) 30) (nL rfl)
end
open PySem
abbrev A1:=Int×Int×List (Int×Str)
noncomputable def Ay(r:A1):D:=.tup [.int r.2.1,.lst (r.2.2.map AL)]
noncomputable def Bu(g:Int×Nat):D:=.tup [.int g.1,.int g.2]
noncomputable def Ce(t:Option Int):D:=Av t .int .none
noncomputable def AW(rs:List A1):List Int:=rs.tail.map (·.1)
noncomputable def DX(rs:List A1):D:=.lst (rs.map Ay)
noncomputable def Dy(rs:List A1):D:=.lst ((AW rs).map .key)
noncomputable def CY(gs:List (Int×Nat)):D:=.lst (gs.map Bu)
noncomputable def CJ(rs:List A1)(gs:List (Int×Nat))(t:Option Int):D:=.tup [DX rs,Dy rs,CY gs,Ce t]
noncomputable def Ck(rs:List A1)(gs:List (Int×Nat))(t:Option Int):List Int:=rs.map (·.2.1)++gs.map (·.1)++t.toList
theorem Uj:∀(n:Nat) (l:List Int),(∀k:Nat,k < n->(k:Int)∈l)->n<=l.length:=by
 intro n
 induction n with
 |zero=>exact fun _ _=>BK _
 |succ n ih=>
  intro l h
  have hn:=h n (Cc n)
  have:=ih (l.erase n) fun k hk=>(List.mem_erase_of_ne fun e=>CA hk (Int.ofNat.inj e)).mpr (h k (Nat.lt_succ_of_lt hk))
  rw[List.length_erase_of_mem hn] at this
  exact Nat.lt_of_le_sub_one (List.length_pos_of_mem hn) this
structure Free(U:List Int)(m:Nat):Prop where
 low:∀k:Nat,k < m->(k:Int)∈U
 no:(m:Int)∉U
theorem Free.le{U:List Int}{m:Nat}(h:Free U m):m<=U.length:=Uj m U h.low
theorem free_ex(U:List Int):∃m,Free U m:=by
 have:∀n i:Nat,(∀k:Nat,k < i->(k:Int)∈U)->(∃m,Free U m)\/∀k:Nat,k < i+n->(k:Int)∈U:=by
  intro n
  induction n with
  |zero=>exact fun i h=>.inr h
  |succ n ih=>
   intro i h
   by_cases hi:(i:Int)∈U
   ·rw[show i+(n+1)=i+1+n from by rw[Dd,Nat.add_comm 1]]
    exact ih (i+1) fun k hk=>(Nat.lt_or_eq_of_le (Bm hk)).elim (h k) fun e=>e▸hi
   ·exact .inl ⟨i,h,hi⟩
 refine(this (U.length+1) 0 fun k hk=>absurd hk (Nat.not_lt_zero k)).elim id fun h=>absurd (Uj (U.length+1) U fun k hk=>h k (by rw[De];exact hk)) (Nat.not_succ_le_self _)
section
variable{K:Nat}{σ:List Cell}{rs:List A1}{gs:List (Int×Nat)}{t:Option Int}{m:Nat}
theorem DB{xs ys:List D}{r₁ r₂:R}(hi:I4 r₂=.none)(h1:CP σ r₁=some (xs.map V.d))(h2:CP σ r₂=some (ys.map V.d))(h:xs.length+ys.length < 1000):Fi σ .Add r₁ r₂=some (.fresh ((xs++ys).map V.d)):=by
 rw[AK]
 exact GQ hi h1 h2 (by rw[A4,A4];exact BH (AN h (nL rfl)))
theorem Pc{n:Int}{U:List Int}:E4 (.int n) (U.map .int)=some (decide (n∈U)):=by
 induction U with
 |nil=>rfl
 |cons u U ih=>
  refine bnd (a:=decide (u=n)) rfl (AQ ih ?_)
  rw[Bool.eq_iff_iff,Bool.or_eq_true,decide_eq_true_eq,decide_eq_true_eq,decide_eq_true_eq,Au]
  exact or_congr eq_comm Iff.rfl
theorem d7{n:Int}{U:List D}{b:Bool}(h:E4 (.int n) U=some b):E4 (.int n) (U++[.none])=some b:=by
 induction U generalizing b with
 |nil=>exact h
 |cons u U ih=>
  cases hu:CW u (.int n) with
  |none=>rw[show E4 (.int n) (u::U)=(CW u (.int n)).bind _ from rfl,hu] at h;cases h
  |some c=>
   cases hU:E4 (.int n) U with
   |none=>rw[show E4 (.int n) (u::U)=(CW u (.int n)).bind fun b=>(E4 (.int n) U).map (b||·) from rfl,hu,hU] at h;cases h
   |some e=>
    rw[show E4 (.int n) (u::U)=(CW u (.int n)).bind fun b=>(E4 (.int n) U).map (b||·) from rfl,hu,hU] at h
    cases h
    exact bnd hu (AQ (ih hU) rfl)
end
open PySem
section
variable{G:Gl}{fn:Fn}{K:Nat}{st:St}{σ:List Cell}{xs:List (Str×V)}{e:Expr}{p q:Pos}{rs:List A1}{gs:List (Int×Nat)}{t:Option Int}{m:Nat}{r:R}
theorem d8{i:Int}(hE:∀n,FJ G (AU G (n+K)) fn (.Call (.Name "range" p) [e] [] q) st=Li (AU G (n+K)) fn [e] st)(h:Ev G fn K e st (.val (.d (.int i))) ⟨xs,σ⟩)(hr:J7 0 i 1=true):EC G fn K (.Call (.Name "range" p) [e] [] q) st (Lf (ID 0 i 1)) ⟨xs,σ⟩:=fun n=>(hE n).trans (bnd (a:=e) rfl (bnd (a:=(i,⟨xs,σ⟩)) (bnd (bnd (h n) rfl) rfl) (BM hr rfl)))
theorem d9(N:Nat):ID 0 (N:Int) 1=(List.range N).map fun i:Nat=>(i:Int):=by
 unfold ID
 rw[Int.sub_zero,Int.add_sub_cancel,Int.ediv_one,F9]
 exact List.map_congr_left fun i _=>by rw[Int.mul_one,Int.zero_add]
theorem dA{N:Nat}(h:N < 1000):J7 0 (N:Int) 1=true:=by
 have e:(((N:Int) - 0+1 - 1) / 1).toNat=N:=by rw[Int.sub_zero,Int.add_sub_cancel,Int.ediv_one,F9]
 exact Bb.mpr ⟨Bb.mpr ⟨Bb.mpr ⟨rfl,Ae (BH (AN h (nL rfl)))⟩,rfl⟩,Ae (BH (AN (Aa (BQ e) h) (nL rfl)))⟩
theorem it_rng'{i:Int}{l:List V}(hE:∀n,FJ G (AU G (n+K)) fn (.Call (.Name "range" p) [e] [] q) st=Li (AU G (n+K)) fn [e] st)(h:Ev G fn K e st (.val (.d (.int i))) ⟨xs,σ⟩)(hr:J7 0 i 1=true)(hl:(ID 0 i 1).map (fun i=>V.d (.int i))=l):EC G fn K (.Call (.Name "range" p) [e] [] q) st ⟨l,false⟩ ⟨xs,σ⟩:=hl▸d8 hE h hr
theorem dB{l:List Int}{m:Int}(hm:m∈l)(h:∀a∈l,m<=a):El I9 l=some m:=by
 have hp:l.all (fun a=>I9 a m)=true:=CO.mpr fun a ha=>Ae (h a ha)
 unfold El
 cases hf:l.find? fun m=>l.all fun a=>I9 a m with
 |none=>exact absurd hp (List.find?_eq_none.mp hf m hm)
 |some m'=>
  have h1:=h m' (List.mem_of_find?_eq_some hf)
  have h2:=DI (CO.mp (List.find?_some (p:=fun m=>l.all fun a=>I9 a m) hf) m hm)
  exact A2 some (Int.le_antisymm h2 h1)
theorem Uk(l:List Int):GB (l.map .int)=some l:=by
 induction l with
 |nil=>rfl
 |cons a l ih=>exact bnd (a:=(false,a)) rfl (bnd (a:=a) rfl (AQ ih rfl))
theorem dC{l:List Int}{m:Int}(h:El I9 l=some m):GC σ "min" (.fresh ((l.map D.int).map V.d))=some (.val (.d (.int m))):=(A3 (by decide)).trans ((A3 (by decide)).trans ((A3 (by decide)).trans ((A3 (by decide)).trans ((A3 (by decide)).trans ((A5 rfl).trans (bnd (a:=(l.map D.int).map V.d) rfl (bnd (B6 _) (bnd (Uk l) (AQ h rfl)))))))))
theorem Ul{d:D}{ds:List D}{b:Bool}(ho:(Be d 30&&Cp ds 30)=true)(h:E4 d ds=some b):Fh σ (.val (.d d)) (.val (.d (.lst ds)))=some b:=Es rfl (bnd (a:=d) rfl (bnd (a:=ds.map V.d) rfl (bnd (B6 ds) (BM ho h))))
theorem dD{n:Nat}{l m:List D}(h1:Cp l n=true)(h2:Cp m n=true):Cp (l++m) n=true:=by
 induction l with
 |nil=>exact h2
 |cons a l ih=>exact Bb.mpr ⟨(Bb.mp h1).1,ih (Bb.mp h1).2⟩
noncomputable def Js(rs:List A1)(gs:List (Int×Nat)):List (Int×D):=rs.map (fun r=>(r.2.1,.lst (r.2.2.map AL)))++gs.map fun g=>(g.1,.int g.2)
theorem dE(rs:List A1)(gs:List (Int×Nat)):(Js rs gs).map (·.1)=rs.map (·.2.1)++gs.map (·.1):=by unfold Js;rw[AK,Ai,Ai];rfl
theorem dF(rs:List A1)(gs:List (Int×Nat)):(Js rs gs).map BB=rs.map Ay++gs.map Bu:=by unfold Js;rw[AK,Ai,Ai];rfl
theorem NC(h:Free (Ck rs gs t) m)(hl:rs.length+gs.length < 100):Cl gl Sq 40 [.d (DX rs),.d (CY gs),.d (Ce t)] [] (.val (.d (.int m))) []:=by
 have W:∀n:Int,E4 (.int n) ((rs.map (·.2.1)++gs.map (·.1)).map .int++[Ce t])=some (decide (n∈Ck rs gs t)):=fun n=>by
  unfold Ck
  cases t with
  |none=>rw[Option.toList_none,As];exact d7 Pc
  |some t=>exact(A2 (E4 _) (Ih D.int _ t)).trans Pc
 have hN:((rs.map (·.2.1)++gs.map (·.1)).map D.int++[Ce t]).length=rs.length+gs.length+1:=by rw[AC,A4,AC,A4,A4];rfl
 have ho:Cp ((rs.map (·.2.1)++gs.map (·.1)).map D.int++[Ce t]) 30=true:=dD (IW fun _ _=>rfl) (by cases t <;> rfl)
 have hm:=h.le
 have hu:(Ck rs gs t).length<=rs.length+gs.length+1:=by
  unfold Ck
  rw[AC,AC,A4,A4]
  exact C9 (by cases t <;> exact Nat.le_of_ble_eq_true rfl) _
 refine Cw rfl rfl (AX (xs':=[("leaves",.d (DX rs)),("groups",.d (CY gs)),("top",.d (Ce t)),("used",.d (.lst ((rs.map (·.2.1)++gs.map (·.1)).map D.int++[Ce t])))]) (σ':=[]) rfl (Ac (Aw (Ag (Eb (g:=fun p=>V.d (BB p)) (h:=fun p:Int×D=>V.d (.int p.1)) (b:=fun _=>true) (l:=Js rs gs) (lr:=((rs.map (·.2.1)++gs.map (·.1)).map D.int).map V.d) (ys:=[]) (CF rfl (Ag (pR rfl rfl) (pR rfl rfl) (DB (xs:=rs.map Ay) (ys:=gs.map Bu) rfl rfl rfl (by rw[A4,A4];exact AN hl (nL rfl)))) ?_) rfl rfl rfl .nil rfl (fun p _ zs hz=>⟨HD,fun _=>AH (iX (pn hz rfl rfl) rfl)⟩) ?_ ?_) (BS (sO rfl rfl) rfl) (DB (xs:=(rs.map (·.2.1)++gs.map (·.1)).map D.int) (ys:=[Ce t]) rfl rfl rfl ?_)) rfl (B6 _)) rfl)
  (CR rfl (Bf (C7 (fun _=>rfl) (Eb (g:=fun i:Nat=>V.d (.int i)) (h:=fun i:Nat=>V.d (.int i)) (b:=fun i:Nat=>!decide ((i:Int)∈Ck rs gs t)) (l:=List.range (rs.length+gs.length+2)) (lr:=((((List.range (rs.length+gs.length+2)).filter fun i:Nat=>!decide ((i:Int)∈Ck rs gs t)).map fun i:Nat=>(i:Int)).map D.int).map V.d) (ys:=[("used",.d (.lst ((rs.map (·.2.1)++gs.map (·.1)).map D.int++[Ce t])))]) (it_rng' (i:=((rs.length+gs.length+2:Nat):Int)) (fun _=>rfl) (Ag (C7 (fun _=>rfl) (pR rfl rfl) rfl) Ab ?_) (dA (AN (Fc hl 2) (nL rfl))) ?_) rfl rfl rfl (.cons rfl .nil) rfl (fun i _ zs hz=>⟨GP (Hk (pn hz rfl rfl) (pn hz rfl rfl) (Ul (by rw[ho];rfl) (W i)) rfl),fun _=>kN hz rfl rfl⟩) ?_ ?_) (dC (dB ?_ ?_)))) rfl))
 ·rw[<-dF];exact A2 (fun l=>some (l,_)) Ai
 ·unfold Js;rw[AC,A4,A4];exact BH (AN hl (nL rfl))
 ·rw[<-dE,Ai,Ai];exact A2 (List.map _) (HW.mpr fun _ _=>rfl)
 ·rw[A4,AC,A4,A4];exact AN (Fc hl 1) (nL rfl)
 ·refine A2 (fun i:Int=>some (R.val (V.d (.int i)))) ?_
  rw[A4,hN];rfl
 ·rw[d9,Ai];rfl
 ·rw[List.length_range];exact BH (AN (Fc hl 2) (nL rfl))
 ·rw[Ai,Ai];rfl
 ·exact BU.mpr ⟨m,List.mem_filter.mpr ⟨List.mem_range.mpr (E2 (A9 hm hu)),by rw[decide_eq_false h.no];rfl⟩,rfl⟩
 ·intro a ha
  obtain⟨i,hi,rfl⟩:=BU.mp ha
  refine FZ.mpr (C2.mp fun q=>?_)
  have:=(List.mem_filter.mp hi).2
  rw[Ae (h.low i q)] at this
  cases this
end
open PySem
section
variable{K:Nat}{σ:List Cell}{rs A B:List A1}{x:A1}{gs:List (Int×Nat)}{t:Option Int}{g k:Int}{a c:Nat}{vals:List Str}{r:R}{l:List D}{w:D}
theorem Ed(h:l[a]?=some w):CL σ (.val (.d (.lst l))) (.val (.d (.int a)))=some (.d w):=Es rfl (bnd (a:=(a:Int)) rfl (bnd (a:=l.map V.d) rfl (PC _ (by rw[C0,h];rfl))))
theorem Ee(k:Nat):GA σ (.val (.d (.lst l))) .none (some (k:Int))=some (.fresh ((l.take k).map V.d)):=by rw[EO];exact A2 (fun l=>some (R.fresh l)) (L5 _ _)
theorem GS(k:Nat):GA σ (.val (.d (.lst l))) (some (k:Int)) .none=some (.fresh ((l.drop k).map V.d)):=by rw[List.map_drop];exact A2 (fun l=>some (R.fresh l)) (UF _ _)
theorem ND:Cl gl IT 20 [.d (CY ((g,c)::gs)),.d (.int a)] [] (.val (.d (cond (decide (a < c)) (.tup [.int 0,.int 0]) (.tup [.int 1,.int c])))) []:=by
 have e:∀{K:Nat} {p1 p2 p3 p4 p5:Pos} {i j:Nat},Ev gl IT (K+3) (.Subscript (.Subscript (.Name "groups" p1) (.Constant (.int 0) i p2) p3) (.Constant (.int 1) j p4) p5) ⟨[("groups",.d (CY ((g,c)::gs))),("at",.d (.int a))],[]⟩ (.val (.d (.int c))) ⟨[("groups",.d (CY ((g,c)::gs))),("at",.d (.int a))],[]⟩:=iX (iX (pR rfl rfl) (Ed (a:=0) (w:=Bu (g,c)) rfl)) rfl
 have t:∀{b:Bool},decide (a < c)=b->decide ((a:Int) < (c:Int))=b:=fun h=>(decide_eq_decide.mpr Bp).trans h
 cases h:decide (a < c) with
 |true=>exact Cw rfl rfl (CR rfl (B4 (An rfl (pR rfl rfl) e (EF (t h))) (Du (Bf (Az (sK Ab (sZ Ab)) rfl rfl)))) rfl)
 |false=>exact Cw rfl rfl (AX rfl (B1 (An rfl (pR rfl rfl) e (EF (t h))) BO) (CR rfl (Bf (Az (vs:=[.d (.int 1),.d (.int c)]) (sK Ab (sZ e)) rfl (by decide))) rfl))
structure Loc(rs:List A1)(k:Int)(A:List A1)(x:A1)(B:List A1):Prop where
 eq:rs=A++x::B
 low:∀y∈(A++[x]).tail,y.1<=k
 high:∀y∈B,k < y.1
theorem EI(A:List A1)(x:A1)(B:List A1):AW (A++x::B)=AW (A++[x])++B.map (·.1):=by
 unfold AW
 cases A with
 |nil=>rfl
 |cons a A=>
  show(A++x::B).map _=(A++[x]).map _++_
  rw[AK,AK,AJ];rfl
theorem DC(A:List A1)(x:A1):(AW (A++[x])).length=A.length:=by
 unfold AW
 rw[A4,List.length_tail,AC];rfl
theorem Loc.count(h:Loc rs k A x B):((AW rs).filter fun s=>decide (s<=k)).length=A.length:=by
 rw[h.eq,EI,List.filter_append,HW.mpr fun s hs=>?_,List.filter_eq_nil_iff.mpr fun s hs=>?_,As,DC]
 ·obtain⟨y,hy,rfl⟩:=BU.mp hs;exact fun q=>absurd (DI q) (Int.not_le.mpr (h.high y hy))
 ·obtain⟨y,hy,rfl⟩:=BU.mp hs;exact Ae (h.low y hy)
noncomputable def Bz(k:Int)(vals:List Str)(ps:List (Int×Str)):List (Int×Str):=Bn (·.1) (outP' k ps++vals.map fun v=>(k,v))
noncomputable def AD(x:A1)(ps:List (Int×Str)):A1:=(x.1,x.2.1,ps)
noncomputable def Um(tr:D)(k:Int)(vals:List Str)(lv:D)(sp:D)(gs:List (Int×Nat))(t:Option Int)(a:Nat)(no:Int)(ps:List (Int×Str)):List (Str×V):=[("tree",.d tr),("key",.d (.key k)),("values",.d (.tup (vals.map .str))),("leaves",.d lv),("seps",.d sp),("groups",.d (CY gs)),("top",.d (Ce t)),("at",.d (.int a)),("no",.d (.int no)),("pairs",.d (.lst (ps.map AL)))]
theorem Un(h:(x.2.2.map (·.1)).Nodup)(hv:vals.length<=1):((outP' k x.2.2++vals.map fun v=>(k,v)).map (·.1)).Nodup:=by
 rw[AK]
 refine FD.mpr ⟨(List.filter_sublist.map _).nodup h,?_,fun i hi j hj e=>?_⟩
 ·cases vals with
  |nil=>exact Ca
  |cons v vs=>cases vs with
   |nil=>exact BZ.mpr ⟨B3,Ca⟩
   |cons w vs=>exact absurd hv (by simp)
 ·obtain⟨p,hp,rfl⟩:=BU.mp hi
  obtain⟨q,hq,rfl⟩:=BU.mp hj
  obtain⟨v,_,rfl⟩:=BU.mp hq
  have:=(List.mem_filter.mp hp).2
  rw[Ae e] at this
  cases this
theorem Uo{l l':List D}(h:ET l=some l'):GC σ "sorted" (.fresh (l.map V.d))=some (.fresh (l'.map V.d)):=(A3 (by decide)).trans ((A3 (by decide)).trans ((A3 (by decide)).trans ((A5 rfl).trans (Es rfl (bnd (a:=l.map V.d) rfl (bnd (B6 l) (AQ h rfl)))))))
theorem LE{α β:Type}(f:α->β)(A:List α)(B:List α):((A++B).map f).take A.length=A.map f:=by rw[AK,List.take_left' (A4 f)]
theorem Pd{α β:Type}(f:α->β)(A:List α)(x:α)(B:List α):((A++x::B).map f).drop (A.length+1)=B.map f:=by
 rw[show A++x::B=(A++[x])++B from by rw[AJ];rfl,AK,List.drop_left' (by rw[A4,AC];rfl)]
theorem Pe(h:Loc rs k A x B)(hn:(x.2.2.map (·.1)).Nodup)(hv:vals.length<=1)(hl:rs.length < 100)(hp:x.2.2.length < 50)(hr:CD gl JV (K+20) 5 (Um (CJ rs gs t) k vals (DX (A++AD x (Bz k vals x.2.2)::B)) (Dy rs) gs t A.length x.2.1 (Bz k vals x.2.2)) [] r):Cl gl JV (K+26) [.d (CJ rs gs t),.d (.key k),.d (.tup (vals.map .str))] [] r []:=by
 have ex:(rs.map Ay)[A.length]?=some (Ay x):=by rw[h.eq,C0,mid rfl];rfl
 have tA:(rs.map Ay).take A.length=A.map Ay:=by rw[h.eq];exact LE ..
 have tB:(rs.map Ay).drop (A.length+1)=B.map Ay:=by rw[h.eq];exact Pd ..
 have hAB:A.length+B.length < 100:=by have:=hl;rw[h.eq,AC,DD] at this;exact Nat.lt_of_succ_lt this
 refine Cw rfl rfl (AX rfl (GJ rfl rfl (kR rfl rfl) rfl (tN rfl (tN rfl (tN rfl (tO rfl))))) (AX rfl (Ac (AH (C7 (r₁:=.val (.d (.int A.length))) (fun _=>rfl) (Eb (g:=fun s=>V.d (.key s)) (h:=fun s=>V.d (.key s)) (b:=fun s:Int=>decide (s<=k)) (l:=AW rs) (ys:=[("key",.d (.key k))]) (CF rfl (pR rfl rfl) (A2 (fun l=>some (l,[])) Ai)) rfl rfl rfl (.cons rfl .nil) rfl (fun s _ zs hz=>⟨GP (An rfl (pn hz rfl rfl) (pn hz rfl rfl) (PD rfl)),fun _=>kN hz rfl rfl⟩) ?_ rfl) ?_)) rfl)
  (AX rfl (GJ rfl rfl (AH (BF rfl (pR rfl rfl) (pR rfl rfl) (Ed ex))) rfl (tN rfl (tO rfl)))
  (AX rfl (Ac (Aw (ds:=(Bz k vals x.2.2).map AL) (C7 (fun _=>rfl) (Ag (Eb (g:=fun p=>V.d (AL p)) (h:=fun p=>V.d (AL p)) (b:=fun p=>!decide (p.1=k)) (l:=x.2.2) (lr:=((outP' k x.2.2).map AL).map V.d) (ys:=[("key",.d (.key k))]) (CF rfl (pR rfl rfl) (A2 (fun l=>some (l,[])) Ai)) rfl rfl rfl (.cons rfl .nil) rfl (fun p _ zs hz=>⟨GP (An rfl (iX (pn hz rfl rfl) rfl) (pn hz rfl rfl) rfl),fun _=>kN hz rfl rfl⟩) ?_ Ai.symm) (Eb (g:=fun v=>V.d (.str v)) (h:=fun v=>V.d (AL (k,v))) (b:=fun _=>true) (l:=vals) (lr:=((vals.map fun v=>(k,v)).map AL).map V.d) (ys:=[("key",.d (.key k))]) (CF rfl (pR rfl rfl) (A2 (fun l=>some (l,[])) Ai)) rfl rfl rfl (.cons rfl .nil) rfl (fun v _ zs hz=>⟨HD,fun _=>AH (Az (vs:=[.d (.key k),.d (.str v)]) (sN hz rfl rfl (sZ (pn hz rfl rfl))) rfl (by decide))⟩) ?_ ?_) (DB (xs:=(outP' k x.2.2).map AL) (ys:=(vals.map fun v=>(k,v)).map AL) rfl rfl rfl ?_)) (Uo ?_)) rfl (B6 _)) rfl)
  (AX rfl (Ac (Aw (ds:=(A++AD x (Bz k vals x.2.2)::B).map Ay) (Ag (Ag (BN (pR rfl rfl) (fun _=>BR) (BI (pR rfl rfl)) (tA▸Ee A.length)) (BS (sZ (Az (vs:=[.d (.int x.2.1),.d (.lst ((Bz k vals x.2.2).map AL))]) (sR rfl rfl (sO rfl rfl)) rfl (by decide))) rfl) (DB (xs:=A.map Ay) (ys:=[Ay (AD x (Bz k vals x.2.2))]) rfl rfl rfl ?_)) (BN (pR rfl rfl) (BI (Ag (pR rfl rfl) Ab rfl)) (fun _=>BR) (tB▸GS (A.length+1))) ?_) rfl (B6 _)) rfl) hr)))))
 ·unfold AW;rw[A4,List.length_tail];exact BH (AN (Aa (Nat.sub_le _ _) hl) (nL rfl))
 ·rw[<-h.count];exact A2 (fun n:Nat=>some (R.val (V.d (.int n)))) (A4 ..)
 ·exact BH (AN hp (nL rfl))
 ·exact A9 hv (nL rfl)
 ·rw[Ai,Ai];exact A2 (List.map _) (HW.mpr fun _ _=>rfl)
 ·rw[A4,A4,A4];exact Aa (DF (A9 (List.length_filter_le _ _) (BH hp)) hv) (nL rfl)
 ·rw[<-AK]
  exact UA (Un hn hv) (by rw[AC,A4];exact Aa (DF (A9 (List.length_filter_le _ _) (BH hp)) hv) (nL rfl))
 ·rw[A4];exact AN (CB (Aa (BJ A.length B.length) hAB)) (nL rfl)
 ·refine(DB (xs:=A.map Ay++[Ay (AD x (Bz k vals x.2.2))]) (ys:=B.map Ay) rfl rfl rfl ?_).trans (A2 (fun l:List D=>some (R.fresh (l.map V.d))) ?_)
  ·rw[AC,A4,A4,DG];exact AN (CB hAB) (nL rfl)
  ·rw[AK,AJ];rfl
end
open PySem
section
variable{K:Nat}{rs A B:List A1}{x:A1}{gs:List (Int×Nat)}{t:Option Int}{k:Int}{vals:List Str}{d:D}
theorem HI(A:List A1)(x:A1)(ps:List (Int×Str))(B:List A1):AW (A++AD x ps::B)=AW (A++x::B):=by
 rw[EI,EI A x]
 refine A2 (·++_) ?_
 unfold AW
 cases A with
 |nil=>rfl
 |cons a A=>show(A++_).map _=(A++_).map _;rw[AK,AK];rfl
structure SetAt(rs:List A1)(k:Int)(vals:List Str)(A:List A1)(x:A1)(B:List A1):Prop where
 loc:Loc rs k A x B
 nod:(x.2.2.map (·.1)).Nodup
 one:vals.length<=1
 len:rs.length < 100
 ln:x.2.2.length < 50
noncomputable def HJ(rs:List A1)(gs:List (Int×Nat))(t:Option Int)(k:Int)(vals:List Str)(d:D):Prop:=Cl gl JV 160 [.d (CJ rs gs t),.d (.key k),.d (.tup (vals.map .str))] [] (.val (.d d)) []
theorem GT{σ:List Cell}(ps:List (Int×Str)):GC σ "len" (.val (.d (.lst (ps.map AL))))=some (.val (.d (.int ps.length))):=by
 have:GC σ "len" (.val (.d (.lst (ps.map AL))))=some (.val (.d (.int ((ps.map AL).map V.d).length))):=rfl
 rw[this,A4,A4]
theorem Pf(h:SetAt rs k vals A x B)(h4:(Bz k vals x.2.2).length<=4)(h2:2<=(Bz k vals x.2.2).length\/gs=[]):HJ rs gs t k vals (CJ (A++AD x (Bz k vals x.2.2)::B) gs t):=by
 refine Cl.u (Pe (K:=20) h.loc h.nod h.one h.len h.ln (AX rfl (B1 (An rfl (C7 (fun _=>rfl) (pR rfl rfl) (GT _)) Ab (Dx (decide_eq_false fun q=>absurd (Bp.mp q) (C2.mpr h4)))) BO) (AX (xs':=Um (CJ rs gs t) k vals (DX (A++AD x (Bz k vals x.2.2)::B)) (Dy rs) gs t A.length x.2.1 (Bz k vals x.2.2)) (σ':=[]) rfl (B1 ?_ BO) (CR rfl (Bf (Az (v:=.d (CJ (A++AD x (Bz k vals x.2.2)::B) gs t)) (sR rfl rfl (sR rfl rfl (sR rfl rfl (sO rfl rfl)))) ?_ (by decide))) rfl)))) rfl
 ·rcases h2 with h2 |rfl
  ·exact CM (FM (An rfl (C7 (fun _=>rfl) (pR rfl rfl) (GT _)) Ab (EF (decide_eq_false fun q=>absurd (Bp.mp q) (C2.mpr h2)))))
  ·by_cases q:(Bz k vals x.2.2).length < 2
   ·exact CM (Ds (An rfl (C7 (fun _=>rfl) (pR rfl rfl) (GT _)) Ab (EF (Ae (Bp.mpr q)))) (Dt (Dq (fun _=>rfl) (pR rfl rfl) rfl)))
   ·exact CM (FM (An rfl (C7 (fun _=>rfl) (pR rfl rfl) (GT _)) Ab (EF (decide_eq_false fun z=>q (Bp.mp z)))))
 ·unfold CJ Dy;rw[HI,<-h.loc.eq];rfl
theorem Ph(h:SetAt rs k vals A x B)(h4:4 < (Bz k vals x.2.2).length)(hs:Cl gl Kv 120 [.d (DX (A++AD x (Bz k vals x.2.2)::B)),.d (Dy rs),.d (CY gs),.d (Ce t),.d (.int A.length)] [] (.val (.d d)) []):HJ rs gs t k vals d:=
 Cl.u (Pe (K:=120) h.loc h.nod h.one h.len h.ln (CR rfl (B4 (An rfl (C7 (fun _=>rfl) (pR rfl rfl) (GT _)) Ab (Dx (Ae (Bp.mpr h4)))) (Du (Bf (Br rfl (Bi (by decide)) rfl rfl (sR rfl rfl (sR rfl rfl (sR rfl rfl (sR rfl rfl (sO rfl rfl))))) rfl (hs.u rfl))))) rfl)) rfl
theorem dG(h:SetAt rs k vals A x B)(h2:(Bz k vals x.2.2).length < 2){g:Int×Nat}(hs:Cl gl Cd 120 [.d (DX (A++AD x (Bz k vals x.2.2)::B)),.d (Dy rs),.d (CY (g::gs)),.d (Ce t),.d (.int A.length)] [] (.val (.d d)) []):HJ rs (g::gs) t k vals d:=
 Cl.u (Pe (K:=120) h.loc h.nod h.one h.len h.ln (AX rfl (B1 (An rfl (C7 (fun _=>rfl) (pR rfl rfl) (GT _)) Ab (Dx (decide_eq_false fun q=>absurd (AN (Bp.mp q) h2) (by decide)))) BO) (CR rfl (B4 (CM (Ds (An rfl (C7 (fun _=>rfl) (pR rfl rfl) (GT _)) Ab (EF (Ae (Bp.mpr h2)))) (Dt (Dq (fun _=>rfl) (pR rfl rfl) rfl)))) (Du (Bf (Br rfl (Bi (by decide)) rfl rfl (sR rfl rfl (sR rfl rfl (sR rfl rfl (sR rfl rfl (sO rfl rfl))))) rfl (hs.u rfl))))) rfl))) rfl
end
open PySem
section
variable{K:Nat}{A B:List A1}{x:A1}{gs P S:List (Int×Nat)}{t:Option Int}{k g st:Int}{d:D}{m m2 m3 c gi:Nat}{a b e:Int×Str}{ps:List (Int×Str)}
noncomputable def B7(A:List A1)(x:A1)(a b e:Int×Str)(ps:List (Int×Str))(m:Nat)(B:List A1):List A1:=A++AD x [a,b]::(e.1,(m:Int),e::ps)::B
noncomputable def dH(lv sp:D)(gs:List (Int×Nat))(t:Option Int)(i:Nat)(no:Int)(ps:List (Int×Str))(mo:D):List (Str×V):=[("leaves",.d lv),("seps",.d sp),("groups",.d (CY gs)),("top",.d (Ce t)),("at",.d (.int i)),("no",.d (.int no)),("pairs",.d (.lst (ps.map AL))),("more",.d mo)]
theorem Pi(A:List A1)(x:A1)(B:List A1):((AW (A++x::B)).map D.key).take A.length=(AW (A++[x])).map .key:=by
 rw[EI,AK,List.take_left' (by rw[A4,DC])]
theorem dI(A:List A1)(x:A1)(B:List A1):((AW (A++x::B)).map D.key).drop A.length=(B.map (·.1)).map .key:=by
 rw[EI,AK,List.drop_left' (by rw[A4,DC])]
theorem Pj:AW (B7 A x a b e ps m B)=AW (A++[x])++e.1::B.map (·.1):=by
 unfold B7
 rw[HI,EI];rfl
theorem Pk(h:Free (Ck (A++AD x (a::b::e::ps)::B) gs t) m)(hl:A.length+B.length+gs.length < 90)
 (hr:CD gl Kv (K+60) 4 (dH (DX (B7 A x a b e ps m B)) (Dy (B7 A x a b e ps m B)) gs t A.length x.2.1 (a::b::e::ps) (Ay (0,(m:Int),e::ps))) [] (.val (.d d))):Cl gl Kv (K+65) [.d (DX (A++AD x (a::b::e::ps)::B)),.d (Dy (A++x::B)),.d (CY gs),.d (Ce t),.d (.int A.length)] [] (.val (.d d)) []:=by
 have ex:((A++AD x (a::b::e::ps)::B).map Ay)[A.length]?=some (Ay (AD x (a::b::e::ps))):=by rw[C0,mid rfl];rfl
 have hA:A.length+B.length < 90:=Aa (BJ _ _) hl
 have hA':A.length < 90:=Aa (BJ _ _) hA
 have hm:=NC (t:=t) h (by rw[AC,DD];exact Aa (BQ (DG (A.length+B.length) 1 gs.length)) (AN (CB hl) (nL rfl)))
 refine Cw rfl rfl (AX rfl (GJ rfl rfl (AH (BF rfl (pR rfl rfl) (pR rfl rfl) (Ed ex))) rfl (tN rfl (tO rfl)))
  (AX rfl (Ac (AH (Az (v:=.d (Ay (0,(m:Int),e::ps))) (sK (Br rfl (Bi (by decide)) rfl rfl (sR rfl rfl (sR rfl rfl (sO rfl rfl))) rfl (hm.up (A9 (by decide:40<=60) (G7 60 K)))) (BT (Aw (BN (pR rfl rfl) (BI Ab) (fun _=>BR) (GS 2)) rfl (B6 _)) Bq)) rfl (by decide))) rfl)
  (AX rfl (Ac (Aw (ds:=(B7 A x a b e ps m B).map Ay) (Ag (Ag (BN (pR rfl rfl) (fun _=>BR) (BI (pR rfl rfl)) (LE Ay A _▸Ee A.length)) (BS (sK (Az (v:=.d (Ay (AD x [a,b]))) (sR rfl rfl (BT (Aw (BN (pR rfl rfl) (fun _=>BR) (BI Ab) (Ee 2)) rfl (B6 _)) Bq)) rfl (by decide)) (sO rfl rfl)) rfl) (DB (xs:=A.map Ay) (ys:=[Ay (AD x [a,b]),Ay (e.1,(m:Int),e::ps)]) rfl rfl rfl ?_)) (BN (pR rfl rfl) (BI (Ag (pR rfl rfl) Ab rfl)) (fun _=>BR) (Pd Ay A _ B▸GS (A.length+1))) ?_) rfl (B6 _)) rfl)
  (AX rfl (Ac (Aw (ds:=(AW (B7 A x a b e ps m B)).map .key) (Ag (Ag (BN (pR rfl rfl) (fun _=>BR) (BI (pR rfl rfl)) (Pi A x B▸Ee A.length)) (BS (sZ (iX (iX (pR rfl rfl) (Ed (a:=2) (w:=AL e) rfl)) rfl)) rfl) (DB (xs:=(AW (A++[x])).map .key) (ys:=[.key e.1]) rfl rfl rfl ?_)) (BN (pR rfl rfl) (BI (pR rfl rfl)) (fun _=>BR) (dI A x B▸GS A.length)) ?_) rfl (B6 _)) rfl) hr))))
 ·rw[A4];exact AN (Fc hA' 2) (nL rfl)
 ·refine(DB (xs:=A.map Ay++[Ay (AD x [a,b]),Ay (e.1,(m:Int),e::ps)]) (ys:=B.map Ay) rfl rfl rfl ?_).trans (A2 (fun l:List D=>some (R.fresh (l.map V.d))) ?_)
  ·rw[AC,A4,A4,DG];exact AN (Fc hA 2) (nL rfl)
  ·unfold B7;rw[AK,AJ];rfl
 ·rw[A4,DC];exact AN (CB hA') (nL rfl)
 ·refine(DB (xs:=(AW (A++[x])).map .key++[.key e.1]) (ys:=(B.map (·.1)).map .key) rfl rfl rfl ?_).trans (A2 (fun l:List D=>some (R.fresh (l.map V.d))) ?_)
  ·rw[AC,A4,DC,A4,A4,DG];exact AN (CB hA) (nL rfl)
  ·rw[Pj,AK,AJ];rfl
end
open PySem
section
variable{K:Nat}{A B:List A1}{x:A1}{gs P S:List (Int×Nat)}{t:Option Int}{k g st:Int}{d:D}{m m2 m3 c:Nat}{a b e:Int×Str}{ps:List (Int×Str)}{g0:Int×Nat}
noncomputable def NE(A:List A1)(x:A1)(l:List (Int×Str))(B:List A1)(gs:List (Int×Nat))(t:Option Int)(d:D):Prop:=Cl gl Kv 120 [.d (DX (A++AD x l::B)),.d (Dy (A++x::B)),.d (CY gs),.d (Ce t),.d (.int A.length)] [] (.val (.d d)) []
theorem LF:(B7 A x a b e ps m B).length=A.length+B.length+2:=by unfold B7;rw[AC];rfl
theorem dJ(h:Free (Ck (A++AD x (a::b::e::ps)::B) [] .none) m)(h2:Free (Ck (B7 A x a b e ps m B) [] .none) m2)(hl:A.length+B.length < 90):NE A x (a::b::e::ps) B [] .none (CJ (B7 A x a b e ps m B) [(m2,2)] .none):=by
 have hm:=NC (gs:=[]) (t:=.none) h2 (by rw[LF];exact AN (Fc hl 2) (nL rfl))
 exact Cl.u (Pk (K:=10) h hl (CR rfl (B4 (Jc (Dq (fun _=>rfl) (pR rfl rfl) rfl) rfl) (Du (Bf (Az (v:=.d (CJ (B7 A x a b e ps m B) [(m2,2)] .none)) (sR rfl rfl (sR rfl rfl (BT (Aw (ds:=[Bu (m2,2)]) (BS (sZ (Az (v:=.d (Bu (m2,2))) (sK (Br rfl (Bi (by decide)) rfl rfl (sR rfl rfl (BT (Aw (ds:=[]) (BS Bq rfl) rfl rfl) (sZ HA))) rfl (hm.u rfl)) (sZ Ab)) rfl (by decide))) rfl) rfl rfl) (sZ HA)))) rfl (by decide))))) rfl)) rfl
theorem dK:((P++(g,c)::S).map Bu)[P.length]?=some (Bu (g,c)):=by rw[C0,mid rfl];rfl
theorem dL(hg:g0::gs=P++(g,c)::S)(h:Free (Ck (A++AD x (a::b::e::ps)::B) (g0::gs) t) m)(hl:A.length+B.length+(g0::gs).length < 90)(hG:Cl gl IT 20 [.d (CY (g0::gs)),.d (.int A.length)] [] (.val (.d (.tup [.int P.length,.int st]))) [])(hc:c < 5):NE A x (a::b::e::ps) B (g0::gs) t (CJ (B7 A x a b e ps m B) (P++(g,c+1)::S) t):=by
 have ln:P.length+S.length+1 < 90:=by
  have:=A2 List.length hg
  rw[AC] at this
  exact Aa (A9 (BQ this.symm) (G7 _ _)) hl
 have at':((g0::gs).map Bu)[P.length]?=some (Bu (g,c)):=by rw[hg];exact dK
 have tP:((g0::gs).map Bu).take P.length=P.map Bu:=by rw[hg];exact LE ..
 have tS:((g0::gs).map Bu).drop (P.length+1)=S.map Bu:=by rw[hg];exact Pd ..
 refine Cl.u (Pk (K:=10) h hl (AX rfl (B1 (Jc (Dq (fun _=>rfl) (pR rfl rfl) rfl) rfl) BO) (AX rfl (GJ rfl rfl (AH (Br rfl (Bi (by decide)) rfl rfl (sR rfl rfl (sO rfl rfl)) rfl (hG.u rfl))) rfl (tN rfl (tO rfl))) (AX rfl (GJ rfl rfl (AH (BF rfl (pR rfl rfl) (pR rfl rfl) (Ed at'))) rfl (tN rfl (tO rfl))) (CR rfl (B4 (An rfl (pR rfl rfl) Ab (EF (Ae (Bp.mpr hc)))) (Du (Bf (Az (v:=.d (CJ (B7 A x a b e ps m B) (P++(g,c+1)::S) t)) (sR rfl rfl (sR rfl rfl (BT (Aw (ds:=(P++(g,c+1)::S).map Bu) (Ag (Ag (BN (pR rfl rfl) (fun _=>BR) (BI (pR rfl rfl)) (tP▸Ee P.length)) (BS (sZ (Az (v:=.d (Bu (g,c+1))) (sR rfl rfl (sZ (Ag (pR rfl rfl) Ab rfl))) rfl (by decide))) rfl) (DB (xs:=P.map Bu) (ys:=[Bu (g,c+1)]) rfl rfl rfl ?_)) (BN (pR rfl rfl) (BI (Ag (pR rfl rfl) Ab rfl)) (fun _=>BR) (tS▸GS (P.length+1))) ?_) rfl (B6 _)) (sO rfl rfl)))) rfl (by decide))))) rfl))))) rfl
 ·rw[A4];exact AN (Aa (DH (BJ _ S.length)) ln) (nL rfl)
 ·refine(DB (xs:=P.map Bu++[Bu (g,c+1)]) (ys:=S.map Bu) rfl rfl rfl ?_).trans (A2 (fun l:List D=>some (R.fresh (l.map V.d))) ?_)
  ·rw[AC,A4,A4,DG];exact AN ln (nL rfl)
  ·rw[AK,AJ];rfl
theorem dM(h:Free (Ck (A++AD x (a::b::e::ps)::B) [(g,5)] .none) m)(h2:Free (Ck (B7 A x a b e ps m B) [(g,5)] .none) m2)(h3:Free (Ck (B7 A x a b e ps m B) [(g,3),(m2,3)] .none) m3)(hl:A.length+B.length < 80)(hA:A.length < 5):NE A x (a::b::e::ps) B [(g,5)] .none (CJ (B7 A x a b e ps m B) [(g,3),(m2,3)] (some m3)):=by
 have hm:=NC h2 (by rw[LF];exact AN (Fc hl 3) (nL rfl))
 have hm':=NC h3 (by rw[LF];exact AN (Fc hl 4) (nL rfl))
 have hG:Cl gl IT 20 [.d (CY [(g,5)]),.d (.int A.length)] [] (.val (.d (cond (decide (A.length < 5)) (.tup [.int 0,.int 0]) (.tup [.int 1,.int (5:Nat)])))) []:=ND
 rw[Ae hA] at hG
 exact Cl.u (Pk (K:=10) h (AN (CB hl) (nL rfl)) (AX rfl (B1 (Jc (Dq (fun _=>rfl) (pR rfl rfl) rfl) rfl) BO) (AX rfl (GJ rfl rfl (AH (Br rfl (Bi (by decide)) rfl rfl (sR rfl rfl (sO rfl rfl)) rfl (hG.u rfl))) rfl (tN rfl (tO rfl))) (AX rfl (GJ rfl rfl (AH (BF rfl (pR rfl rfl) (pR rfl rfl) rfl)) rfl (tN rfl (tO rfl))) (AX rfl (B1 (An rfl (pR rfl rfl) Ab (EF rfl)) BO) (AX rfl (Ac (Aw (ds:=[Bu (g,3),Bu (m2,3)]) (BS (sK (Az (v:=.d (Bu (g,3))) (sR rfl rfl (sZ Ab)) rfl (by decide)) (sZ (Az (v:=.d (Bu (m2,3))) (sK (Br rfl (Bi (by decide)) rfl rfl (sR rfl rfl (sR rfl rfl (sO rfl rfl))) rfl (hm.u rfl)) (sZ Ab)) rfl (by decide)))) rfl) rfl rfl) rfl) (CR rfl (Bf (Az (v:=.d (CJ (B7 A x a b e ps m B) [(g,3),(m2,3)] (some m3))) (sR rfl rfl (sR rfl rfl (sR rfl rfl (sZ (Br rfl (Bi (by decide)) rfl rfl (sR rfl rfl (sR rfl rfl (sZ HA))) rfl (hm'.u rfl)))))) rfl (by decide))) rfl))))))) rfl
end
open PySem
section
variable{K:Nat}{F C E:List A1}{x y z:A1}{gs P S:List (Int×Nat)}{t:Option Int}{g:Int}{sp d:D}{a gi s c l en:Nat}{r:R}{bl br:Bool}
noncomputable def Ey(F:List A1)(sp:D)(gs:List (Int×Nat))(t:Option Int)(a gi s en j cut:Nat):List (Str×V):=[("leaves",.d (DX F)),("seps",.d sp),("groups",.d (CY gs)),("top",.d (Ce t)),("at",.d (.int a)),("g",.d (.int gi)),("start",.d (.int s)),("end",.d (.int en)),("j",.d (.int j)),("cut",.d (.int cut))]
noncomputable def Jt(F:List A1)(a e:Nat)(b:Bool):Prop:=(e<=a+1/\b=false)\/∃z:A1,a+1 < e/\F[a+1]?=some z/\decide (2 < z.2.2.length)=b
noncomputable def NF(F:List A1)(a s l:Nat)(b:Bool):Prop:=(a<=s/\b=false)\/∃(a':Nat) (y:A1),a=a'+1/\s < a/\F[a']?=some y/\decide (2 < y.2.2.length)=b/\l=y.2.2.length
theorem Pl{σ:List Cell}{i:Nat}(h:F[i]?=some y):CL σ (.val (.d (DX F))) (.val (.d (.int i)))=some (.d (Ay y)):=Ed (by rw[C0,h];rfl)
theorem LG{e:Expr}{xs:List (Str×V)}{i:Nat}{p1 p2 p3 p4:Pos}{k:Nat}(hl:AG "leaves" xs=some (.d (DX F)))(h:F[i]?=some y)(hs:IH e=.none)(he:Ev gl Cd (K+2) e ⟨xs,[]⟩ (.val (.d (.int i))) ⟨xs,[]⟩):Ev gl Cd (K+4) (.Subscript (.Subscript (.Name "leaves" p1) e p2) (.Constant (.int 1) k p3) p4) ⟨xs,[]⟩ (.val (.d (.lst (y.2.2.map AL)))) ⟨xs,[]⟩:=iX (BF hs (pR rfl hl) he (Pl h)) rfl
theorem dN{fn:Fn}{e1 e2:Expr}{xs:List (Str×V)}{p q:Pos}{i j k:Int}{σ:List Cell}(hE:∀n,Fj gl (AU gl (n+K)) fn "max" [e1,e2] ⟨xs,σ⟩=Np (AU gl (n+K)) fn (e1,e2) ⟨xs,σ⟩)(h1:Ev gl fn K e1 ⟨xs,σ⟩ (.val (.d (.int i))) ⟨xs,σ⟩)(h2:Ev gl fn K e2 ⟨xs,σ⟩ (.val (.d (.int j))) ⟨xs,σ⟩)(hk:(if i < j then j else i)=k):Ev gl fn (K+1) (.Call (.Name "max" p) [e1,e2] [] q) ⟨xs,σ⟩ (.val (.d (.int k))) ⟨xs,σ⟩:=fun n=>(hE n).trans (bnd (a:=(i,⟨xs,σ⟩)) (bnd (bnd (h1 n) rfl) rfl) (AQ (a:=(j,⟨xs,σ⟩)) (bnd (bnd (h2 n) rfl) rfl) (by rw[<-hk])))
theorem dO(hG:Cl gl IT 20 [.d (CY gs),.d (.int a)] [] (.val (.d (.tup [.int gi,.int s]))) [])(hg:gs[gi]?=some (g,c))(hr:Jt F a (s+c) br)(hl:NF F a s l bl)
 (hk:CD gl Cd (K+40) 4 (Ey F sp gs t a gi s (s+c) (cond bl a (cond br (a+1) (if a < s+1 then s+1 else a))) (cond bl (l - 1) (cond br 2 0))) [] r):Cl gl Cd (K+45) [.d (DX F),.d sp,.d (CY gs),.d (Ce t),.d (.int a)] [] r []:=by
 have ge:(gs.map Bu)[gi]?=some (Bu (g,c)):=by rw[C0,hg];rfl
 have mx:(if (a:Int) < (s:Int)+1 then(s:Int)+1 else(a:Int))=((if a < s+1 then s+1 else a:Nat):Int):=by
  by_cases h:a < s+1
  ·rw[A5 h,A5 (show(a:Int) < (s:Int)+1 from Bp.mpr h)];rfl
  ·rw[A3 h,A3 fun q:(a:Int) < (s:Int)+1=>h (Bp.mp q)]
 have s2:X1 gl Cd (K+41) (BV Cd 2) ⟨Ey F sp gs t a gi s (s+c) (if a < s+1 then s+1 else a) 0,[]⟩ .next ⟨Ey F sp gs t a gi s (s+c) (cond br (a+1) (if a < s+1 then s+1 else a)) (cond br 2 0),[]⟩:=by
  rcases hr with⟨h1,rfl⟩ |⟨z,h1,h2,hb⟩
  ·exact B1 (CM (FM (An rfl (Ag (pR rfl rfl) Ab rfl) (pR rfl rfl) (EF (decide_eq_false fun q=>absurd (Bp.mp q) (C2.mpr h1)))))) BO
  ·have tt:Tt gl Cd (K+41) (IU (BV Cd 2)) ⟨Ey F sp gs t a gi s (s+c) (if a < s+1 then s+1 else a) 0,[]⟩ br ⟨Ey F sp gs t a gi s (s+c) (if a < s+1 then s+1 else a) 0,[]⟩:=CM (Ds (An rfl (Ag (pR rfl rfl) Ab rfl) (pR rfl rfl) (EF (Ae (Bp.mpr h1)))) (Dt (An rfl (C7 (fun _=>rfl) (LG rfl h2 rfl (Ag (pR rfl rfl) Ab rfl)) (GT _)) Ab (Dx ((decide_eq_decide.mpr Bp).trans hb)))))
   cases br with
   |true=>exact B4 tt (xO (Cu rfl rfl (BA (AH (Ag (pR rfl rfl) Ab rfl)) (BA (AH Ab) Cv)) (tN rfl (tO rfl))))
   |false=>exact B1 tt BO
 have s3:∀{j cut:Nat},X1 gl Cd (K+40) (BV Cd 3) ⟨Ey F sp gs t a gi s (s+c) j cut,[]⟩ .next ⟨Ey F sp gs t a gi s (s+c) (cond bl a j) (cond bl (l - 1) cut),[]⟩:=fun {j cut}=>by
  rcases hl with⟨h1,rfl⟩ |⟨a',y,rfl,h1,h2,hb,rfl⟩
  ·exact B1 (CM (FM (An rfl (pR rfl rfl) (pR rfl rfl) (Dx (decide_eq_false fun q=>absurd (Bp.mp q) (C2.mpr h1)))))) BO
  ·have tt:Tt gl Cd (K+40) (IU (BV Cd 3)) ⟨Ey F sp gs t (a'+1) gi s (s+c) j cut,[]⟩ bl ⟨Ey F sp gs t (a'+1) gi s (s+c) j cut,[]⟩:=CM (Ds (An rfl (pR rfl rfl) (pR rfl rfl) (Dx (Ae (Bp.mpr h1)))) (Dt (An rfl (C7 (fun _=>rfl) (LG rfl h2 rfl (EG rfl rfl)) (GT _)) Ab (Dx ((decide_eq_decide.mpr Bp).trans hb)))))
   cases bl with
   |true=>
    have hy:1<=y.2.2.length:=BH (AN (nL rfl) (DI hb))
    exact B4 tt (xO (Cu rfl rfl (BA (kR rfl rfl) (BA (AH (Ag (C7 (fun _=>rfl) (LG rfl h2 rfl (EG rfl rfl)) (GT _)) Ab (A2 (fun i=>some (R.val (V.d (.int i)))) (Int.ofNat_sub hy).symm))) Cv)) (tN rfl (tO rfl))))
   |false=>exact B1 tt BO
 exact Cw rfl rfl (AX rfl (GJ rfl rfl (AH (Br rfl (Bi (by decide)) rfl rfl (sR rfl rfl (sO rfl rfl)) rfl (hG.up (A9 (by decide:20<=40) (G7 40 (K+2)))))) rfl (tN rfl (tO rfl)))
  (AX (xs':=Ey F sp gs t a gi s (s+c) (if a < s+1 then s+1 else a) 0) rfl (Cu rfl rfl (BA (AH (Ag (pR rfl rfl) (iX (BF rfl (pR rfl rfl) (pR rfl rfl) (Ed ge)) rfl) rfl)) (BA (AH (dN (i:=a) (j:=(s:Int)+1) (fun _=>rfl) (pR rfl rfl) (Ag (pR rfl rfl) Ab rfl) mx)) (BA (AH Ab) Cv))) (tN rfl (tN rfl (tO rfl))))
  (AX rfl s2 (AX rfl s3 hk))))
end
open PySem
section
variable{K:Nat}{C E:List A1}{x y z:A1}{gs gs':List (Int×Nat)}{t t':Option Int}{sp:D}{a gi s c n en:Nat}{e:Int×Str}
theorem Up(C:List A1)(y z:A1)(E:List A1):((AW (C++y::z::E)).map D.key).drop (C.length+1)=(E.map (·.1)).map .key:=by
 rw[EI,AK,<-List.drop_drop,List.drop_left' (by rw[A4,DC])];rfl
theorem Uq(C:List A1)(y z:A1)(E:List A1):((C++y::z::E).map Ay).drop (C.length+2)=E.map Ay:=by
 rw[AK,<-List.drop_drop,List.drop_left' (A4 _)];rfl
noncomputable def G1(C:List A1)(y z:A1)(n:Nat)(e:Int×Str)(E:List A1):List A1:=C++AD y ((y.2.2++z.2.2).take n)::(e.1,z.2.1,(y.2.2++z.2.2).drop n)::E
theorem dP:AW (G1 C y z n e E)=AW (C++[y])++e.1::E.map (·.1):=by
 unfold G1
 rw[HI,EI];rfl
noncomputable def NG(C:List A1)(y z:A1)(E:List A1)(gs:List (Int×Nat))(t:Option Int)(a gi s en n:Nat):List (Str×V):=Ey (C++y::z::E) (Dy (C++y::z::E)) gs t a gi s en (C.length+1) n
theorem Ur(hl:y.2.2.length+z.2.2.length < 100):X1 gl Cd (K+30) (BV Cd 4) ⟨NG C y z E gs t a gi s en n,[]⟩ .next ⟨NG C y z E gs t a gi s en n++[(("both" : Str),V.d (.lst ((y.2.2++z.2.2).map AL)))],[]⟩:=by
 have h0:(C++y::z::E)[C.length]?=some y:=mid rfl
 have h1:(C++y::z::E)[C.length+1]?=some z:=by rw[HX (BJ _ _),Nat.add_sub_cancel_left];rfl
 refine Ac (Aw (ds:=(y.2.2++z.2.2).map AL) (Ag (LG rfl h0 rfl (EG rfl rfl)) (LG rfl h1 rfl (pR rfl rfl)) ?_) rfl (B6 _)) rfl
 rw[AK]
 exact DB rfl rfl rfl (by rw[A4,A4];exact AN hl (nL rfl))
theorem Us(hl:y.2.2.length+z.2.2.length < 100)(hE:C.length+E.length < 90)(hn:0 < n)(he:(y.2.2++z.2.2)[n]?=some e):CD gl Cd 40 4 (NG C y z E gs t a gi s en n) [] (.val (.d (CJ (G1 C y z n e E) gs t))):=by
 have h0:(C++y::z::E)[C.length]?=some y:=mid rfl
 have h1:(C++y::z::E)[C.length+1]?=some z:=by rw[HX (BJ _ _),Nat.add_sub_cancel_left];rfl
 have hC:C.length < 90:=Aa (BJ _ _) hE
 have e0:∀{K:Nat} {xs:List (Str×V)} {e:Expr} {i k:Nat} {w:A1} {p1 p2 p3 p4:Pos},AG "leaves" xs=some (.d (DX (C++y::z::E)))->(C++y::z::E)[i]?=some w->IH e=.none->Ev gl Cd (K+2) e ⟨xs,[]⟩ (.val (.d (.int i))) ⟨xs,[]⟩->Ev gl Cd (K+4) (.Subscript (.Subscript (.Name "leaves" p1) e p2) (.Constant (.int 0) k p3) p4) ⟨xs,[]⟩ (.val (.d (.int w.2.1))) ⟨xs,[]⟩:=fun hx hw hs he=>iX (BF hs (pR rfl hx) he (Pl hw)) rfl
 have eb:((y.2.2++z.2.2).map AL)[n]?=some (AL e):=by rw[C0,he];rfl
 refine CD.up (AX rfl (Ur hl) (CR rfl (B4 (An rfl (pR rfl rfl) Ab (Dx (Ae (Bp.mpr hn)))) (B9 (Ac (Aw (ds:=[Ay (AD y ((y.2.2++z.2.2).take n)),Ay (e.1,z.2.1,(y.2.2++z.2.2).drop n)]) (BS (sK (Az (v:=.d (Ay (AD y ((y.2.2++z.2.2).take n)))) (sK (e0 rfl h0 rfl (EG rfl rfl)) (BT (Aw (BN (pR rfl rfl) (fun _=>BR) (BI (pR rfl rfl)) (Ee n)) rfl (B6 _)) Bq)) (by rw[<-EO];rfl) (by decide)) (sZ (Az (v:=.d (Ay (e.1,z.2.1,(y.2.2++z.2.2).drop n))) (sK (e0 rfl h1 rfl (pR rfl rfl)) (BT (Aw (BN (pR rfl rfl) (BI (pR rfl rfl)) (fun _=>BR) (GS n)) rfl (B6 _)) Bq)) (by rw[<-List.map_drop];rfl) (by decide)))) rfl) rfl rfl) rfl) (Du (Bf (Az (v:=.d (CJ (G1 C y z n e E) gs t)) (BT (Aw (ds:=(G1 C y z n e E).map Ay) (Ag (Ag (BN (pR rfl rfl) (fun _=>BR) (BI (EG rfl rfl)) (LE Ay C _▸Ee C.length)) (pR rfl rfl) (DB (xs:=C.map Ay) (ys:=[Ay (AD y ((y.2.2++z.2.2).take n)),Ay (e.1,z.2.1,(y.2.2++z.2.2).drop n)]) rfl rfl rfl ?_)) (BN (pR rfl rfl) (BI (Ag (pR rfl rfl) Ab rfl)) (fun _=>BR) (Uq C y z E▸GS (C.length+2))) ?_) rfl (B6 _)) (BT (Aw (ds:=(AW (G1 C y z n e E)).map .key) (Ag (Ag (BN (pR rfl rfl) (fun _=>BR) (BI (EG rfl rfl)) (Pi C y (z::E)▸Ee C.length)) (BS (sZ (iX (BF rfl (pR rfl rfl) (pR rfl rfl) (Ed eb)) rfl)) rfl) (DB (xs:=(AW (C++[y])).map .key) (ys:=[.key e.1]) rfl rfl rfl ?_)) (BN (pR rfl rfl) (BI (pR rfl rfl)) (fun _=>BR) (Up C y z E▸GS (C.length+1))) ?_) rfl (B6 _)) (sR rfl rfl (sO rfl rfl)))) rfl (by decide)))))) rfl)) (Nat.le_of_ble_eq_true rfl:31<=40)
 ·rw[A4];exact AN (Fc hC 2) (nL rfl)
 ·refine(DB (xs:=C.map Ay++[Ay (AD y ((y.2.2++z.2.2).take n)),Ay (e.1,z.2.1,(y.2.2++z.2.2).drop n)]) (ys:=E.map Ay) rfl rfl rfl ?_).trans (A2 (fun l:List D=>some (R.fresh (l.map V.d))) ?_)
  ·rw[AC,A4,A4,DG];exact AN (Fc hE 2) (nL rfl)
  ·unfold G1;rw[AK,AJ];rfl
 ·rw[A4,DC];exact AN (CB hC) (nL rfl)
 ·refine(DB (xs:=(AW (C++[y])).map .key++[.key e.1]) (ys:=(E.map (·.1)).map .key) rfl rfl rfl ?_).trans (A2 (fun l:List D=>some (R.fresh (l.map V.d))) ?_)
  ·rw[AC,A4,DC,A4,A4,DG];exact AN (CB hE) (nL rfl)
  ·rw[dP,AK,AJ];rfl
theorem Ut(hl:y.2.2.length+z.2.2.length < 100)(hE:C.length+E.length < 90)(hS:Cl gl OT 60 [.d (CY gs),.d (.int gi),.d (Ce t)] [] (.val (.d (.tup [CY gs',Ce t']))) []):CD gl Cd 70 4 (NG C y z E gs t a gi s en 0) [] (.val (.d (CJ (C++AD y (y.2.2++z.2.2)::E) gs' t'))):=by
 have h0:(C++y::z::E)[C.length]?=some y:=mid rfl
 have hC:C.length < 90:=Aa (BJ _ _) hE
 refine CD.up (AX (K:=65) rfl (Ur hl) (AX rfl (B1 (An rfl (pR rfl rfl) Ab (Dx rfl)) BO) (AX rfl (Ac (Aw (ds:=(C++AD y (y.2.2++z.2.2)::E).map Ay) (Ag (Ag (BN (pR rfl rfl) (fun _=>BR) (BI (EG rfl rfl)) (LE Ay C _▸Ee C.length)) (BS (sZ (Az (v:=.d (Ay (AD y (y.2.2++z.2.2)))) (sK (iX (BF rfl (pR rfl rfl) (EG rfl rfl) (Pl h0)) rfl) (sO rfl rfl)) rfl (by decide))) rfl) (DB (xs:=C.map Ay) (ys:=[Ay (AD y (y.2.2++z.2.2))]) rfl rfl rfl ?_)) (BN (pR rfl rfl) (BI (Ag (pR rfl rfl) Ab rfl)) (fun _=>BR) (Uq C y z E▸GS (C.length+2))) ?_) rfl (B6 _)) rfl) (CR rfl (Bf (Ag (x:=.val (.d (CJ (C++AD y (y.2.2++z.2.2)::E) gs' t'))) (Az (v:=.d (.tup [DX (C++AD y (y.2.2++z.2.2)::E),Dy (C++AD y (y.2.2++z.2.2)::E)])) (sR rfl rfl (BT (Aw (ds:=(AW (C++AD y (y.2.2++z.2.2)::E)).map .key) (Ag (BN (pR rfl rfl) (fun _=>BR) (BI (EG rfl rfl)) (Pi C y (z::E)▸Ee C.length)) (BN (pR rfl rfl) (BI (pR rfl rfl)) (fun _=>BR) (Up C y z E▸GS (C.length+1))) ?_) rfl (B6 _)) Bq)) rfl (by decide)) (Br rfl (Bi (by decide)) rfl rfl (sR rfl rfl (sR rfl rfl (sO rfl rfl))) rfl (hS.u rfl)) rfl)) rfl)))) (Nat.le_of_ble_eq_true rfl:66<=70)
 ·rw[A4];exact AN (CB hC) (nL rfl)
 ·refine(DB (xs:=C.map Ay++[Ay (AD y (y.2.2++z.2.2))]) (ys:=E.map Ay) rfl rfl rfl ?_).trans (A2 (fun l:List D=>some (R.fresh (l.map V.d))) ?_)
  ·rw[AC,A4,A4,DG];exact AN (CB hE) (nL rfl)
  ·rw[AK,AJ];rfl
 ·refine(DB (xs:=(AW (C++[y])).map .key) (ys:=(E.map (·.1)).map .key) rfl rfl rfl ?_).trans (A2 (fun l:List D=>some (R.fresh (l.map V.d))) ?_)
  ·rw[A4,DC,A4,A4];exact AN hE (nL rfl)
  ·rw[HI,EI C y E,AK]
end
open PySem
section
variable{g h t:Int}{c e:Nat}
noncomputable def EJ(gs:List (Int×Nat))(i:Nat)(t:Option Int)(gs':List (Int×Nat))(t':Option Int):Prop:=Cl gl OT 60 [.d (CY gs),.d (.int i),.d (Ce t)] [] (.val (.d (.tup [CY gs',Ce t']))) []
theorem dQ:EJ [(g,2)] 0 .none [] .none:=fun n=>by kernel_rfl
theorem dR(hc:c=2\/c=3\/c=4):EJ [(g,c+1)] 0 .none [(g,c)] .none:=by
 rcases hc with rfl |rfl |rfl <;> exact fun n=>by kernel_rfl
theorem dS(hc:c=3\/c=4)(he:e=3\/e=4\/e=5):EJ [(g,c+1),(h,e)] 0 (some t) [(g,c),(h,e)] (some t):=by
 rcases hc with rfl |rfl <;> rcases he with rfl |rfl |rfl <;> exact fun n=>by kernel_rfl
theorem dT(hc:c=3\/c=4)(he:e=3\/e=4\/e=5):EJ [(g,e),(h,c+1)] 1 (some t) [(g,e),(h,c)] (some t):=by
 rcases hc with rfl |rfl <;> rcases he with rfl |rfl |rfl <;> exact fun n=>by kernel_rfl
theorem Uu:EJ [(g,3),(h,3)] 0 (some t) [(g,5)] .none/\EJ [(g,3),(h,3)] 1 (some t) [(g,5)] .none:=⟨fun n=>by kernel_rfl,fun n=>by kernel_rfl⟩
theorem Uv(he:e=3\/e=4):EJ [(g,3),(h,e+1)] 0 (some t) [(g,3),(h,e)] (some t)/\EJ [(g,e+1),(h,3)] 1 (some t) [(g,e),(h,3)] (some t):=by
 rcases he with rfl |rfl <;> exact⟨fun n=>by kernel_rfl,fun n=>by kernel_rfl⟩
end
open PySem
noncomputable def AI(rs:List A1):List Int:=rs.map (·.2.1)
noncomputable def Ak(rs:List A1):List (Int×Pag):=rs.map fun r=>(r.2.1,Af r.2.2)
noncomputable def BD(g:Int)(R:List A1):Int×Pag:=(g,AT (AW R) (AI R))
noncomputable def pf(L:List (Int×Pag)):BG:=fun n=>AP n L
noncomputable def G2(q:Int×Pag):D:=.tup [.int q.1,q.2.d]
section
variable{K:Nat}{rs P Q S:List A1}{gs:List (Int×Nat)}{t:Option Int}{g h:Int}{L:List (Int×Pag)}{r s c:Nat}{xs:List (Str×V)}{rt:Int}
noncomputable def dU(rs:List A1)(gs:List (Int×Nat))(t:Option Int):List (Str×V):=[("leaves",.d (DX rs)),("seps",.d (Dy rs)),("groups",.d (CY gs)),("top",.d (Ce t)),("pages",.loc 0)]
noncomputable def HK(rs:List A1)(gs:List (Int×Nat))(t:Option Int)(rt:Int)(s:Nat):List (Str×V):=dU rs gs t++[(("root" : Str),V.d (.int rt)),("start",.d (.int s))]
noncomputable def FV(L:List (Int×Pag)):List Cell:=[.lst ((L.map G2).map V.d)]
theorem dW{α:Type}(l:List α)(a b:Nat):slc l (some (a:Int)) (some (b:Int))=(l.take b).drop a:=by
 show(l.take (DK l.length b)).drop (DK l.length a)=_
 unfold DK
 rw[A5 (G6 b),A5 (G6 a),F9,F9]
 rcases Nat.le_total b l.length with hb |hb
 ·rw[Nat.min_eq_left hb]
  rcases Nat.le_total a l.length with ha |ha
  ·rw[Nat.min_eq_left ha]
  ·rw[Nat.min_eq_right ha,List.drop_of_length_le (A9 (List.length_take_le _ _) hb),List.drop_of_length_le (A9 (List.length_take_le _ _) (A9 hb ha))]
 ·rw[Nat.min_eq_right hb,List.take_length,List.take_of_length_le hb]
  rcases Nat.le_total a l.length with ha |ha
  ·rw[Nat.min_eq_left ha]
  ·rw[Nat.min_eq_right ha,List.drop_length,List.drop_of_length_le ha]
theorem Uw{σ:List Cell}{l:List D}(a b:Nat):GA σ (.val (.d (.lst l))) (some (a:Int)) (some (b:Int))=some (.fresh (((l.take b).drop a).map V.d)):=by rw[List.map_drop,EO];exact A2 (fun l=>some (R.fresh l)) (dW _ _ _)
theorem dX(P Q S:List A1):((P++Q++S).take (P.length+Q.length)).drop P.length=Q:=by
 rw[List.take_left' AC,List.drop_left' rfl]
theorem dY(P:List A1)(x:A1)(Q S:List A1):((AW (P++(x::Q)++S)).take (P.length+Q.length)).drop P.length=AW (x::Q):=by
 rw[AJ,List.cons_append,EI,AK]
 rw[show P.length+Q.length=(AW (P++[x])++Q.map (·.1)).length from by rw[AC,DC,A4],<-AJ,List.take_left' rfl,List.drop_left' (DC P x)]
 rfl
theorem Pm{x:A1}(h:A8 xs (HK (P++(x::Q)++S) gs t rt P.length))(hl:L.length < 900)(hQ:Q.length < 100):∃xs',Lp gl Ct 30 (.two "no" "count") (CX (BV Ct 3)) [.d (Bu (g,Q.length+1))] ⟨xs,FV L⟩ ⟨xs',FV (L++[BD g (x::Q)])⟩/\A8 xs' (HK (P++(x::Q)++S) gs t g (P.length+(Q.length+1))):=by
 have hz:A8 (AS "count" (.d (.int (Q.length+1:Nat))) (AS "no" (.d (.int g)) xs)) (("no",.d (.int g))::("count",.d (.int (Q.length+1:Nat)))::HK (P++(x::Q)++S) gs t rt P.length):=.cons ((IV (by decide)).trans Bx) (.cons Bx ((h.other rfl).other rfl))
 have hz':A8 (AS "count" (.d (.int (Q.length+1:Nat))) (AS "no" (.d (.int g)) xs)) (HK (P++(x::Q)++S) gs t rt P.length):=(h.other rfl).other rfl
 refine⟨_,Hn rfl (B9 (Jg (v:=.d (G2 (BD g (x::Q)))) rfl (pn hz rfl rfl) rfl (AH (Az (v:=.d (G2 (BD g (x::Q)))) (sN hz rfl rfl (sZ (Az (v:=.d (AT (AW (x::Q)) (AI (x::Q))).d) (sK (BW Fv) (BT (Aw (ds:=(AW (x::Q)).map .key) (BN (pn hz rfl rfl) (BI (pn hz rfl rfl)) (BI (i:=((P.length+Q.length:Nat):Int)) (Ag (Ag (pn hz rfl rfl) (pn hz rfl rfl) rfl) Ab ?_)) ?_) rfl (B6 _)) (BT (Aw (ds:=(AI (x::Q)).map .int) (L6 (g:=fun r=>V.d (Ay r)) (u:=fun r:A1=>V.d (.int r.2.1)) (w:=fun r=>V.d (.lst (r.2.2.map AL))) (h:=fun r=>V.d (.int r.2.1)) (b:=fun _=>true) (l:=x::Q) (ys:=[]) (CF (σ':=FV L) rfl (BN (pn hz rfl rfl) (BI (pn hz rfl rfl)) (BI (i:=((P.length+(x::Q).length:Nat):Int)) (Ag (pn hz rfl rfl) (pn hz rfl rfl) rfl)) (Uw _ _)) ?_) rfl rfl rfl .nil rfl rfl (by decide) (fun _=>rfl) (fun r _ zs hs=>⟨HD,fun _=>kN hs rfl rfl⟩) ?_ rfl) rfl ?_) Bq))) rfl (by decide)))) rfl (by decide))) rfl ?_ ?_) (xO (Cu rfl rfl (BA (kN hz rfl rfl) (BA (AH (Ag (pn hz rfl rfl) (pn hz rfl rfl) rfl)) Cv)) (tN rfl (tO rfl))))) GK,(hz'.put rfl).put rfl⟩
 ·exact A2 (fun i=>some (R.val (V.d (.int i)))) (Int.add_sub_cancel ((P.length:Int)+Q.length) 1)
 ·rw[show some (R.fresh (((AW (x::Q)).map D.key).map V.d))=some (R.fresh (((((AW (P++x::Q++S)).map D.key).take (P.length+Q.length)).drop P.length).map V.d)) from by rw[<-EO,<-List.map_drop,dY]]
  exact Uw _ _
 ·rw[<-EO,<-List.map_drop,dX];exact A2 (fun l=>some (l,FV L)) Ai
 ·exact BH (AN (CB hQ) (nL rfl))
 ·have:(((AI (x::Q)).map D.int).map V.d)=List.map (fun r:A1=>V.d (.int r.2.1)) ((x::Q).filter fun _=>true):=by
   unfold AI;rw[Ai,Ai,HW.mpr fun _ _=>rfl];rfl
  rw[<-this];exact B6 _
 ·rw[A4,A4];exact AN hl (nL rfl)
 ·unfold FV;rw[AK,AK];rfl
theorem Pn{L:List (Int×Pag)}(h:A8 xs (HK rs gs t rt s))(hn:(L.map (·.1)).Nodup)(hd:∀q∈L,q.1∈B8):CD gl Ct 20 5 xs (FV L) (.val (.d (tD (pf L) rt))):=by
 have eL:L.map G2=(L.map (vm Pag.d)).map BB:=by rw[Ai];rfl
 have D1:Dic (L.map (vm Pag.d)) (fun n=>(pf L n).map Pag.d):=⟨by rw[Ai];exact hn,fun n=>L0 Pag.d n L⟩
 have hs:Bc (fun n=>(pf L n).map Pag.d):=fun n y e=>by
  by_cases hm:n∈L.map (·.1)
  ·obtain⟨q,hq,e⟩:=BU.mp hm;exact e▸hd q hq
  ·have e:(AP n L).map Pag.d=some y:=e
   rw[Cz.mpr hm] at e;cases e
 refine CD.up (CR (K:=18) rfl (Bf (Az (v:=.d (tD (pf L) rt)) (BT (Aw (ds:=(AF fun n=>(pf L n).map Pag.d).map BB) (C7 (fun _=>rfl) (pn h rfl rfl) ?_) rfl (B6 _)) (sZ (pn h rfl rfl))) rfl (by decide))) rfl) (nL rfl)
 refine(A3 (by decide)).trans ((A3 (by decide)).trans ((A3 (by decide)).trans ((A5 rfl).trans (Es rfl (bnd (a:=(L.map G2).map V.d) rfl (bnd (B6 _) (AQ (a:=(AF fun n=>(pf L n).map Pag.d).map BB) ?_ rfl)))))))
 rw[eL];exact D1.sorted hs
theorem Po{r:R}{x:A1}(hl:rs.length < 100)(hk:∀xs,A8 xs (HK (x::rs) gs t x.2.1 0)->CD gl Ct (K+20) 3 xs (FV (Ak (x::rs))) r):Cl gl Ct (K+24) [.d (CJ (x::rs) gs t)] [] r []:=by
 refine Cw rfl rfl (AX rfl (GJ rfl rfl (kR rfl rfl) rfl (tN rfl (tN rfl (tN rfl (tO rfl))))) (AX rfl (Ac (Ci (l:=((Ak (x::rs)).map G2).map V.d) (L6 (g:=fun r=>V.d (Ay r)) (u:=fun r:A1=>V.d (.int r.2.1)) (w:=fun r=>V.d (.lst (r.2.2.map AL))) (h:=fun r=>V.d (G2 (r.2.1,Af r.2.2))) (b:=fun _=>true) (l:=x::rs) (ys:=[]) (CF rfl (pR rfl rfl) (A2 (fun l=>some (l,[])) Ai)) rfl rfl rfl .nil rfl rfl (by decide) (fun _=>rfl) (fun r _ zs hs=>⟨HD,fun _=>AH (Az (v:=.d (G2 (r.2.1,Af r.2.2))) (sN hs rfl rfl (sZ (Az (v:=.d (Af r.2.2).d) (sK (BW Eu) (sZ (pn hs rfl rfl))) rfl (by decide)))) rfl (by decide))⟩) (BH (AN (CB hl) (nL rfl))) ?_) rfl) rfl) (AX rfl (Cu rfl rfl (BA (AH (iX (iX (pR rfl rfl) (Ed (a:=0) (w:=Ay x) rfl)) rfl)) (BA (AH Ab) Cv)) (tN rfl (tO rfl))) (hk _ (.cons rfl (.cons rfl (.cons rfl (.cons rfl (.cons rfl (.cons rfl (.cons rfl .nil)))))))))))
 unfold Ak;rw[Ai,Ai,HW.mpr fun _ _=>rfl];rfl
end
open PySem
inductive Tr where
 |one (x:A1) |grp (g:Int) (R:List A1) |two (t g h:Int) (R S:List A1)
noncomputable def CN(S:List A1):Int:=(S.map (·.1)).headD 0
noncomputable def Tr.rows:Tr->List A1
 |.one x=>[x]
 |.grp _ R=>R
 |.two _ _ _ R S=>R++S
noncomputable def Tr.gs:Tr->List (Int×Nat)
 |.one _=>[]
 |.grp g R=>[(g,R.length)]
 |.two _ g h R S=>[(g,R.length),(h,S.length)]
noncomputable def Tr.top:Tr->Option Int
 |.two t _ _ _ _=>some t
 |_=>.none
noncomputable def Tr.enc(T:Tr):D:=CJ T.rows T.gs T.top
noncomputable def LH(t g h:Int)(S:List A1):Int×Pag:=(t,AT [CN S] [g,h])
noncomputable def Tr.ins:Tr->List (Int×Pag)
 |.one _=>[]
 |.grp g R=>[BD g R]
 |.two t g h R S=>[BD g R,BD h S,LH t g h S]
noncomputable def Tr.pgs(T:Tr):List (Int×Pag):=Ak T.rows++T.ins
noncomputable def Tr.root:Tr->Int
 |.one x=>x.2.1
 |.grp g _=>g
 |.two t _ _ _ _=>t
noncomputable def Rows(R:List A1):Prop:=∀r∈R,2<=r.2.2.length/\r.2.2.length<=4
noncomputable def Tr.Sz:Tr->Prop
 |.one x=>x.2.2.length<=4
 |.grp _ R=>2<=R.length/\R.length<=5/\Rows R
 |.two _ _ _ R S=>(3<=R.length/\R.length<=5/\Rows R)/\(3<=S.length/\S.length<=5/\Rows S)
noncomputable def AE(x y:A1):Prop:=(∀p∈x.2.2,p.1 < y.1)/\∀q∈y.2.2,y.1<=q.1
structure Ord(R:List A1):Prop where
 asc:∀r∈R,Asc r.2.2
 bet:R.Pairwise AE
noncomputable def fl(R:List A1):List (Int×Str):=R.flatMap (·.2.2)
structure WF(T:Tr):Prop where
 nod:(T.pgs.map (·.1)).Nodup
 dm:∀q∈T.pgs,q.1∈B8
 sz:T.Sz
 ord:Ord T.rows
 key:∀p∈fl T.rows,0<=p.1/\p.1 < 17
noncomputable def Tr.pd(T:Tr):D:=tD (pf T.pgs) T.root
section
variable{T:Tr}{xs:List (Str×V)}{K:Nat}
theorem Pp{fn:Fn}{e:Expr}{a:Nat}{p q:Pos}{st st₁:St}{r:R}{b:Bool}(h:Ev gl fn K e st r st₁)(hb:(!isNone r)=b):Tt gl fn (K+1) (.Compare e [.IsNot] [.Constant .none a p] q) st b st₁:=fun n=>AQ (h n) (by rw[hb])
theorem Ux{o:Ops}{fn:Fn}{tg:Tg}(body:List Stmt)(st:St)(l m:List V):forLoop' o fn tg body (l++m) st=(forLoop' o fn tg body l st).bind fun st=>forLoop' o fn tg body m st:=by
 induction l generalizing st with
 |nil=>rfl
 |cons v l ih=>
  show(Em tg v st).bind _=((Em tg v st).bind _).bind _
  cases Em tg v st with
  |none=>rfl
  |some st=>
   show(o.ex fn body st).bind _=((o.ex fn body st).bind _).bind _
   cases o.ex fn body st with
   |none=>rfl
   |some p=>
    show(if JE p.1=true then _ else _)=Option.bind (if JE p.1=true then _ else _) _
    cases JE p.1 with
    |true=>exact ih p.2
    |false=>rfl
theorem Pq{gs:List (Int×Nat)}{rs:List A1}{t:Option Int}{rt:Int}{s:Nat}{L:List (Int×Pag)}{st:St}(h:A8 xs (HK rs gs t rt s))(hk:Lp gl Ct (K+2) (.two "no" "count") (CX (BV Ct 3)) (gs.map fun g=>.d (Bu g)) ⟨xs,FV L⟩ st):X1 gl Ct (K+2) (BV Ct 3) ⟨xs,FV L⟩ .next st:=Hm (CF rfl (pn h rfl rfl) (A2 (fun l=>some (l,FV L)) Ai)) rfl rfl hk
theorem Ij(w:WF T):Cl gl Ct 80 [.d T.enc] [] (.val (.d T.pd)) []:=by
 have nd:=w.nod
 have dm:=w.dm
 have sz:=w.sz
 unfold Tr.pd
 cases T with
 |one x=>
  refine Cl.up (Po (K:=20) (rs:=[]) (nL rfl) fun xs h=>?_) (by decide:44<=80)
  exact AX rfl (Pq h GK) (AX rfl (B1 (Pp (pn h rfl rfl) rfl) BO) ((Pn h nd dm).u rfl))
 |grp g R=>
  cases R with
  |nil=>exact absurd sz.1 (by decide)
  |cons x R=>
   have lR:R.length < 100:=AN (Nat.lt_of_succ_le sz.2.1) (nL rfl)
   refine Cl.up (Po (K:=20) (rs:=R) lR fun xs h=>?_) (by decide:44<=80)
   obtain⟨xs1,e1,h1⟩:=Pm (P:=[]) (S:=[]) (x:=x) (Q:=R) (g:=g) (L:=Ak (x::R)) (by rw[As];exact h) (by unfold Ak;rw[A4];exact AN (CB lR) (nL rfl)) lR
   rw[As] at h1
   exact AX rfl (Pq h (Mine.U.up (nL rfl) (P:=fun n=>forLoop' (AU gl n) Ct _ _ _ _=some _) e1)) (AX rfl (B1 (Pp (pn h1 rfl rfl) rfl) BO) ((Pn h1 nd dm).u rfl))
 |two t g k R S=>
  cases R with
  |nil=>exact absurd sz.1.1 (by decide)
  |cons x R=>
   cases S with
   |nil=>exact absurd sz.2.1 (by decide)
   |cons y S=>
    have lR:R.length < 10:=AN (Nat.lt_of_succ_le sz.1.2.1) (nL rfl)
    have lS:S.length < 10:=AN (Nat.lt_of_succ_le sz.2.2.1) (nL rfl)
    have lA:(R++y::S).length < 30:=by rw[AC];exact AN (Nat.add_lt_add lR (CB lS)) (nL rfl)
    have lL:(Ak (x::(R++y::S))).length < 31:=by unfold Ak;rw[A4];exact CB lA
    refine Cl.up (Po (K:=30) (rs:=R++y::S) (AN lA (nL rfl)) fun xs h=>?_) (by decide:54<=80)
    obtain⟨xs1,e1,h1⟩:=Pm (P:=[]) (S:=y::S) (x:=x) (Q:=R) (g:=g) (L:=Ak (x::(R++y::S))) h (AN lL (nL rfl)) (AN lR (nL rfl))
    obtain⟨xs2,e2,h2⟩:=Pm (P:=x::R) (S:=[]) (x:=y) (Q:=S) (g:=k) (rt:=g) (xs:=xs1) (gs:=[(g,(x::R).length),(k,(y::S).length)]) (t:=some t) (L:=Ak (x::(R++y::S))++[BD g (x::R)]) (by rw[As];rw[show([]:List A1).length+(R.length+1)=(x::R).length from De _] at h1;exact h1) (by rw[AC];exact AN (CB lL) (nL rfl)) (AN lS (nL rfl))
    rw[As] at h2
    have h2:A8 xs2 (HK (x::(R++y::S)) [(g,(x::R).length),(k,(y::S).length)] (some t) k ((x::R).length+(S.length+1))):=h2
    have es:((AW (x::(R++y::S))).map D.key)[R.length]?=some (.key y.1):=by
     show(((R++y::S).map (·.1)).map D.key)[R.length]?=_
     rw[C0,C0,mid rfl];rfl
    have h3:A8 (AS "root" (.d (.int t)) xs2) (HK (x::(R++y::S)) [(g,(x::R).length),(k,(y::S).length)] (some t) t ((x::R).length+(S.length+1))):=h2.put rfl
    refine AX rfl (Pq h (Mine.U.up (nL rfl) (P:=fun n=>forLoop' (AU gl n) Ct _ _ _ _=some _) fun n=>(Ux _ _ [V.d (Bu (g,R.length+1))] [V.d (Bu (k,S.length+1))]).trans (bnd (e1 n) (e2 n)))) (AX rfl (B4 (Pp (pn h2 rfl rfl) rfl) (B9 (Jg (v:=.d (G2 (LH t g k (y::S)))) (σ':=FV (Tr.two t g k (x::R) (y::S)).pgs) rfl (pn h2 rfl rfl) rfl (AH (Az (v:=.d (G2 (LH t g k (y::S)))) (sN h2 rfl rfl (sZ (Az (v:=.d (AT [y.1] [g,k]).d) (sK (BW Fv) (BT (Aw (ds:=[.key y.1]) (BS (sZ (BF rfl (pn h2 rfl rfl) (Ag (x:=.val (.d (.int R.length))) (iX (iX (pn h2 rfl rfl) (Ed (a:=0) (w:=Bu (g,(x::R).length)) rfl)) rfl) Ab ?_) (Ed es))) rfl) rfl rfl) (BT (Aw (ds:=[.int g,.int k]) (L6 (g:=fun g=>V.d (Bu g)) (u:=fun g:Int×Nat=>V.d (.int g.1)) (w:=fun g:Int×Nat=>V.d (.int g.2)) (h:=fun g=>V.d (.int g.1)) (b:=fun _=>true) (l:=[(g,(x::R).length),(k,(y::S).length)]) (ys:=[]) (CF rfl (pn h2 rfl rfl) rfl) rfl rfl rfl .nil rfl rfl (by decide) (fun _=>rfl) (fun r _ zs hs=>⟨HD,fun _=>kN hs rfl rfl⟩) (by decide:2<=lim) rfl) rfl rfl) Bq))) rfl (by decide)))) rfl (by decide))) rfl ?_ ?_) (xO (Ac (kN h2 rfl rfl) rfl)))) ((Pn h3 nd dm).u rfl))
    ·exact A2 (fun i=>some (Mine.R.val (V.d (.int i)))) (Int.add_sub_cancel (R.length:Int) 1)
    ·rw[A4,A4,AC,AC];exact AN (Fc (Fc lL 1) 1) (nL rfl)
    ·unfold Tr.pgs FV
     show [Cell.lst (_++[V.d _])]=_
     rw[Ih V.d,Ih G2,AJ,AJ];rfl
end
open PySem
section
variable{P Q L:List (Int×Pag)}{n:Int}{p p':Pag}{m:Nat}
theorem NH{α:Type}(m:Int)(P Q:List (Int×α)):AP m (P++Q)=Av (AP m P) some (AP m Q):=by
 induction P with
 |nil=>rfl
 |cons q P ih=>
  rw[List.cons_append,CG,CG,ih]
  by_cases e:m=q.1
  ·rw[A5 e,A5 e];rfl
  ·rw[A3 e,A3 e]
theorem Ik(h:((P++(n,p)::Q).map (·.1)).Nodup):n∉P.map (·.1)/\n∉Q.map (·.1):=by
 rw[AK] at h
 have h:=FD.mp h
 exact⟨fun q=>h.2.2 n q n AZ rfl,(BZ.mp h.2.1).1⟩
theorem HL(h:n∉P.map (·.1)):upd (pf (P++Q)) n (some p)=pf (P++(n,p)::Q):=funext fun j=>by
 unfold pf
 rw[NH j P ((n,p)::Q),CG]
 by_cases e:j=n
 ·rw[e,AY,Cz.mpr h,A5 rfl];rfl
 ·rw[Ah e,A3 e,NH]
theorem HM(h:((P++(n,p)::Q).map (·.1)).Nodup):upd (pf (P++(n,p)::Q)) n (some p')=pf (P++(n,p')::Q):=by
 rw[<-HL (Ik h).1,<-HL (Ik h).1,Ec]
theorem NI(h:((P++(n,p)::Q).map (·.1)).Nodup):upd (pf (P++(n,p)::Q)) n .none=pf (P++Q):=funext fun j=>by
 rw[<-HL (Ik h).1,Ec]
 by_cases e:j=n
 ·rw[e,AY];unfold pf;rw[NH,Cz.mpr (Ik h).1,Cz.mpr (Ik h).2];rfl
 ·exact Ah e
theorem Il(h:((P++(n,p)::Q).map (·.1)).Nodup):pf (P++(n,p)::Q) n=some p:=by rw[<-HL (Ik h).1,AY]
theorem Ez(h:(L.map (·.1)).Nodup)(hm:(n,p)∈L):pf L n=some p:=by
 obtain⟨P,Q,rfl⟩:=List.append_of_mem hm
 exact Il h
theorem EK(h:∀q∈L,q.1∈B8):Bc (pf L):=fun n y e=>by
 by_cases hm:n∈L.map (·.1)
 ·obtain⟨q,hq,e⟩:=BU.mp hm;exact e▸h q hq
 ·have e:AP n L=some y:=e
  rw[Cz.mpr hm] at e;cases e
theorem Uy(h:m<=15):(m:Int)∈B8:=by
 have k:∀i:Nat,i < 16->(i:Int)∈B8:=by decide
 exact k m (E2 h)
theorem Ju(h:Free (L.map (·.1)) m)(hl:L.length<=15):Least (pf L) m:=
 ⟨fun k hk=>by
  cases e:pf L k with
  |none=>exact absurd (h.low k hk) (Cz.mp e)
  |some y=>rfl,Cz.mpr h.no,Uy (A9 h.le (by rw[A4];exact hl))⟩
end
section
variable{σ:List Cell}{s d:Nat}{r k:Int}{pl:Int->B0}{f f':BG}{v:Str}{K K':Nat}{res:D}{n:Int}{R A B:List A1}{x:A1}
theorem PutR.u(h:PutR K σ s d r pl f n k v res f')(hk:true=Nat.ble K K'):PutR K' σ s d r pl f n k v res f':=by
 obtain⟨a,b,c,H,S⟩:=h;exact⟨a,b,c.u hk,H,S⟩
theorem RemR.u(h:RemR K σ s d r pl f n k f')(hk:true=Nat.ble K K'):RemR K' σ s d r pl f n k f':=by
 obtain⟨a,b,c,H,S⟩:=h;exact⟨a,b,c.u hk,H,S⟩
theorem FW(A:List A1)(x:A1)(B:List A1):AI (A++x::B)=AI A++x.2.1::AI B:=AK
theorem Im(A:List A1)(x:A1)(B:List A1):Ak (A++x::B)=Ak A++(x.2.1,Af x.2.2)::Ak B:=AK
theorem LJ(A:List A1)(x:A1)(ps:List (Int×Str))(B:List A1):AI (A++AD x ps::B)=AI (A++x::B):=by rw[FW,FW];rfl
theorem NJ(g:Int)(A:List A1)(x:A1)(ps:List (Int×Str))(B:List A1):BD g (A++AD x ps::B)=BD g (A++x::B):=by unfold BD;rw[HI,LJ]
theorem LK{g:Int}(h:Loc R k A x B)(hg:f g=some (AT (AW R) (AI R)))(hl:R.length < 50):Inn f g k (AW (A++[x])) (B.map (·.1)) (AI A) (AI B) x.2.1:=by
 have hl:A.length+B.length < 50:=by rw[h.eq,AC] at hl;exact Nat.lt_of_succ_lt hl
 refine⟨?_,?_,fun a ha=>?_,fun b hb=>?_,?_,?_⟩
 ·rw[hg,h.eq,EI,FW]
 ·rw[DC];exact A4 _
 ·obtain⟨y,hy,rfl⟩:=BU.mp ha;exact h.low y hy
 ·cases B with
  |nil=>cases hb
  |cons y B=>cases hb;exact h.high y AZ
 ·rw[DC,A4];exact AN hl (nL rfl)
 ·unfold AI;rw[A4,A4];exact AN hl (nL rfl)
end
open PySem
section
variable{σ:List Cell}{s d m m2:Nat}{r k g:Int}{pl:Int->B0}{v:Str}{R A B:List A1}{x:A1}{P0 M Q0:List (Int×Pag)}{a b e:Int×Str}{ps:List (Int×Str)}
noncomputable def GL(P0:List (Int×Pag))(R:List A1)(M:List (Int×Pag))(g:Int)(Q0:List (Int×Pag)):List (Int×Pag):=P0++(Ak R++(M++BD g R::Q0))
theorem Jv:GL P0 (A++x::B) M g Q0=(P0++Ak A)++(x.2.1,Af x.2.2)::(Ak B++(M++BD g (A++x::B)::Q0)):=by
 unfold GL;rw[Im,AJ,AJ];rfl
theorem Uz:GL P0 R M g Q0=(P0++(Ak R++M))++(g,AT (AW R) (AI R))::Q0:=by
 unfold GL;rw[AJ,AJ];rfl
theorem V0{l:List (Int×Str)}(nd:((GL P0 (A++x::B) M g Q0).map (·.1)).Nodup):upd (pf (GL P0 (A++x::B) M g Q0)) x.2.1 (some (Af l))=pf (GL P0 (A++AD x l::B) M g Q0):=by
 rw[Jv] at nd ⊢
 rw[HM nd,Jv,NJ];rfl
theorem Pr(nd:((GL P0 (A++x::B) M g Q0).map (·.1)).Nodup):pf (GL P0 (A++x::B) M g Q0) x.2.1=some (Af x.2.2):=by rw[Jv] at nd ⊢;exact Il nd
theorem NL(nd:((GL P0 R M g Q0).map (·.1)).Nodup):pf (GL P0 R M g Q0) g=some (AT (AW R) (AI R)):=by rw[Uz] at nd ⊢;exact Il nd
theorem V1:(GL P0 (A++AD x ps::B) M g Q0).map (·.1)=(GL P0 (A++x::B) M g Q0).map (·.1):=by
 rw[Jv,Jv,NJ,AK,AK (l₁:=P0++Ak A)];rfl
theorem dZ(H:HT σ s d r pl (pf (GL P0 (A++x::B) M g Q0)))(nd:((GL P0 (A++x::B) M g Q0).map (·.1)).Nodup)(h:Loc (A++x::B) k A x B)(hl:(A++x::B).length < 50)(hn:(x.2.2.map (·.1)).Nodup)(hp:x.2.2.length < 60)(h4:(Bt k v x.2.2).length<=4):PutR 50 σ s d r pl (pf (GL P0 (A++x::B) M g Q0)) g k v .none (pf (GL P0 (A++AD x (Bt k v x.2.2)::B) M g Q0)):=by
 have h1:=UH (k:=k) (v:=v) H (Pr nd) hn hp h4
 rw[V0 nd] at h1
 exact PP (K:=20) h1 H (LK h (NL nd) hl)
theorem V2(nd:((GL P0 (A++x::B) M g Q0).map (·.1)).Nodup)(hm:(m:Int)∉(GL P0 (A++x::B) M g Q0).map (·.1)):upd (upd (pf (GL P0 (A++x::B) M g Q0)) x.2.1 (some (Af [a,b]))) m (some (Af (e::ps)))=pf ((P0++(Ak (B7 A x a b e ps m B)++M))++(g,AT (AW (A++x::B)) (AI (A++x::B)))::Q0)/\(((P0++(Ak (B7 A x a b e ps m B)++M))++(g,AT (AW (A++x::B)) (AI (A++x::B)))::Q0).map (·.1)).Nodup:=by
 have e1:GL P0 (A++AD x [a,b]::B) M g Q0=(P0++(Ak A++[(x.2.1,Af [a,b])]))++(Ak B++(M++BD g (A++x::B)::Q0)):=by
  rw[Jv,NJ,AJ,AJ,AJ];rfl
 have e2:(P0++(Ak (B7 A x a b e ps m B)++M))++(g,AT (AW (A++x::B)) (AI (A++x::B)))::Q0=(P0++(Ak A++[(x.2.1,Af [a,b])]))++((m:Int),Af (e::ps))::(Ak B++(M++BD g (A++x::B)::Q0)):=by
  unfold B7
  rw[Im,AJ,AJ,AJ,AJ,AJ]
  show P0++(Ak A++(_::(_::(Ak B)++(M++_))))=_
  rw[List.cons_append];rfl
 have nm:(m:Int)∉((P0++(Ak A++[(x.2.1,Af [a,b])]))++(Ak B++(M++BD g (A++x::B)::Q0))).map (·.1):=by rw[<-e1,V1];exact hm
 rw[V0 nd,e1,e2]
 refine⟨HL fun q=>nm (by rw[AK];exact CE _ q),?_⟩
 rw[AK,Dc]
 have nd':(((P0++(Ak A++[(x.2.1,Af [a,b])]))++(Ak B++(M++BD g (A++x::B)::Q0))).map (·.1)).Nodup:=by rw[<-e1,V1];exact nd
 exact(List.perm_middle.nodup_iff).mpr (BZ.mpr ⟨by rw[<-AK];exact nm,by rw[<-AK];exact nd'⟩)
theorem Ps:AI (B7 A x a b e ps m B)=AI A++x.2.1::(m:Int)::AI B:=FW A (AD x [a,b]) ((e.1,(m:Int),e::ps)::B)
theorem de(H:HT σ s d r pl (pf (GL P0 (A++x::B) M g Q0)))(nd:((GL P0 (A++x::B) M g Q0).map (·.1)).Nodup)(h:Loc (A++x::B) k A x B)(hl:(A++x::B).length < 5)(hn:(x.2.2.map (·.1)).Nodup)(hp:x.2.2.length < 60)(hL:Bt k v x.2.2=a::b::e::ps)(h4:1 < ps.length)(hm:Least (pf (GL P0 (A++x::B) M g Q0)) m):PutR 50 σ s d r pl (pf (GL P0 (A++x::B) M g Q0)) g k v .none (pf (GL P0 (B7 A x a b e ps m B) M g Q0)):=by
 have h1:=PN (k:=k) (v:=v) H (Pr nd) hn hp hL h4 hm
 obtain⟨e1,n1⟩:=V2 (a:=a) (b:=b) (e:=e) (ps:=ps) nd (Cz.mp hm.no)
 rw[e1] at h1
 have h2:=cO (K:=20) (n:=g) (k2:=e.1) (m:=m) h1 H (LK h (NL nd) (AN hl (nL rfl))) ?_ ?_
 ·rw[HM n1,<-Pj (a:=a) (b:=b) (ps:=ps) (m:=m),<-Ps (a:=a) (b:=b) (e:=e) (ps:=ps),<-Uz] at h2
  exact h2
 ·rw[Il n1,EI,FW]
 ·rw[AC,DC,DD,A4]
  rw[AC,DD] at hl
  exact Bm hl
theorem V3{α:Type}{f:Int->Option α}{n j:Int}{p:α}(h:upd f n (some p) j=.none):f j=.none:=by
 by_cases e:j=n
 ·rw[e,AY] at h;cases h
 ·rwa [Ah e] at h
theorem dg{r1 r2 r3 r4 r5 r6:A1}(H:HT σ s d r pl (pf (GL [] (A++x::B) [] g [])))(nd:((GL [] (A++x::B) [] g []).map (·.1)).Nodup)(h:Loc (A++x::B) k A x B)(hl:(A++x::B).length < 50)(hn:(x.2.2.map (·.1)).Nodup)(hp:x.2.2.length < 60)(hL:Bt k v x.2.2=a::b::e::ps)(h4:1 < ps.length)(hm:Least (pf (GL [] (A++x::B) [] g [])) m)
 (hR:B7 A x a b e ps m B=[r1,r2,r3,r4,r5,r6]) (hm2:Free ((Ak [r1,r2,r3,r4,r5,r6]++[BD g [r1,r2,r3,r4,r5,r6]]).map (·.1)) m2):PutR 50 σ s d r pl (pf (GL [] (A++x::B) [] g [])) g k v (.tup [.key r4.1,.int m2]) (pf (Ak [r1,r2,r3,r4,r5,r6]++[BD g [r1,r2,r3],BD m2 [r4,r5,r6]])):=by
 have h1:=PN (k:=k) (v:=v) H (Pr nd) hn hp hL h4 hm
 obtain⟨e1,n1⟩:=V2 (a:=a) (b:=b) (e:=e) (ps:=ps) nd (Cz.mp hm.no)
 rw[e1] at h1
 have hs:=Pj (A:=A) (x:=x) (a:=a) (b:=b) (e:=e) (ps:=ps) (m:=m) (B:=B)
 have hN:=Ps (A:=A) (x:=x) (a:=a) (b:=b) (e:=e) (ps:=ps) (m:=m) (B:=B)
 rw[hR] at hs hN h1 n1
 have L2:Least (pf ((([]:List (Int×Pag))++(Ak [r1,r2,r3,r4,r5,r6]++[]))++[(g,AT (AW (A++x::B)) (AI (A++x::B)))])) m2:=Ju (show Free ((Ak [r1,r2,r3,r4,r5,r6]++[BD g [r1,r2,r3,r4,r5,r6]]).map (·.1)) m2 from hm2) (by decide:7<=15)
 have h2:=cQ (K:=20) (n:=g) (k2:=e.1) (m:=m) (m2:=m2) (x1:=r2.1) (x2:=r3.1) (x3:=r4.1) (Rk:=[r5.1,r6.1]) (y1:=r1.2.1) (y2:=r2.2.1) (y3:=r3.2.1) (Tc:=[r4.2.1,r5.2.1,r6.2.1]) h1 H (LK h (NL nd) hl) (by rw[Il n1,EI,FW]) hs.symm hN.symm (by decide:1 < 2) L2 ?_ (nL rfl)
 ·rw[HM n1] at h2
  have e3:=HL (P:=(([]:List (Int×Pag))++(Ak [r1,r2,r3,r4,r5,r6]++[]))++[BD g [r1,r2,r3]]) (Q:=[]) (n:=(m2:Int)) (p:=AT [r5.1,r6.1] [r4.2.1,r5.2.1,r6.2.1]) hm2.no
  rw[As] at e3
  exact(A2 (PutR 50 σ s d r pl (pf (GL [] (A++x::B) [] g [])) g k v (.tup [.key r4.1,.int m2])) e3).mp h2
 ·have q:=L2.no
  rw[<-hR,<-e1] at q
  exact V3 (V3 q)
end
open PySem
section
variable{σ:List Cell}{s d:Nat}{r k g:Int}{pl:Int->B0}{R A B:List A1}{x y:A1}{P0 M Q0:List (Int×Pag)}{pg:Int×Pag}{l:List (Int×Str)}{p p':Pag}{z w:Int×Str}
noncomputable def GX(P0:List (Int×Pag))(R:List A1)(M:List (Int×Pag))(pg:Int×Pag)(Q0:List (Int×Pag)):List (Int×Pag):=P0++(Ak R++(M++pg::Q0))
noncomputable def Nd(L:List (Int×Pag)):Prop:=(L.map (·.1)).Nodup
theorem Jw:GX P0 (A++x::B) M pg Q0=(P0++Ak A)++(x.2.1,Af x.2.2)::(Ak B++(M++pg::Q0)):=by
 unfold GX;rw[Im,AJ,AJ];rfl
theorem Pt:GX P0 R M pg Q0=(P0++(Ak R++M))++pg::Q0:=by
 unfold GX;rw[AJ,AJ]
theorem G3(nd:Nd (GX P0 (A++x::B) M pg Q0)):pf (GX P0 (A++x::B) M pg Q0) x.2.1=some (Af x.2.2):=by unfold Nd at nd;rw[Jw] at nd ⊢;exact Il nd
theorem Jx(nd:Nd (GX P0 (A++x::B) M pg Q0)):upd (pf (GX P0 (A++x::B) M pg Q0)) x.2.1 (some (Af l))=pf (GX P0 (A++AD x l::B) M pg Q0)/\Nd (GX P0 (A++AD x l::B) M pg Q0):=by
 unfold Nd at nd ⊢
 rw[Jw] at nd ⊢
 refine⟨by rw[HM nd,Jw];rfl,?_⟩
 rw[AK] at nd
 rw[Jw,AK]
 exact nd
theorem dh(nd:Nd (GX P0 (A++x::B) M pg Q0)):upd (pf (GX P0 (A++x::B) M pg Q0)) x.2.1 .none=pf (GX P0 (A++B) M pg Q0)/\Nd (GX P0 (A++B) M pg Q0):=by
 unfold Nd at nd ⊢
 rw[Jw] at nd ⊢
 have e:GX P0 (A++B) M pg Q0=(P0++Ak A)++(Ak B++(M++pg::Q0)):=by unfold GX Ak;rw[AK,AJ,AJ]
 rw[e]
 exact⟨NI nd,((List.Sublist.append_left (List.sublist_cons_self _ _) _).map _).nodup nd⟩
theorem di(nd:Nd (GX P0 R M (g,p) Q0)):upd (pf (GX P0 R M (g,p) Q0)) g (some p')=pf (GX P0 R M (g,p') Q0):=by
 unfold Nd at nd
 rw[Pt] at nd ⊢
 rw[HM nd,Pt]
theorem Jy(nd:Nd (GX P0 R M (g,p) Q0)):pf (GX P0 R M (g,p) Q0) g=some p:=by unfold Nd at nd;rw[Pt] at nd ⊢;exact Il nd
structure RG(σ:List Cell)(s d:Nat)(r:Int)(pl:Int->B0)(P0:List (Int×Pag))(A:List A1)(x:A1)(B:List A1)(M:List (Int×Pag))(g:Int)(Q0:List (Int×Pag))(k:Int):Prop where
 H:HT σ s d r pl (pf (GL P0 (A++x::B) M g Q0))
 nd:Nd (GL P0 (A++x::B) M g Q0)
 loc:Loc (A++x::B) k A x B
 len:(A++x::B).length < 50
 ln:∀y∈A++x::B,y.2.2.length < 40
theorem RG.leaf(h:RG σ s d r pl P0 A x B M g Q0 k):RemR 40 σ s d r pl (pf (GL P0 (A++x::B) M g Q0)) x.2.1 k (pf (GX P0 (A++AD x (outP' k x.2.2)::B) M (BD g (A++x::B)) Q0))/\Nd (GX P0 (A++AD x (outP' k x.2.2)::B) M (BD g (A++x::B)) Q0):=by
 have h1:=UN (k:=k) h.H (G3 h.nd) (AN (h.ln x (BE _ AZ)) (nL rfl))
 have e:=Jx (l:=outP' k x.2.2) h.nd
 rw[show upd (pf (GL P0 (A++x::B) M g Q0)) x.2.1 (some (Af (outP' k x.2.2)))=_ from e.1] at h1
 exact⟨h1,e.2⟩
theorem RG.inn(h:RG σ s d r pl P0 A x B M g Q0 k):Inn (pf (GL P0 (A++x::B) M g Q0)) g k (AW (A++[x])) (B.map (·.1)) (AI A) (AI B) x.2.1:=LK h.loc (Jy (p:=AT (AW (A++x::B)) (AI (A++x::B))) h.nd) h.len
theorem dj(h:RG σ s d r pl P0 A x B M g Q0 k)(h2:2<=(outP' k x.2.2).length):RemR 50 σ s d r pl (pf (GL P0 (A++x::B) M g Q0)) g k (pf (GL P0 (A++AD x (outP' k x.2.2)::B) M g Q0)):=by
 have⟨h1,nd⟩:=h.leaf
 have e:GL P0 (A++AD x (outP' k x.2.2)::B) M g Q0=GX P0 (A++AD x (outP' k x.2.2)::B) M (BD g (A++x::B)) Q0:=by unfold GL GX;rw[NJ]
 rw[e]
 exact PY (K:=20) h1 h.H h.inn ((Jy nd).trans (Jy (p:=AT (AW (A++x::B)) (AI (A++x::B))) h.nd).symm) (G3 nd) (by show 2<=(List.map AL _).length;rw[A4];exact h2)
theorem NM{f':BG}(h:RG σ s d r pl P0 A x B M g Q0 k)(h2:(outP' k x.2.2).length < 2)(hk:∀σ1 pl1,HT σ1 s d r pl1 (pf (GX P0 (A++AD x (outP' k x.2.2)::B) M (BD g (A++x::B)) Q0))->Step8 20 s g k pl1 A.length (.loc (pl1 x.2.1).1) (Ig pl1 (AI A)) (Jn pl1 (AI B)) σ1 d r f'):RemR 50 σ s d r pl (pf (GL P0 (A++x::B) M g Q0)) g k f':=by
 have⟨h1,nd⟩:=h.leaf
 have sm:∀y:A1,y∈A++AD x (outP' k x.2.2)::B->(pf (GX P0 (A++AD x (outP' k x.2.2)::B) M (BD g (A++x::B)) Q0) y.2.1).isSome=true:=fun y hy=>by
  rw[Ez (p:=Af y.2.2) nd (BE _ (CE _ (BU.mpr ⟨y,hy,rfl⟩)))];rfl
 refine LA (K:=20) h1 h.H h.inn ((Jy nd).trans (Jy (p:=AT (AW (A++x::B)) (AI (A++x::B))) h.nd).symm) (G3 nd) (by show(List.map AL _).length < 2;rw[A4];exact h2) (fun a ha=>?_) (fun a ha=>?_) fun σ1 pl1 H1=>by rw[DC];exact hk σ1 pl1 H1
 ·obtain⟨y,hy,rfl⟩:=BU.mp (List.mem_of_getLast? ha);exact sm y (CE _ hy)
 ·obtain⟨y,hy,rfl⟩:=BU.mp (List.mem_of_head? ha);exact sm y (BE _ (Aj _ hy))
end
open PySem
section
variable{σ:List Cell}{s d:Nat}{r k g:Int}{pl:Int->B0}{R A A0 B:List A1}{x y y' x':A1}{P0 M Q0:List (Int×Pag)}{pg:Int×Pag}{l:List (Int×Str)}{p p':Pag}{z w:Int×Str}{f:BG}
theorem Cm(A:List A1)(y x:A1)(B:List A1):A++y::x::B=(A++[y])++x::B:=by rw[AJ];rfl
theorem Pu(A:List A1)(y x:A1)(B:List A1):AW (A++y::x::B)=AW (A++[y])++x.1::B.map (·.1):=EI A y (x::B)
theorem Jz(A:List A1)(y x:A1)(B:List A1):AI (A++y::x::B)=AI A++y.2.1::x.2.1::AI B:=FW A y (x::B)
theorem NN(nd:Nd (GX P0 (A++y'::x'::B) M (BD g (A++y::x::B)) Q0))(hy:y'.2.1=y.2.1)(hx:x'.2.1=x.2.1):Adj (pf (GX P0 (A++y'::x'::B) M (BD g (A++y::x::B)) Q0)) g y.2.1 x.2.1 x.1 (AW (A++[y])) (B.map (·.1)) (AI A) (AI B):=by
 have hg:=Jy (g:=g) (p:=AT (AW (A++y::x::B)) (AI (A++y::x::B))) nd
 have fy:=G3 nd
 have nd':=nd
 rw[Cm] at nd'
 have fx:=G3 nd'
 rw[<-Cm] at fx
 have ne:∀{n:Int} {q:List (Int×Str)},pf (GX P0 (A++y'::x'::B) M (BD g (A++y::x::B)) Q0) n=some (Af q)->g≠n:=fun {n q} h e=>by
  rw[<-e] at h
  have h:=hg.symm.trans h
  exact absurd (A2 Pag.lf (Option.some.inj h)) CT
 refine⟨by rw[<-Pu,<-Jz];exact hg,?_,hy▸ne fy,hx▸ne fx,fun e=>?_⟩
 ·rw[DC];exact A4 _
 ·unfold Nd at nd'
  rw[Jw] at nd'
  refine(Ik nd').1 ?_
  rw[AK,hx,<-e,<-hy]
  exact BE _ (BU.mpr ⟨(y'.2.1,Af y'.2.2),BU.mpr ⟨y',BE _ (DE _),rfl⟩,rfl⟩)
theorem V4(nd:Nd (GX P0 (A++y::x::B) M pg Q0)):upd (pf (GX P0 (A++y::x::B) M pg Q0)) x.2.1 (some (Af l))=pf (GX P0 (A++y::AD x l::B) M pg Q0)/\Nd (GX P0 (A++y::AD x l::B) M pg Q0):=by
 rw[Cm] at nd ⊢
 rw[Cm A y (AD x l)]
 exact Jx nd
theorem V5(nd:Nd (GX P0 (A++y::x::B) M pg Q0)):upd (pf (GX P0 (A++y::x::B) M pg Q0)) x.2.1 .none=pf (GX P0 (A++y::B) M pg Q0)/\Nd (GX P0 (A++y::B) M pg Q0):=by
 rw[Cm] at nd ⊢
 rw[show A++y::B=(A++[y])++B from by rw[AJ];rfl]
 exact dh nd
theorem LL(nd:Nd (GX P0 (A++y::x::B) M pg Q0)):pf (GX P0 (A++y::x::B) M pg Q0) x.2.1=some (Af x.2.2):=by
 rw[Cm] at nd ⊢
 exact G3 nd
theorem NO{R' R0:List A1}(nd:Nd (GX P0 R M (BD g R0) Q0))(h1:Ak R=Ak R'){ks cs:List Int}(h2:ks=AW R')(h3:cs=AI R'):upd (pf (GX P0 R M (BD g R0) Q0)) g (some (AT ks cs))=pf (GL P0 R' M g Q0):=by
 refine(di (g:=g) (p:=AT (AW R0) (AI R0)) nd).trans ?_
 rw[h2,h3]
 unfold GX GL
 rw[h1];rfl
theorem dn(nd:Nd (GX P0 R M pg Q0))(hR:∀u∈A,u∈R)(h:∀u∈A.getLast?,u.2.2.length<=2):FU (pf (GX P0 R M pg Q0)) pl (Ig pl (AI A)):=by
 rcases J1 A with rfl |⟨A',u,rfl⟩
 ·exact .inl rfl
 ·rw[J0] at *
  refine .inr ⟨u.2.1,Af u.2.2,?_,Ez nd (BE _ (CE _ (BU.mpr ⟨u,hR u (BE _ (DE u)),rfl⟩))),?_⟩
  ·unfold AI;rw[AK];exact Ba J2 rfl
  ·show(List.map AL _).length<=2
   rw[A4];exact h u J2
theorem dp(nd:Nd (GX P0 R M pg Q0))(hR:∀u∈B,u∈R)(h:∀u∈B.head?,u.2.2.length<=2):FU (pf (GX P0 R M pg Q0)) pl (Jn pl (AI B)):=by
 cases B with
 |nil=>exact .inl rfl
 |cons u B=>
  refine .inr ⟨u.2.1,Af u.2.2,rfl,Ez nd (BE _ (CE _ (BU.mpr ⟨u,hR u AZ,rfl⟩))),?_⟩
  show(List.map AL _).length<=2
  rw[A4];exact h u rfl
theorem V6(pl:Int->B0)(A:List A1)(y:A1):Ig pl (AI (A++[y]))=.loc (pl y.2.1).1:=by unfold AI;rw[AK];exact Ba J2 rfl
theorem V7(k:Int)(l:List (Int×Str)):(outP' k l).length<=l.length:=List.length_filter_le _ _
theorem Step8.cast{K i:Nat}{me lv rv:V}{f f':BG}(h:Step8 K s g k pl i me lv rv σ d r f)(e:f=f'):Step8 K s g k pl i me lv rv σ d r f':=e▸h
theorem LN{f1 f2 f3 f4:BG}{a b c:Int}{p q u:Option Pag}(h1:upd f1 a p=f2)(h2:upd f2 b q=f3)(h3:upd f3 c u=f4):upd (upd (upd f1 a p) b q) c u=f4:=by rw[h1,h2,h3]
theorem dq(h:RG σ s d r pl P0 (A0++[y]) x B M g Q0 k)(h2:(outP' k x.2.2).length < 2)(hy:y.2.2=l++[z])(h3:2 < y.2.2.length):RemR 50 σ s d r pl (pf (GL P0 ((A0++[y])++x::B) M g Q0)) g k (pf (GL P0 (A0++AD y l::(z.1,x.2.1,z::outP' k x.2.2)::B) M g Q0)):=by
 refine NM h h2 fun σ1 pl1 H1=>?_
 have nd:=h.leaf.2
 rw[<-Cm,<-Cm] at H1 nd
 have e1:=Jx (l:=l) nd
 have e2:=V4 (l:=z::outP' k x.2.2) e1.2
 have st:=cX (K:=20) (k:=k) (v:=Jn pl1 (AI B)) (ll:=l) (x:=z) H1 (NN nd rfl rfl) (hy▸G3 nd) (LL nd) (hy▸h3) (AN h2 (nL rfl))
 rw[V6,show(A0++[y]).length=(AW (A0++[y])).length+1 from by rw[DC,AC];rfl]
 exact st.cast (LN e1.1 e2.1 (NO (R':=A0++AD y l::(z.1,x.2.1,z::outP' k x.2.2)::B) e2.2 (by rw[Im,Im];rfl) (by rw[Pu A0 (AD y l),HI A0 y l []]) (by rw[Jz];rfl)))
theorem du(h:RG σ s d r pl P0 A x (y::B) M g Q0 k)(h2:(outP' k x.2.2).length < 2)(hy:y.2.2=z::w::l)(h3:2 < y.2.2.length)(hA:∀u∈A.getLast?,u.2.2.length<=2):RemR 50 σ s d r pl (pf (GL P0 (A++x::y::B) M g Q0)) g k (pf (GL P0 (A++AD x (outP' k x.2.2++[z])::(w.1,y.2.1,w::l)::B) M g Q0)):=by
 refine NM h h2 fun σ1 pl1 H1=>?_
 have nd:=h.leaf.2
 have e1:=V4 (l:=w::l) nd
 have e2:=Jx (l:=outP' k x.2.2++[z]) e1.2
 have st:=cZ (K:=20) (k:=k) (v:=Ig pl1 (AI A)) (lm:=outP' k x.2.2) (x:=z) (y:=w) (lr:=l) H1 (NN nd rfl rfl) (G3 nd) (hy▸LL nd) (hy▸h3) (AN h2 (nL rfl)) (dn nd (fun u hu=>CE _ hu) hA)
 rw[DC] at st
 exact st.cast (LN e1.1 e2.1 (NO (R':=A++AD x (outP' k x.2.2++[z])::(w.1,y.2.1,w::l)::B) e2.2 (by rw[Im,Im];rfl) (by rw[Pu A (AD x _),HI A x _ []]) (by rw[Jz];rfl)))
theorem dv(h:RG σ s d r pl P0 (A0++[y]) x B M g Q0 k)(h2:(outP' k x.2.2).length < 2)(hy:y.2.2.length<=2)(hB:∀u∈B.head?,u.2.2.length<=2):RemR 50 σ s d r pl (pf (GL P0 ((A0++[y])++x::B) M g Q0)) g k (pf (GL P0 (A0++AD y (y.2.2++outP' k x.2.2)::B) M g Q0)):=by
 refine NM h h2 fun σ1 pl1 H1=>?_
 have nd:=h.leaf.2
 rw[<-Cm,<-Cm] at H1 nd
 have e1:=Jx (l:=y.2.2++outP' k x.2.2) nd
 have e2:=V5 e1.2
 have nS:FU (pf (GX P0 (A0++y::AD x (outP' k x.2.2)::B) M (BD g (A0++y::x::B)) Q0)) pl1 (.loc (pl1 y.2.1).1):=.inr ⟨_,_,rfl,G3 nd,by show(List.map AL _).length<=2;rw[A4];exact hy⟩
 have st:=UT (K:=20) (k:=k) (v:=Jn pl1 (AI B)) H1 (NN nd rfl rfl) (G3 nd) (LL nd) (C1 (Nat.add_lt_add_of_le_of_lt hy h2) (nL rfl))
 have st:=UV H1 nS (dp nd (fun u hu=>BE _ (Aj _ (Aj _ hu))) hB) st
 rw[V6,show(A0++[y]).length=(AW (A0++[y])).length+1 from by rw[DC,AC];rfl]
 exact st.cast (LN e1.1 e2.1 (NO (R':=A0++AD y (y.2.2++outP' k x.2.2)::B) e2.2 rfl (by rw[HI];exact(EI A0 y B).symm) (by rw[FW];rfl)))
theorem dw(h:RG σ s d r pl P0 [] x (y::B) M g Q0 k)(h2:(outP' k x.2.2).length < 2)(hy:y.2.2.length<=2):RemR 50 σ s d r pl (pf (GL P0 (x::y::B) M g Q0)) g k (pf (GL P0 (AD x (outP' k x.2.2++y.2.2)::B) M g Q0)):=by
 refine NM h h2 fun σ1 pl1 H1=>?_
 have nd:=h.leaf.2
 have e1:=Jx (A:=[]) (l:=outP' k x.2.2++y.2.2) nd
 have e2:=V5 (A:=[]) e1.2
 have nS:FU (pf (GX P0 ([]++AD x (outP' k x.2.2)::y::B) M (BD g ([]++x::y::B)) Q0)) pl1 (.loc (pl1 y.2.1).1):=.inr ⟨_,_,rfl,LL nd,by show(List.map AL _).length<=2;rw[A4];exact hy⟩
 have st:=UT (K:=20) (k:=k) (v:=.loc (pl1 y.2.1).1) H1 (NN (A:=[]) nd rfl rfl) (G3 (A:=[]) nd) (LL nd) (C1 (Nat.add_lt_add_of_lt_of_le h2 hy) (nL rfl))
 have st:=UW H1 nS st
 exact st.cast (LN e1.1 e2.1 (NO (R':=AD x (outP' k x.2.2++y.2.2)::B) e2.2 rfl rfl rfl))
end
open PySem
inductive Ctx where
 |grp (g:Int) |lft (t g h:Int) (S:List A1) |rgt (t g h:Int) (R:List A1)
namespace Ctx
noncomputable def tree:Ctx->List A1->Tr
 |.grp g,X=>.grp g X
 |.lft t g h S,X=>.two t g h X S
 |.rgt t g h R,X=>.two t g h R X
noncomputable def pr:Ctx->List A1
 |.rgt _ _ _ R=>R
 |_=>[]
noncomputable def po:Ctx->List A1
 |.lft _ _ _ S=>S
 |_=>[]
noncomputable def no:Ctx->Int
 |.grp g=>g
 |.lft _ g _ _=>g
 |.rgt _ _ h _=>h
noncomputable def M:Ctx->List (Int×Pag)
 |.grp _=>[]
 |.lft _ _ _ S=>Ak S
 |.rgt _ g _ R=>[BD g R]
noncomputable def Q0(sp:Int):Ctx->List (Int×Pag)
 |.grp _=>[]
 |.lft t g h S=>[BD h S,LH t g h S]
 |.rgt t g h _=>[(t,AT [sp] [g,h])]
end Ctx
section
variable{C:Ctx}{R R' A B:List A1}{x:A1}{k sp:Int}{v:Str}{l:List (Int×Str)}
noncomputable def Ctx.Sp(C:Ctx)(R:List A1)(sp:Int):Prop:=match C with
 |.rgt _ _ _ _=>CN R=sp
 |_=>True
theorem Ctx.rows(C:Ctx)(R:List A1):(C.tree R).rows=C.pr++(R++C.po):=by
 cases C with
 |grp g=>exact(As R).symm
 |lft t g h S=>rfl
 |rgt t g h S=>exact A2 (S++·) (As R).symm
theorem Ctx.pgs(C:Ctx)(R:List A1)(h:C.Sp R sp):(C.tree R).pgs=GL (Ak C.pr) R C.M C.no (C.Q0 sp):=by
 cases C with
 |grp g=>rfl
 |lft t g h S=>unfold Tr.pgs GL Ak;show(R++S).map _++_=_;rw[AK,AJ];rfl
 |rgt t g h' S=>
  have h:CN R=sp:=h
  unfold Tr.pgs GL Ak
  show(S++R).map _++[BD g S,BD h' R,(t,AT [CN R] [g,h'])]=_
  rw[AK,AJ,h];rfl
noncomputable def Ctx.At(C:Ctx)(k sp:Int):Prop:=match C with
 |.grp _=>True
 |.lft _ _ _ S=>k < CN S
 |.rgt _ _ _ _=>sp<=k
theorem V8{f:BG}{t g h:Int}(hf:f t=some (AT [sp] [g,h]))(hk:k < sp):Inn f t k [] [sp] [] [h] g:=⟨hf,rfl,fun _ h=>absurd h B3,fun b hb=>by cases hb;exact hk,(by decide:1 < 100),(by decide:1 < 100)⟩
theorem V9{f:BG}{t g h:Int}(hf:f t=some (AT [sp] [g,h]))(hk:sp<=k):Inn f t k [sp] [] [g] [] h:=⟨hf,rfl,fun a ha=>by rw[Ar.mp ha];exact hk,fun b hb=>(by cases hb),(by decide:1 < 100),(by decide:1 < 100)⟩
theorem Ctx.put(nd:Nd (C.tree R).pgs)(dm:∀q∈(C.tree R).pgs,q.1∈B8)(hs:C.Sp R sp)(hs':C.Sp R' sp)(hk:C.At k sp)(h:∀{σ s d pl},HT σ s d (C.tree R).root pl (pf (GL (Ak C.pr) R C.M C.no (C.Q0 sp)))->PutR 50 σ s d (C.tree R).root pl (pf (GL (Ak C.pr) R C.M C.no (C.Q0 sp))) C.no k v .none (pf (GL (Ak C.pr) R' C.M C.no (C.Q0 sp)))):Ho (C.tree R).pd k v (C.tree R').pd:=by
 have e:=C.pgs R hs
 have e':=C.pgs R' hs'
 have rt:(C.tree R).root=(C.tree R').root:=by cases C <;> rfl
 unfold Tr.pd
 rw[<-rt]
 refine N9 (EK dm) fun σ s d pl H=>?_
 refine Uc ?_ H
 rw[e] at H
 rw[e,e']
 rw[e] at nd
 cases C with
 |grp g=>exact(h H).u rfl
 |lft t g k' S=>exact PP (K:=30) (h H) H (V8 (Ez nd (p:=AT [CN S] [g,k']) (BE _ (BE _ (BE _ (Aj _ (Aj _ AZ)))))) hk)
 |rgt t g k' S=>exact PP (K:=30) (h H) H (V9 (Ez nd (p:=AT [sp] [g,k']) (BE _ (BE _ (BE _ (Aj _ AZ))))) hk)
end
open PySem
section
variable{C:Ctx}{R R' A B:List A1}{x:A1}{k sp:Int}{v:Str}{l:List (Int×Str)}
structure CtxOk(C:Ctx)(R:List A1)(k sp:Int):Prop where
 nd:Nd (C.tree R).pgs
 dm:∀q∈(C.tree R).pgs,q.1∈B8
 hsp:C.Sp R sp
 at_:C.At k sp
theorem CtxOk.top(h:CtxOk C R k sp):match C with
 |.grp _=>True
 |.lft t g h S=>Inn (pf (C.tree R).pgs) t k [] [CN S] [] [h] g
 |.rgt t g h S=>Inn (pf (C.tree R).pgs) t k [sp] [] [g] [] h:=by
 have nd:=h.nd
 have hk:=h.at_
 have hs:=h.hsp
 cases C with
 |grp g=>trivial
 |lft t g k' S=>exact V8 (Ez nd (p:=AT [CN S] [g,k']) (BE _ (Aj _ (Aj _ AZ)))) hk
 |rgt t g k' S=>
  have hs:CN R=sp:=hs
  exact V9 (Ez nd (p:=AT [sp] [g,k']) (BE _ (Aj _ (Aj _ (hs▸AZ))))) hk
theorem CtxOk.pg(h:CtxOk C R k sp):pf (C.tree R).pgs C.no=some (AT (AW R) (AI R)):=by
 have nd:=h.nd
 rw[C.pgs R h.hsp] at nd ⊢
 exact NL nd
theorem CtxOk.path(h:CtxOk C R k sp)(hl:Loc R k A x B)(hn:R.length < 50):∃j,j < 900/\Path (pf (C.tree R).pgs) k j (C.tree R).root x.2.2:=by
 have hx:pf (C.tree R).pgs x.2.1=some (Af x.2.2):=Ez h.nd (CE _ (BU.mpr ⟨x,by rw[C.rows];exact BE _ (CE _ (hl.eq▸BE _ AZ)),rfl⟩))
 have p1:=Path.inner (LK hl h.pg hn) (Path.leaf hx)
 have ht:=h.top
 cases C with
 |grp g=>exact⟨1,by decide,p1⟩
 |lft t g k' S=>exact⟨2,by decide,.inner ht p1⟩
 |rgt t g k' S=>exact⟨2,by decide,.inner ht p1⟩
theorem CtxOk.none(h:CtxOk C R k sp)(hl:Loc R k A x B)(hn:R.length < 50)(hx:(x.2.2.map (·.1)).Nodup)(hv:AP k x.2.2=.none):EY (C.tree R).pd k (C.tree R).pd:=by
 obtain⟨j,hj,P⟩:=h.path hl hn
 exact Uf (EK h.dm) P hj hx hv
theorem Ctx.root_eq(C:Ctx):(C.tree R).root=(C.tree R').root:=by cases C <;> rfl
theorem CtxOk.rem(h:CtxOk C R k sp)(hl:Loc R k A x B)(hn:R.length < 50)(hx:(x.2.2.map (·.1)).Nodup)(hv:AP k x.2.2=some v)(h':CtxOk C R' k sp)(hz:match C with |.grp _=>2<=R'.length |_=>3<=R'.length)
 (hr:∀{σ s d pl},HT σ s d (C.tree R).root pl (pf (C.tree R).pgs)->RemR 50 σ s d (C.tree R).root pl (pf (C.tree R).pgs) C.no k (pf (C.tree R').pgs)):EY (C.tree R).pd k (C.tree R').pd:=by
 obtain⟨j,hj,P⟩:=h.path hl hn
 have t:=h.top
 have t':=h'.top
 have pg':=h'.pg
 have ln:∀{m:Nat},m+1<=R'.length->m<=((AW R').map D.key).length:=fun q=>by rw[A4];unfold AW;rw[A4,List.length_tail];exact Nat.le_sub_one_of_lt q
 unfold Tr.pd
 rw[<-C.root_eq (R:=R)]
 refine Ii (EK h.dm) P hj hx hv fun σ s d pl H=>?_
 have h1:=hr H
 cases C with
 |grp g=>exact Jq (h1.u rfl) H pg' (.inr fun e=>by have:=ln hz;rw[show(AW R').map D.key=[] from e] at this;cases this)
 |lft t0 g k' S=>exact Jq (PY (K:=30) h1 H t (t'.pg.trans t.pg.symm) pg' (ln hz)) H t'.pg (.inr nofun)
 |rgt t0 g k' S=>exact Jq (PY (K:=30) h1 H t (t'.pg.trans t.pg.symm) pg' (ln hz)) H t'.pg (.inr nofun)
end
open PySem
section
variable{R R' S A B:List A1}{x y:A1}{t g h k sp:Int}{v:Str}{X:List (Int×Pag)}{p q u p':Pag}
noncomputable def N3(X:List (Int×Pag))(g h t:Int):Prop:=(X.map (·.1)++[g,h,t]).Nodup
theorem N3.nd(n:N3 X g h t)(p q u:Pag):((X++[(g,p),(h,q),(t,u)]).map (·.1)).Nodup:=by rw[AK];exact n
theorem N3.s1(n:N3 X g h t):upd (pf (X++[(g,p),(h,q),(t,u)])) g (some p')=pf (X++[(g,p'),(h,q),(t,u)]):=HM (n.nd _ _ _)
theorem N3.s2(n:N3 X g h t):upd (pf (X++[(g,p),(h,q),(t,u)])) h (some p')=pf (X++[(g,p),(h,p'),(t,u)]):=by
 have e:∀q:Pag,X++[(g,p),(h,q),(t,u)]=(X++[(g,p)])++(h,q)::[(t,u)]:=fun q=>by rw[AJ];rfl
 have nd:=n.nd p q u
 rw[e] at nd ⊢
 rw[HM nd,e]
theorem N3.s3(n:N3 X g h t):upd (pf (X++[(g,p),(h,q),(t,u)])) t (some p')=pf (X++[(g,p),(h,q),(t,p')]):=by
 have e:∀u:Pag,X++[(g,p),(h,q),(t,u)]=(X++[(g,p),(h,q)])++(t,u)::[]:=fun q=>by rw[AJ];rfl
 have nd:=n.nd p q u
 rw[e] at nd ⊢
 rw[HM nd,e]
theorem N3.del(n:N3 X g h t):upd (upd (upd (pf (X++[(g,p),(h,q),(t,u)])) h .none) t (some p')) t .none=pf (X++[(g,p)]):=by
 have e:X++[(g,p),(h,q),(t,u)]=(X++[(g,p)])++(h,q)::[(t,u)]:=by rw[AJ];rfl
 have nd:=n.nd p q u
 rw[e] at nd ⊢
 rw[Ec,NI nd]
 have nd2:(((X++[(g,p)])++[(t,u)]).map (·.1)).Nodup:=((List.Sublist.append_left (List.sublist_cons_self _ _) _).map _).nodup nd
 rw[NI nd2,As]
theorem K0(nd:Nd (Tr.two t g h R S).pgs):N3 (Ak (R++S)) g h t:=by
 unfold Nd Tr.pgs at nd
 rw[AK] at nd;exact nd
theorem LO{n:Nat}(h:R.length<=n+1):((AW R).map D.key).length<=n:=by
 rw[A4];unfold AW;rw[A4,List.length_tail];exact Nat.sub_le_of_le_add h
theorem VA{n:Nat}(h:n+1 < R.length):n < (AW R).length:=by
 unfold AW;rw[A4,List.length_tail];exact Nat.lt_sub_of_add_lt h
theorem N3.ne(n:N3 X g h t):t≠g/\t≠h/\g≠h:=by
 have n:=(FD.mp n).2.1
 have n1:=(BZ.mp n).1
 have n2:=(BZ.mp (BZ.mp n).2).1
 exact⟨fun e=>n1 (e▸Aj _ AZ),fun e=>n2 (e▸AZ),fun e=>n1 (e▸AZ)⟩
theorem Pv{y:A1}:AW (y::R++[x])=AW (y::R)++[x.1]:=AK
theorem VB(h:R.length<=5):(AW R).length < 100/\(AI R).length < 100:=by
 unfold AW AI
 rw[A4,A4,List.length_tail]
 exact⟨Aa (A9 (Nat.sub_le _ _) h) (nL rfl),Aa h (nL rfl)⟩
theorem HN(nd:Nd (Tr.two t g h R S).pgs):pf (Tr.two t g h R S).pgs h=some (AT (AW S) (AI S)):=Ez nd (BE _ (Aj _ AZ))
theorem HO(nd:Nd (Tr.two t g h R S).pgs):pf (Tr.two t g h R S).pgs g=some (AT (AW R) (AI R)):=Ez nd (BE _ AZ)
theorem Io(nd:Nd (Tr.two t g h R S).pgs):pf (Tr.two t g h R S).pgs t=some (AT [CN S] [g,h]):=Ez nd (BE _ (Aj _ (Aj _ AZ)))
theorem NP(nd:Nd (Tr.two t g h R S).pgs):Adj (pf (Tr.two t g h R S).pgs) t g h (CN S) [] [] [] []:=⟨Io nd,rfl,(K0 nd).ne.1,(K0 nd).ne.2.1,(K0 nd).ne.2.2⟩
theorem VC{R1 S1:List A1}(nd:Nd (Tr.two t g h R S).pgs)(e:R++S=R1++S1):upd (upd (upd (pf (Tr.two t g h R S).pgs) g (some (AT (AW R1) (AI R1)))) h (some (AT (AW S1) (AI S1)))) t (some (AT [CN S1] [g,h]))=pf (Tr.two t g h R1 S1).pgs/\Nd (Tr.two t g h R1 S1).pgs:=by
 have n:=K0 nd
 refine⟨(LN n.s1 n.s2 n.s3).trans ?_,?_⟩
 ·rw[e];rfl
 ·have:=n.nd (AT (AW R1) (AI R1)) (AT (AW S1) (AI S1)) (AT [CN S1] [g,h])
  rw[e] at this;exact this
theorem dy{α:Type}{f:Int->α}{m n:Int}{a b:α}(h:m≠n):upd (upd f m a) n b=upd (upd f n b) m a:=funext fun j=>by
 by_cases e:j=n
 ·rw[e,AY,Ah h.symm,AY]
 ·by_cases e':j=m
  ·rw[Ah e,e',AY,AY]
  ·rw[Ah e,Ah e',Ah e',Ah e]
theorem dz{r0 s0 s1:A1}(o:CtxOk (.lft t g h (s0::s1::S)) R k sp)(hl:Loc R k A x B)(hn:R.length < 50)(hx:(x.2.2.map (·.1)).Nodup)(hv:AP k x.2.2=some v)(o':CtxOk (.lft t g h (s0::s1::S)) (r0::R') k sp)(h2:(r0::R').length<=2)(h4:3 < (s0::s1::S).length)(h5:(s0::s1::S).length<=5)
 (hr:∀{σ s d pl},HT σ s d t pl (pf (Tr.two t g h R (s0::s1::S)).pgs)->RemR 50 σ s d t pl (pf (Tr.two t g h R (s0::s1::S)).pgs) g k (pf (Tr.two t g h (r0::R') (s0::s1::S)).pgs)):EY (Tr.two t g h R (s0::s1::S)).pd k (Tr.two t g h (r0::R'++[s0]) (s1::S)).pd:=by
 obtain⟨j,hj,P⟩:=o.path hl hn
 have T:=o.top
 have nd:Nd (Tr.two t g h (r0::R') (s0::s1::S)).pgs:=o'.nd
 have e:=VC (R1:=r0::R'++[s0]) (S1:=s1::S) nd (by rw[AJ];rfl)
 have lr:=VB (A9 h2 (nL rfl))
 refine Ii (EK o.dm) P hj hx hv fun σ s d pl H=>?_
 refine Jq (LA (K:=30) (hr H) H T ((Io nd).trans T.pg.symm) (HO nd) (E2 (LO h2)) (fun a ha=>by cases ha) (fun a ha=>by cases ha;rw[HN nd];rfl) fun σ1 pl1 H1=>?_) H (Io e.2) (.inr nofun)
 exact(ca (K:=30) (k:=k) (v:=.d .none) (kx:=s1.1) (kr:=AW (s1::S)) (cx:=s0.2.1) (cr:=AI (s1::S)) H1 (NP nd) (HO nd) (HN nd) (VA h4) lr.1 lr.2 (.inl rfl)).cast (e.1▸by rw[Pv,FW];rfl)
theorem e9{r0 r1 s0:A1}(o:CtxOk (.rgt t g h (r0::R++[r1])) S k sp)(hl:Loc S k A x B)(hn:S.length < 50)(hx:(x.2.2.map (·.1)).Nodup)(hv:AP k x.2.2=some v)(o':CtxOk (.rgt t g h (r0::R++[r1])) (s0::R') k sp)(h2:(s0::R').length<=2)(h4:3 < (r0::R++[r1]).length)
 (hr:∀{σ s d pl},HT σ s d t pl (pf (Tr.two t g h (r0::R++[r1]) S).pgs)->RemR 50 σ s d t pl (pf (Tr.two t g h (r0::R++[r1]) S).pgs) h k (pf (Tr.two t g h (r0::R++[r1]) (s0::R')).pgs)):EY (Tr.two t g h (r0::R++[r1]) S).pd k (Tr.two t g h (r0::R) (r1::s0::R')).pd:=by
 obtain⟨j,hj,P⟩:=o.path hl hn
 have T:=o.top
 have nd:Nd (Tr.two t g h (r0::R++[r1]) (s0::R')).pgs:=o'.nd
 have e:=VC (R1:=r0::R) (S1:=r1::s0::R') nd (by rw[AJ];rfl)
 have lr:=VB (A9 h2 (nL rfl))
 have hs:CN (s0::R')=sp:=o'.hsp
 refine Ii (EK o.dm) P hj hx hv fun σ s d pl H=>?_
 refine Jq (LA (K:=30) (hr H) H T ((Io nd).trans (hs▸T.pg.symm)) (HN nd) (E2 (LO h2)) (fun a ha=>by cases ha;exact A2 Option.isSome (HO nd)) (fun a ha=>by cases ha) fun σ1 pl1 H1=>?_) H (Io e.2) (.inr nofun)
 refine(cY (K:=30) (k:=k) (v:=.d .none) (kl:=AW (r0::R)) (kx:=r1.1) (cl:=AI (r0::R)) (cx:=r1.2.1) H1 (NP nd) ((HO nd).trans ?_) (HN nd) ?_ lr.1 lr.2).cast ?_
 ·rw[Pv,FW];rfl
 ·rw[<-Pv];exact VA h4
 ·rw[dy (K0 nd).ne.2.2.symm];exact e.1
theorem VD{r0 s0:A1}(nd:Nd (Tr.two t g h (r0::R) (s0::S)).pgs):upd (upd (upd (upd (pf (Tr.two t g h (r0::R) (s0::S)).pgs) g (some (AT (AW (r0::R)++s0.1::AW (s0::S)) (AI (r0::R)++AI (s0::S))))) h .none) t (some (AT [] [g]))) t .none=pf (Tr.grp g (r0::R++s0::S)).pgs:=by
 have n:=K0 nd
 have e:=n.del (p:=AT (AW (r0::R)++s0.1::AW (s0::S)) (AI (r0::R)++AI (s0::S))) (q:=AT (AW (s0::S)) (AI (s0::S))) (u:=AT [CN (s0::S)] [g,h]) (p':=AT [] [g])
 rw[<-n.s1 (p:=AT (AW (r0::R)) (AI (r0::R)))] at e
 refine e.trans (A2 pf ?_)
 unfold Tr.pgs
 refine A2 (Ak _++·) ?_
 show _=[BD g _]
 unfold BD
 rw[show AW (r0::R++s0::S)=AW (r0::R)++s0.1::AW (s0::S) from AK,show AI (r0::R++s0::S)=AI (r0::R)++AI (s0::S) from AK]
theorem VE{f:BG}{pl:Int->B0}{n:Int}(hf:f n=some (AT (AW R) (AI R)))(h:R.length<=3):FU f pl (.loc (pl n).1):=.inr ⟨n,_,rfl,hf,LO h⟩
theorem len_lt'(h:R.length<=5):(AW R).length < 50/\(AI R).length < 50:=by
 unfold AW AI
 rw[A4,A4,List.length_tail]
 exact⟨Aa (A9 (Nat.sub_le _ _) h) (nL rfl),Aa h (nL rfl)⟩
theorem eB{r0 s0:A1}(o:CtxOk (.lft t g h (s0::S)) R k sp)(hl:Loc R k A x B)(hn:R.length < 50)(hx:(x.2.2.map (·.1)).Nodup)(hv:AP k x.2.2=some v)(o':CtxOk (.lft t g h (s0::S)) (r0::R') k sp)(h2:(r0::R').length<=2)(h3:(s0::S).length<=3)
 (hr:∀{σ s d pl},HT σ s d t pl (pf (Tr.two t g h R (s0::S)).pgs)->RemR 50 σ s d t pl (pf (Tr.two t g h R (s0::S)).pgs) g k (pf (Tr.two t g h (r0::R') (s0::S)).pgs)):EY (Tr.two t g h R (s0::S)).pd k (Tr.grp g (r0::R'++s0::S)).pd:=by
 obtain⟨j,hj,P⟩:=o.path hl hn
 have T:=o.top
 have nd:Nd (Tr.two t g h (r0::R') (s0::S)).pgs:=o'.nd
 have l1:=len_lt' (A9 h2 (by decide:2<=5))
 have l2:=len_lt' (A9 h3 (by decide:3<=5))
 unfold Tr.pd
 rw[<-VD nd]
 refine Ii (EK o.dm) P hj hx hv fun σ s d pl H=>Pb (LA (K:=30) (hr H) H T ((Io nd).trans T.pg.symm) (HO nd) (E2 (LO h2)) (fun a ha=>by cases ha) (fun a ha=>by cases ha;exact A2 Option.isSome (HN nd)) fun σ1 pl1 H1=>?_) H AY
 exact UW (A:=[]) H1 (VE (HN nd) h3) (UU (K:=30) (k:=k) H1 (NP nd) (HO nd) (HN nd) (Nat.add_lt_add l1.1 l2.1) (Nat.add_lt_add l1.2 l2.2))
theorem eC{r0 s0:A1}(o:CtxOk (.rgt t g h (r0::R)) S k sp)(hl:Loc S k A x B)(hn:S.length < 50)(hx:(x.2.2.map (·.1)).Nodup)(hv:AP k x.2.2=some v)(o':CtxOk (.rgt t g h (r0::R)) (s0::R') k sp)(h2:(s0::R').length<=2)(h3:(r0::R).length<=3)
 (hr:∀{σ s d pl},HT σ s d t pl (pf (Tr.two t g h (r0::R) S).pgs)->RemR 50 σ s d t pl (pf (Tr.two t g h (r0::R) S).pgs) h k (pf (Tr.two t g h (r0::R) (s0::R')).pgs)):EY (Tr.two t g h (r0::R) S).pd k (Tr.grp g (r0::R++s0::R')).pd:=by
 obtain⟨j,hj,P⟩:=o.path hl hn
 have T:=o.top
 have nd:Nd (Tr.two t g h (r0::R) (s0::R')).pgs:=o'.nd
 have l1:=len_lt' (A9 h3 (by decide:3<=5))
 have l2:=len_lt' (A9 h2 (by decide:2<=5))
 have hs:CN (s0::R')=sp:=o'.hsp
 unfold Tr.pd
 rw[<-VD nd]
 refine Ii (EK o.dm) P hj hx hv fun σ s d pl H=>Pb (LA (K:=30) (hr H) H T ((Io nd).trans (hs▸T.pg.symm)) (HN nd) (E2 (LO h2)) (fun a ha=>by cases ha;exact A2 Option.isSome (HO nd)) (fun a ha=>by cases ha) fun σ1 pl1 H1=>?_) H AY
 exact UV (A:=[]) H1 (VE (HO nd) h3) (.inl rfl) (UU (K:=30) (k:=k) H1 (NP nd) (HO nd) (HN nd) (Nat.add_lt_add l1.1 l2.1) (Nat.add_lt_add l1.2 l2.2))
theorem eD(o:CtxOk (.grp g) R k sp)(hl:Loc R k A x B)(hn:R.length < 50)(hx:(x.2.2.map (·.1)).Nodup)(hv:AP k x.2.2=some v)(o':CtxOk (.grp g) [y] k sp)(hr:∀{σ s d pl},HT σ s d g pl (pf (Tr.grp g R).pgs)->RemR 50 σ s d g pl (pf (Tr.grp g R).pgs) g k (pf (Tr.grp g [y]).pgs)):EY (Tr.grp g R).pd k (Tr.one y).pd:=by
 obtain⟨j,hj,P⟩:=o.path hl hn
 have e:=NI (P:=Ak [y]) (Q:=[]) (n:=g) (p:=AT [] [y.2.1]) o'.nd
 unfold Tr.pd
 rw[show(Tr.one y).pgs=Ak [y]++[] from rfl,<-e]
 exact Ii (EK o.dm) P hj hx hv fun σ s d pl H=>Pb ((hr H).u rfl) H o'.pg
end
open PySem
section
variable{R S A B:List A1}{x y:A1}{g k:Int}{v:Str}{m m2 m3:Nat}{a b e:Int×Str}{ps:List (Int×Str)}
theorem K1(x:A1):pf (Tr.one x).pgs x.2.1=some (Af x.2.2):=A5 rfl
theorem Pw(x:A1)(l:List (Int×Str)):upd (pf (Tr.one x).pgs) x.2.1 (some (Af l))=pf (Tr.one (AD x l)).pgs:=HM (P:=[]) (Q:=[]) (BZ.mpr ⟨B3,Ca⟩)
theorem eE(hd:x.2.1∈B8)(hx:(x.2.2.map (·.1)).Nodup)(hl:x.2.2.length < 60)(h4:(Bt k v x.2.2).length<=4):Ho (Tr.one x).pd k v (Tr.one (AD x (Bt k v x.2.2))).pd:=by
 unfold Tr.pd
 rw[<-Pw]
 exact N9 (EK fun q hq=>by rw[Ar.mp hq];exact hd) fun σ s d pl H=>Uc ((UH H (K1 x) hx hl h4).u rfl) H
theorem eF(hd:x.2.1∈B8)(hx:(x.2.2.map (·.1)).Nodup)(hl:x.2.2.length < 60)(hL:Bt k v x.2.2=a::b::e::ps)(h4:1 < ps.length)(h1:Free [x.2.1] m)(h2:Free (AI (B7 [] x a b e ps m [])) m2):Ho (Tr.one x).pd k v (Tr.grp m2 (B7 [] x a b e ps m [])).pd:=by
 have L:Least (pf (Tr.one x).pgs) m:=Ju h1 (by decide:1<=15)
 have e1:upd (upd (pf (Tr.one x).pgs) x.2.1 (some (Af [a,b]))) m (some (Af (e::ps)))=pf (Ak (B7 [] x a b e ps m [])):=by
  rw[Pw];exact HL (P:=Ak [AD x [a,b]]) (Q:=[]) h1.no
 have L2:Least (pf (Ak (B7 [] x a b e ps m []))) m2:=Ju h2 (by decide:2<=15)
 have e2:upd (pf (Ak (B7 [] x a b e ps m []))) m2 (some (AT [e.1] [x.2.1,m]))=pf (Tr.grp m2 (B7 [] x a b e ps m [])).pgs:=HL (P:=Ak (B7 [] x a b e ps m [])) (Q:=[]) h2.no
 unfold Tr.pd
 rw[<-e2]
 refine N9 (EK fun q hq=>by rw[Ar.mp hq];exact hd) fun σ s d pl H=>?_
 have h:=PN (k:=k) (v:=v) H (K1 x) hx hl hL h4 L
 rw[e1] at h
 exact Ud (h.u rfl) H L2
theorem eG{r1 r2 r3 r4 r5 r6:A1}(nd:Nd (Tr.grp g (A++x::B)).pgs)(dm:∀q∈(Tr.grp g (A++x::B)).pgs,q.1∈B8)(h:Loc (A++x::B) k A x B)(hl:(A++x::B).length < 50)(hn:(x.2.2.map (·.1)).Nodup)(hp:x.2.2.length < 60)(hL:Bt k v x.2.2=a::b::e::ps)(h4:1 < ps.length)(hm:Free ((Tr.grp g (A++x::B)).pgs.map (·.1)) m)(hz:(Tr.grp g (A++x::B)).pgs.length<=15)
 (hR:B7 A x a b e ps m B=[r1,r2,r3,r4,r5,r6]) (hm2:Free ((Tr.grp g [r1,r2,r3,r4,r5,r6]).pgs.map (·.1)) m2) (hm3:Free ((Ak [r1,r2,r3,r4,r5,r6]++[BD g [r1,r2,r3],BD m2 [r4,r5,r6]]).map (·.1)) m3):Ho (Tr.grp g (A++x::B)).pd k v (Tr.two m3 g m2 [r1,r2,r3] [r4,r5,r6]).pd:=by
 have e2:upd (pf (Ak [r1,r2,r3,r4,r5,r6]++[BD g [r1,r2,r3],BD m2 [r4,r5,r6]])) m3 (some (AT [r4.1] [g,m2]))=pf (Tr.two m3 g m2 [r1,r2,r3] [r4,r5,r6]).pgs:=HL (P:=Ak [r1,r2,r3,r4,r5,r6]++[BD g [r1,r2,r3],BD m2 [r4,r5,r6]]) (Q:=[]) hm3.no
 unfold Tr.pd
 rw[<-e2]
 exact N9 (EK dm) fun σ s d pl H=>Ud ((dg H nd h hl hn hp hL h4 (Ju hm hz) hR hm2).u rfl) H (Ju hm3 (by decide:8<=15))
theorem eH(hd:x.2.1∈B8)(hx:(x.2.2.map (·.1)).Nodup)(hv:AP k x.2.2=.none):EY (Tr.one x).pd k (Tr.one x).pd:=Uf (EK fun q hq=>by rw[Ar.mp hq];exact hd) (.leaf (K1 x)) (nL rfl) hx hv
theorem eI(hd:x.2.1∈B8)(hx:(x.2.2.map (·.1)).Nodup)(hl:x.2.2.length < 60)(hv:AP k x.2.2=some v):EY (Tr.one x).pd k (Tr.one (AD x (outP' k x.2.2))).pd:=by
 unfold Tr.pd
 rw[<-Pw]
 exact Ii (EK fun q hq=>by rw[Ar.mp hq];exact hd) (.leaf (K1 x)) (nL rfl) hx hv fun σ s d pl H=>Jq ((UN H (K1 x) hl).u rfl) H AY (.inl rfl)
end
open PySem
section
variable{R A B:List A1}{x y z:A1}{k:Int}{v:Str}{ps P Q:List (Int×Str)}{e:Int×Str}{m:Int}
theorem Px{α:Type}{r:α->α->Prop}{A B:List α}{x:α}:(A++x::B).Pairwise r↔(A.Pairwise r/\B.Pairwise r/\∀u∈A,∀b∈B,r u b)/\(∀u∈A,r u x)/\∀b∈B,r x b:=by
 rw[List.pairwise_append,D4]
 exact⟨fun h=>⟨⟨h.1,h.2.1.2,fun u hu b hb=>h.2.2 u hu b (Aj _ hb)⟩,fun u hu=>h.2.2 u hu x AZ,h.2.1.1⟩,fun h=>⟨h.1.1,⟨h.2.2,h.1.2.1⟩,fun u hu b hb=>(Au.mp hb).elim (fun e=>e▸h.2.1 u hu) (h.1.2.2 u hu b)⟩⟩
theorem HP:Ord (A++x::B)↔((∀r∈A,Asc r.2.2)/\(∀r∈B,Asc r.2.2)/\A.Pairwise AE/\B.Pairwise AE/\∀u∈A,∀b∈B,AE u b)/\Asc x.2.2/\(∀u∈A,AE u x)/\∀b∈B,AE x b:=by
 constructor
 ·intro h
  have p:=Px.mp h.bet
  exact⟨⟨fun r hr=>h.asc r (CE _ hr),fun r hr=>h.asc r (BE _ (Aj _ hr)),p.1⟩,h.asc x (BE _ AZ),p.2⟩
 ·intro h
  exact⟨fun r hr=>(Bv.mp hr).elim (h.1.1 r) fun hr=>(Au.mp hr).elim (fun e=>e▸h.2.1) (h.1.2.1 r),Px.mpr ⟨h.1.2.2,h.2.2⟩⟩
theorem VF(h:Ord (A++x::B))(ha:Asc ps)(hp:∀p∈ps,p.1=k\/p∈x.2.2)(h1:A≠[]->x.1<=k)(h2:∀b∈B,k < b.1):Ord (A++AD x ps::B):=by
 have h:=HP.mp h
 refine HP.mpr ⟨h.1,ha,fun u hu=>⟨(h.2.2.1 u hu).1,fun q hq=>?_⟩,fun b hb=>⟨fun p hq=>?_,(h.2.2.2 b hb).2⟩⟩
 ·exact(hp q hq).elim (fun e=>e▸h1 fun e=>by rw[e] at hu;cases hu) fun hq=>(h.2.2.1 u hu).2 q hq
 ·exact(hp p hq).elim (fun e=>e▸h2 b hb) fun hq=>(h.2.2.2 b hb).1 p hq
theorem Py(h:Ord (A++x::B))(hx:x.2.2=P++e::Q):Ord (A++AD x P::(e.1,m,e::Q)::B):=by
 have h:=HP.mp h
 have ha:Asc (P++e::Q):=hx▸h.2.1
 have hm:=Px.mp ha
 have mP:∀p∈P,p∈x.2.2:=fun p hp=>hx▸CE _ hp
 have mQ:∀p∈e::Q,p∈x.2.2:=fun p hp=>hx▸BE _ hp
 have eQ:∀q∈e::Q,e.1<=q.1:=fun q hq=>(Au.mp hq).elim (fun e'=>e'▸Int.le_refl _) fun hq=>Int.le_of_lt (hm.2.2 q hq)
 rw[Cm]
 have n1:∀b∈B,AE (e.1,m,e::Q) b:=fun b hb=>⟨fun p hp=>(h.2.2.2 b hb).1 p (mQ p hp),(h.2.2.2 b hb).2⟩
 have n2:∀u∈A++[AD x P],AE u (e.1,m,e::Q):=fun u hu=>(Bv.mp hu).elim (fun hu=>⟨fun p hp=>Int.lt_of_lt_of_le ((h.2.2.1 u hu).1 p hp) ((h.2.2.1 u hu).2 e (mQ e AZ)),eQ⟩) fun hu=>by rw[Ar.mp hu];exact⟨fun p hp=>hm.2.1 p hp,eQ⟩
 have oA:Ord (A++[AD x P]):=HP.mpr ⟨⟨h.1.1,fun _ h=>absurd h B3,h.1.2.2.1,.nil,fun _ _ _ h=>absurd h B3⟩,hm.1.1,fun u hu=>⟨(h.2.2.1 u hu).1,fun q hq=>(h.2.2.1 u hu).2 q (mP q hq)⟩,fun _ h=>absurd h B3⟩
 exact HP.mpr ⟨⟨oA.asc,h.1.2.1,oA.bet,h.1.2.2.2.1,fun u hu b hb=>(Bv.mp hu).elim (fun hu=>h.1.2.2.2.2 u hu b hb) fun hu=>by rw[Ar.mp hu];exact⟨fun p hp=>(h.2.2.2 b hb).1 p (mP p hp),(h.2.2.2 b hb).2⟩⟩,(List.pairwise_append.mp ha).2.1,n2,n1⟩
theorem Pz(h:Ord (A++y::z::B))(hy:y.2.2≠[]):Ord (A++AD y (y.2.2++z.2.2)::B):=by
 have h2:=h
 rw[Cm] at h2
 have h:=HP.mp h
 have h2:=HP.mp h2
 have yz:AE y z:=h.2.2.2 z AZ
 refine HP.mpr ⟨⟨h.1.1,h2.1.2.1,h.1.2.2.1,h2.1.2.2.2.1,fun u hu b hb=>h.1.2.2.2.2 u hu b (Aj _ hb)⟩,?_,fun u hu=>⟨(h.2.2.1 u hu).1,fun q hq=>?_⟩,fun b hb=>⟨fun p hp=>?_,(h2.2.2.2 b hb).2⟩⟩
 ·exact List.pairwise_append.mpr ⟨h.2.1,h2.2.1,fun p hp q hq=>Int.lt_of_lt_of_le (yz.1 p hp) (yz.2 q hq)⟩
 ·refine(Bv.mp hq).elim ((h.2.2.1 u hu).2 q) fun hq=>?_
  obtain⟨p,hp⟩:=List.exists_mem_of_ne_nil _ hy
  exact Int.le_of_lt (Int.lt_of_le_of_lt ((h.2.2.1 u hu).2 p hp) (Int.lt_of_lt_of_le (yz.1 p hp) (yz.2 q hq)))
 ·exact(Bv.mp hp).elim ((h.2.2.2 b (Aj _ hb)).1 p) ((h2.2.2.2 b hb).1 p)
theorem VG(A B:List A1):fl (A++B)=fl A++fl B:=List.flatMap_append
theorem GU(A:List A1)(x:A1)(B:List A1):fl (A++x::B)=fl A++(x.2.2++fl B):=by rw[VG];rfl
theorem Q1(h:Ord R):Asc (fl R):=List.pairwise_flatMap.mpr ⟨h.asc,h.bet.imp fun q p hp p' hp'=>Int.lt_of_lt_of_le (q.1 p hp) (q.2 p' hp')⟩
theorem VH{l:List (Int×Str)}:∀{lo:Int} {n:Nat},Asc l->(∀p∈l,lo<=p.1/\p.1 < lo+n)->l.length<=n:=by
 induction l with
 |nil=>exact fun _ _=>BK _
 |cons p l ih=>
  intro lo n h hb
  have h:=D4.mp h
  cases n with
  |zero=>have:=hb p AZ;exact absurd (Int.lt_of_le_of_lt this.1 this.2) (by rw[show(lo+(0:Nat))=lo from Int.add_zero lo];exact Int.lt_irrefl _)
  |succ n=>
   refine DH (ih (lo:=lo+1) h.2 fun q hq=>⟨Int.lt_of_le_of_lt (hb p AZ).1 (h.1 q hq),?_⟩)
   have:=(hb q (Aj _ hq)).2
   rw[Int.add_assoc,Int.add_comm 1];exact this
theorem eJ(h:Rows R):2*R.length<=(fl R).length:=by
 induction R with
 |nil=>exact Am _
 |cons x R ih=>
  show 2*(R.length+1)<=(x.2.2++fl R).length
  rw[AC,Nat.mul_succ,Nat.add_comm]
  exact DF (h x AZ).1 (ih fun r hr=>h r (Aj _ hr))
theorem eM(ho:Ord R)(hr:Rows R)(hk:∀p∈fl R,0<=p.1/\p.1 < 17):R.length<=8:=by
 have h:=A9 (eJ hr) (VH (lo:=0) (n:=17) (Q1 ho) hk)
 exact Bm (Nat.lt_of_mul_lt_mul_left (a:=2) (Aa h (by decide:17 < 2*9)))
theorem VI(k:Int):∀(R:List A1),R≠[]->R.tail.Pairwise (fun y z=>y.1 < z.1)->∃A x B,Loc R k A x B:=by
 intro R
 induction R with
 |nil=>exact fun h=>absurd rfl h
 |cons r R ih=>
  intro _ hs
  cases R with
  |nil=>exact⟨[],r,[],rfl,fun _ h=>absurd h B3,fun _ h=>absurd h B3⟩
  |cons y R=>
   have hs':=D4.mp hs
   by_cases hk:k < y.1
   ·exact⟨[],r,y::R,rfl,fun _ h=>absurd h B3,fun b hb=>(Au.mp hb).elim (fun e=>e▸hk) fun hb=>Int.lt_trans hk (hs'.1 b hb)⟩
   ·obtain⟨A,x,B,e,h1,h2⟩:=ih (by simp) hs'.2
    refine⟨r::A,x,B,A2 (r::·) e,fun u hu=>?_,h2⟩
    have hu:u∈A++[x]:=hu
    cases A with
    |nil=>
     cases e
     rw[Ar.mp hu];exact E1.mp hk
    |cons a A=>
     cases e
     exact(Au.mp hu).elim (fun e=>e▸E1.mp hk) (h1 u)
theorem VJ(h:Ord R)(hr:Rows R):R.tail.Pairwise fun y z=>y.1 < z.1:=by
 cases R with
 |nil=>exact .nil
 |cons r R=>
  have hb:=D4.mp h.bet
  refine(List.Pairwise.imp_of_mem ?_ hb.2)
  intro y z hy hz q
  obtain⟨p,hp⟩:=List.exists_mem_of_length_pos (C1 (nL rfl) (hr y (Aj _ hy)).1)
  exact Int.lt_of_le_of_lt ((hb.1 y hy).2 p hp) (q.1 p hp)
end
open PySem
noncomputable def Ctx.gP:Ctx->List (Int×Nat)
 |.rgt _ g _ R=>[(g,R.length)]
 |_=>[]
noncomputable def Ctx.gS:Ctx->List (Int×Nat)
 |.lft _ _ h S=>[(h,S.length)]
 |_=>[]
noncomputable def Ctx.tp:Ctx->Option Int
 |.grp _=>.none
 |.lft t _ _ _=>some t
 |.rgt t _ _ _=>some t
section
variable{C:Ctx}{R A A0 B:List A1}{x y:A1}{k:Int}{v:Str}{vals:List Str}{m:Nat}{a b e z w:Int×Str}{ps l:List (Int×Str)}{gs':List (Int×Nat)}{t':Option Int}
theorem Ctx.gs_eq(C:Ctx)(R:List A1):(C.tree R).gs=C.gP++(C.no,R.length)::C.gS:=by cases C <;> rfl
theorem Ctx.top_eq(C:Ctx)(R:List A1):(C.tree R).top=C.tp:=by cases C <;> rfl
theorem Ctx.row_eq(C:Ctx)(A:List A1)(x:A1)(B:List A1):(C.tree (A++x::B)).rows=(C.pr++A)++x::(B++C.po):=by rw[C.rows,AJ,AJ];rfl
theorem Ctx.enc_eq(C:Ctx)(R:List A1):(C.tree R).enc=CJ (C.pr++(R++C.po)) (C.gP++(C.no,R.length)::C.gS) C.tp:=by unfold Tr.enc;rw[C.rows,C.gs_eq,C.top_eq]
theorem Ctx.hG(C:Ctx)(hA:A.length < R.length):Cl gl IT 20 [.d (CY (C.gP++(C.no,R.length)::C.gS)),.d (.int (C.pr++A).length)] [] (.val (.d (.tup [.int C.gP.length,.int C.pr.length]))) []:=by
 cases C with
 |grp g=>
  have:=ND (g:=g) (c:=R.length) (gs:=[]) (a:=A.length)
  rw[Ae hA] at this;exact this
 |lft t g h S=>
  have:=ND (g:=g) (c:=R.length) (gs:=[(h,S.length)]) (a:=A.length)
  rw[Ae hA] at this;exact this
 |rgt t g h S=>
  have:=ND (g:=g) (c:=S.length) (gs:=[(h,R.length)]) (a:=(S++A).length)
  rw[decide_eq_false (C2.mpr (by rw[AC];exact BJ _ _))] at this;exact this
structure LwAt(C:Ctx)(k:Int)(vals:List Str)(A:List A1)(x:A1)(B:List A1):Prop where
 at_:SetAt ((C.pr++A)++x::(B++C.po)) k vals (C.pr++A) x (B++C.po)
 sm:(C.pr++A).length+(B++C.po).length < 60
 gl:C.gP.length+C.gS.length < 20
noncomputable def Dz(C:Ctx)(k:Int)(vals:List Str)(A:List A1)(x:A1)(B:List A1)(d:D):Prop:=HJ ((C.pr++A)++x::(B++C.po)) (C.gP++(C.no,(A++x::B).length)::C.gS) C.tp k vals d
theorem Q2(A:List A1)(x y:A1)(B:List A1):(A++x::B).length=(A++y::B).length:=by rw[AC,AC];rfl
theorem Q3(h:LwAt C k vals A x B)(h4:(Bz k vals x.2.2).length<=4)(h2:2<=(Bz k vals x.2.2).length):Dz C k vals A x B (C.tree (A++AD x (Bz k vals x.2.2)::B)).enc:=by
 have:=Pf (gs:=C.gP++(C.no,(A++x::B).length)::C.gS) (t:=C.tp) h.at_ h4 (.inl h2)
 rw[C.enc_eq,Q2 A _ x B,AJ,<-AJ C.pr];exact this
theorem VK(A:List A1)(x:A1)(B:List A1):A.length < (A++x::B).length:=by rw[AC];exact Ei (CC _)
theorem eN(h:LwAt C k vals A x B)(hL:Bz k vals x.2.2=a::b::e::ps)(h4:1 < ps.length)(hc:(A++x::B).length < 5)(hm:Free (Ck ((C.pr++A)++x::(B++C.po)) (C.gP++(C.no,(A++x::B).length)::C.gS) C.tp) m):Dz C k vals A x B (C.tree (B7 A x a b e ps m B)).enc:=by
 obtain⟨g0,gs0,e0⟩:∃g0 gs0,g0::gs0=C.gP++(C.no,(A++x::B).length)::C.gS:=by cases C <;> exact⟨_,_,rfl⟩
 have hG:=C.hG (VK A x B)
 have hl:(C.pr++A).length+(B++C.po).length+(g0::gs0).length < 90:=by
  rw[e0,AC (as:=C.gP)]
  exact AN (Nat.add_lt_add h.sm (show C.gP.length+(C.gS.length+1) < 21 from CB h.gl)) (nL rfl)
 unfold Dz
 rw[<-e0] at hG hm ⊢
 have s:=dL (P:=C.gP) (S:=C.gS) (x:=x) (a:=a) (b:=b) (e:=e) (ps:=ps) e0 (t:=C.tp) (by
  have:Ck ((C.pr++A)++AD x (a::b::e::ps)::(B++C.po)) (g0::gs0) C.tp=Ck ((C.pr++A)++x::(B++C.po)) (g0::gs0) C.tp:=A2 (·++_++_) (LJ _ _ _ _)
  rw[this];exact hm) hl hG hc
 have r:=Ph (gs:=g0::gs0) (t:=C.tp) (d:=(C.tree (B7 A x a b e ps m B)).enc) h.at_ (by rw[hL];exact CB (CB (CB h4))) ?_
 ·exact r
 ·rw[hL,C.enc_eq]
  have e1:(B7 A x a b e ps m B).length=(A++x::B).length+1:=by rw[LF,AC];rfl
  rw[e1,show C.pr++(B7 A x a b e ps m B++C.po)=B7 (C.pr++A) x a b e ps m (B++C.po) from by unfold B7;rw[AJ,AJ];rfl]
  exact s
end
open PySem
section
variable{C:Ctx}{R A A0 B:List A1}{x y:A1}{k:Int}{v:Str}{vals:List Str}{m K lL:Nat}{a b e z w:Int×Str}{ps l o:List (Int×Str)}{gs':List (Int×Nat)}{t':Option Int}{d:D}{br bl:Bool}
noncomputable def DY(C:Ctx)(A:List A1)(x:A1)(o:List (Int×Str))(B:List A1):List A1:=(C.pr++A)++AD x o::(B++C.po)
noncomputable def Hv(C:Ctx)(n:Nat):List (Int×Nat):=C.gP++(C.no,n)::C.gS
theorem NQ(h:LwAt C k vals A x B)(ho:Bz k vals x.2.2=o)(h2:o.length < 2)(hr:Jt (DY C A x o B) (C.pr++A).length (C.pr.length+(A++x::B).length) br)(hl:NF (DY C A x o B) (C.pr++A).length C.pr.length lL bl)
 (hk:CD gl Cd (K+40) 4 (Ey (DY C A x o B) (Dy (DY C A x o B)) (Hv C (A++x::B).length) C.tp (C.pr++A).length C.gP.length C.pr.length (C.pr.length+(A++x::B).length) (cond bl (C.pr++A).length (cond br ((C.pr++A).length+1) (if (C.pr++A).length < C.pr.length+1 then C.pr.length+1 else(C.pr++A).length))) (cond bl (lL - 1) (cond br 2 0))) [] (.val (.d d))) (hK:K+45<=120):Dz C k vals A x B d:=by
 obtain⟨g0,gs0,e0⟩:∃g0 gs0,g0::gs0=C.gP++(C.no,(A++x::B).length)::C.gS:=by cases C <;> exact⟨_,_,rfl⟩
 have hG:=C.hG (VK A x B)
 have hg:(C.gP++(C.no,(A++x::B).length)::C.gS)[C.gP.length]?=some (C.no,(A++x::B).length):=mid rfl
 have c:=dO (t:=C.tp) hG hg hr hl hk
 have es:Dy (DY C A x o B)=Dy ((C.pr++A)++x::(B++C.po)):=by unfold Dy DY;rw[HI]
 unfold Dz
 rw[es] at c
 rw[<-e0] at c ⊢
 exact dG h.at_ (ho▸h2) (ho▸c.up hK)
theorem VL:Jt (DY C A x o []) (C.pr++A).length (C.pr.length+(A++[x]).length) false:=.inl ⟨by rw[AC,AC,Dd];exact Am _,rfl⟩
theorem Q4:Jt (DY C A x o (y::B)) (C.pr++A).length (C.pr.length+(A++x::y::B).length) (decide (2 < y.2.2.length)):=.inr ⟨y,by rw[AC,AC,DD,DD,Dd];exact J3 (J3 (CB (CC _)) _) _,by unfold DY;rw[HX (BJ _ _),Nat.add_sub_cancel_left];rfl,rfl⟩
theorem VM(hB:∀u∈B.head?,u.2.2.length<=2):Jt (DY C A x o B) (C.pr++A).length (C.pr.length+(A++x::B).length) false:=by
 cases B with
 |nil=>exact VL
 |cons y B=>have:=Q4 (C:=C) (A:=A) (x:=x) (o:=o) (y:=y) (B:=B);rwa [decide_eq_false (C2.mpr (hB y rfl))] at this
theorem eO:∃b,Jt (DY C A x o B) (C.pr++A).length (C.pr.length+(A++x::B).length) b:=by
 cases B with
 |nil=>exact⟨_,VL⟩
 |cons y B=>exact⟨_,Q4⟩
theorem Q5:NF (DY C (A0++[y]) x o B) (C.pr++(A0++[y])).length C.pr.length y.2.2.length (decide (2 < y.2.2.length)):=.inr ⟨(C.pr++A0).length,y,by rw[<-AJ,AC];rfl,by rw[AC,AC];exact Ei (CC _),by unfold DY;rw[<-AJ,AJ (C.pr++A0)];exact mid rfl,rfl,rfl⟩
theorem VN(hA:∀u∈A.getLast?,u.2.2.length<=2):∃n,NF (DY C A x o B) (C.pr++A).length C.pr.length n false:=by
 rcases J1 A with rfl |⟨A',u,rfl⟩
 ·exact⟨0,.inl ⟨by rw[As];exact Am _,rfl⟩⟩
 ·rw[J0] at *
  have:=Q5 (C:=C) (A0:=A') (y:=u) (x:=x) (o:=o) (B:=B)
  rw[decide_eq_false (C2.mpr (hA u J2))] at this
  exact⟨_,this⟩
theorem VO:DY C (A0++[y]) x o B=(C.pr++A0)++y::AD x o::(B++C.po):=by unfold DY;rw[<-AJ,AJ (C.pr++A0)];rfl
theorem NR:(C.pr++(A0++[y])).length=(C.pr++A0).length+1:=by rw[<-AJ,AC];rfl
theorem eP(h:LwAt C k vals (A0++[y]) x B)(ho:Bz k vals x.2.2=o)(h2:o.length < 2)(hy:y.2.2=l++[z])(h3:2 < y.2.2.length)(hl:y.2.2.length < 50):Dz C k vals (A0++[y]) x B (C.tree (A0++AD y l::(z.1,x.2.1,z::o)::B)).enc:=by
 obtain⟨br,hr⟩:=eO (C:=C) (A:=A0++[y]) (x:=x) (o:=o) (B:=B)
 have sl:=Q5 (C:=C) (A0:=A0) (y:=y) (x:=x) (o:=o) (B:=B)
 rw[Ae h3] at sl
 refine NQ (K:=0) h ho h2 hr sl ?_ (nL rfl)
 have ly:y.2.2.length - 1=l.length:=by rw[hy,AC];rfl
 have hb:y.2.2++(AD x o).2.2=l++z::o:=by rw[hy,AJ];rfl
 have e1:=Us (C:=C.pr++A0) (y:=y) (z:=AD x o) (E:=B++C.po) (gs:=Hv C ((A0++[y])++x::B).length) (t:=C.tp) (a:=(C.pr++A0).length+1) (gi:=C.gP.length) (s:=C.pr.length) (en:=C.pr.length+((A0++[y])++x::B).length) (n:=l.length) (e:=z) (Nat.add_lt_add hl (AN h2 (by decide:2 < 50))) (by have:=h.sm;rw[NR] at this;exact AN (Aa (BJ _ 1) (by rw[DG];exact this)) (nL rfl)) (by rw[<-ly];exact Nat.sub_pos_of_lt (AN (nL rfl) h3)) (by rw[hb];exact mid rfl)
 rw[C.enc_eq,show C.pr++((A0++AD y l::(z.1,x.2.1,z::o)::B)++C.po)=G1 (C.pr++A0) y (AD x o) l.length z (B++C.po) from by unfold G1;rw[hb,List.take_left' rfl,List.drop_left' rfl,AJ,AJ];rfl,show(A0++AD y l::(z.1,x.2.1,z::o)::B).length=((A0++[y])++x::B).length from by rw[AJ,AC,AC];rfl,VO,NR]
 show CD gl Cd 40 4 (Ey _ _ _ _ _ _ _ _ ((C.pr++A0).length+1) (y.2.2.length - 1)) [] _
 rw[ly]
 exact e1
end
open PySem
section
variable{C:Ctx}{R A A0 B:List A1}{x y:A1}{k:Int}{v:Str}{vals:List Str}{q z w:Int×Str}{ps l o:List (Int×Str)}{gs':List (Int×Nat)}{t':Option Int}
theorem eR(h:LwAt C k vals A x (y::B))(ho:Bz k vals x.2.2=[q])(hy:y.2.2=z::w::l)(h3:2 < y.2.2.length)(hl:y.2.2.length < 50)(hA:∀u∈A.getLast?,u.2.2.length<=2):Dz C k vals A x (y::B) (C.tree (A++AD x [q,z]::(w.1,y.2.1,w::l)::B)).enc:=by
 obtain⟨n,sl⟩:=VN (C:=C) (A:=A) (x:=x) (o:=[q]) (B:=y::B) hA
 have sr:=Q4 (C:=C) (A:=A) (x:=x) (o:=[q]) (y:=y) (B:=B)
 rw[Ae h3] at sr
 refine NQ (K:=0) h ho (by decide:1 < 2) sr sl ?_ (nL rfl)
 have hb:(AD x [q]).2.2++y.2.2=q::z::w::l:=by rw[hy];rfl
 have e1:=Us (C:=C.pr++A) (y:=AD x [q]) (z:=y) (E:=B++C.po) (gs:=Hv C (A++x::y::B).length) (t:=C.tp) (a:=(C.pr++A).length) (gi:=C.gP.length) (s:=C.pr.length) (en:=C.pr.length+(A++x::y::B).length) (n:=2) (e:=w) (AN (J3 hl 1) (nL rfl)) (AN (Nat.lt_of_succ_lt h.sm) (nL rfl)) (nL rfl) (by rw[hb];rfl)
 rw[C.enc_eq,show C.pr++((A++AD x [q,z]::(w.1,y.2.1,w::l)::B)++C.po)=G1 (C.pr++A) (AD x [q]) y 2 w (B++C.po) from by unfold G1;rw[hb,AJ,AJ];rfl,show(A++AD x [q,z]::(w.1,y.2.1,w::l)::B).length=(A++x::y::B).length from by rw[AC,AC];rfl]
 exact e1
theorem eS(h:LwAt C k vals (A0++[y]) x B)(ho:Bz k vals x.2.2=o)(h2:o.length < 2)(hy:y.2.2.length<=2)(hB:∀u∈B.head?,u.2.2.length<=2)(hS:EJ (Hv C ((A0++[y])++x::B).length) C.gP.length C.tp gs' t'):Dz C k vals (A0++[y]) x B (CJ (C.pr++((A0++AD y (y.2.2++o)::B)++C.po)) gs' t'):=by
 have sl:=Q5 (C:=C) (A0:=A0) (y:=y) (x:=x) (o:=o) (B:=B)
 rw[decide_eq_false (C2.mpr hy)] at sl
 refine NQ (K:=30) h ho h2 (VM hB) sl ?_ (nL rfl)
 have e1:=Ut (C:=C.pr++A0) (y:=y) (z:=AD x o) (E:=B++C.po) (a:=(C.pr++A0).length+1) (s:=C.pr.length) (en:=C.pr.length+((A0++[y])++x::B).length) (C1 (Nat.add_lt_add_of_le_of_lt hy h2) (nL rfl)) (by have:=h.sm;rw[NR] at this;exact AN (Aa (BJ _ 1) (by rw[DG];exact this)) (nL rfl)) hS
 have hj:¬(C.pr++A0).length+1 < C.pr.length+1:=by rw[AC];exact C2.mpr (DH (BJ _ _))
 rw[show C.pr++((A0++AD y (y.2.2++o)::B)++C.po)=(C.pr++A0)++AD y (y.2.2++(AD x o).2.2)::(B++C.po) from by rw[AJ,AJ];rfl,VO,NR]
 rw[A3 hj]
 exact e1
theorem eU(h:LwAt C k vals [] x (y::B))(ho:Bz k vals x.2.2=o)(h2:o.length < 2)(hy:y.2.2.length<=2)(hS:EJ (Hv C (x::y::B).length) C.gP.length C.tp gs' t'):Dz C k vals [] x (y::B) (CJ (C.pr++((AD x (o++y.2.2)::B)++C.po)) gs' t'):=by
 obtain⟨n,sl⟩:=VN (C:=C) (A:=[]) (x:=x) (o:=o) (B:=y::B) fun u hu=>by cases hu
 refine NQ (K:=30) h ho h2 (VM fun u hu=>by cases hu;exact hy) sl ?_ (nL rfl)
 have e1:=Ut (C:=C.pr) (y:=AD x o) (z:=y) (E:=B++C.po) (a:=C.pr.length) (s:=C.pr.length) (en:=C.pr.length+(x::y::B).length) (C1 (Nat.add_lt_add_of_lt_of_le h2 hy) (nL rfl)) (by have:=h.sm;rw[As] at this;exact AN (Nat.lt_of_succ_lt this) (nL rfl)) hS
 unfold DY
 rw[As]
 rw[A5 (Cc _)]
 exact e1
end
open PySem
section
variable{k:Int}{v:Str}{l:List (Int×Str)}
theorem VP(k:Int)(p:Int×Str)(l:List (Int×Str)):outP' k (p::l)=if k=p.1 then outP' k l else p::outP' k l:=by
 unfold outP'
 rw[Gc]
 by_cases e:k=p.1
 ·rw[A5 e,Ae e.symm];rfl
 ·rw[A3 e,decide_eq_false fun q=>e q.symm];rfl
theorem eV(n:Int):AP n (outP' k l)=if n=k then .none else AP n l:=by
 induction l with
 |nil=>exact(ite_self _).symm
 |cons p l ih=>
  rw[VP,CG]
  by_cases e:k=p.1
  ·rw[A5 e,ih]
   by_cases h:n=k
   ·rw[A5 h,A5 h]
   ·rw[A3 h,A3 h,A3 fun q=>h (q.trans e.symm)]
  ·rw[A3 e,CG,ih]
   by_cases h:n=p.1
   ·rw[A5 h,A5 h,A3 fun q=>e (q.symm.trans h)]
   ·rw[A3 h,A3 h]
theorem K2(h:Asc l):Asc (outP' k l):=List.Pairwise.sublist List.filter_sublist h
theorem Q6(h:AP k l=.none):outP' k l=l:=HW.mpr fun p hp=>by
 rw[decide_eq_false fun e:p.1=k=>Cz.mp h (e▸BU.mpr ⟨p,hp,rfl⟩)];rfl
theorem eW(h:(l.map (·.1)).Nodup)(hv:AP k l=some v):(outP' k l).length+1=l.length:=by
 induction l with
 |nil=>cases hv
 |cons p l ih=>
  have h:=BZ.mp h
  rw[CG] at hv
  rw[VP]
  by_cases e:k=p.1
  ·rw[A5 e,Q6 (Cz.mpr (e▸h.1))];rfl
  ·rw[A3 e] at hv ⊢
   exact A2 (·+1) (ih h.2 hv)
theorem K3(h:Asc l):Bz k [] l=outP' k l:=by
 unfold Bz
 rw[List.map_nil,As]
 exact Mg (L1 (Bg (K2 h))) (K2 h) fun n=>Me n (Bg (K2 h))
theorem VQ(h:Asc l):Bz k [v] l=Bt k v l:=by
 have nd:((outP' k l++[v].map fun v=>(k,v)).map (·.1)).Nodup:=Un (x:=(0,0,l)) (k:=k) (vals:=[v]) (Bg h) (Am _)
 refine Mg (L1 nd) (L1 (My (Bg h))) fun n=>?_
 unfold Bz Bt
 rw[Me n nd,Me n (My (Bg h)),Ol,NH,eV]
 by_cases e:n=k
 ·rw[A5 e,A5 e];exact A5 e
 ·rw[A3 e,A3 e]
  cases AP n l with
  |none=>exact A3 e
  |some w=>rfl
theorem NS(h:Asc l):Asc (Bt k v l):=L1 (My (Bg h))
theorem eX{p:Int×Str}(h:p∈BL k v l):p.1=k\/p∈l:=by
 induction l with
 |nil=>rw[Ar.mp h];exact .inl rfl
 |cons q l ih=>
  rw[Kz] at h
  by_cases e:k=q.1
  ·rw[A5 e] at h
   exact(Au.mp h).imp (fun e=>A2 Prod.fst e) (Aj _)
  ·rw[A3 e] at h
   exact(Au.mp h).elim (fun e=>.inr (e▸AZ)) fun h=>(ih h).imp_right (Aj _)
theorem LP{p:Int×Str}(h:p∈Bt k v l):p.1=k\/p∈l:=eX ((Mc _).mem_iff.mp h)
theorem VR:(Bt k v l).length<=l.length+1:=by unfold Bt;rw[Oq];exact UC k v l
theorem eY:l.length<=(Bt k v l).length:=by
 unfold Bt
 rw[Oq]
 have h:=A2 List.length (Mb k v l)
 rw[A4] at h
 rw[h]
 by_cases e:k∈l.map (·.1)
 ·rw[A5 e,A4];exact Am _
 ·rw[A3 e,AC,A4];exact Cb _
structure NK(l:List Int):Prop where
 nod:l.Nodup
 dm:∀n∈l,n∈B8
theorem NK.sub{l l':List Int}(h:NK l)(s:l'.Sublist l):NK l':=⟨s.nodup h.nod,fun n hn=>h.dm n (s.mem hn)⟩
theorem NK.ins{P Q:List Int}{m:Nat}(h:NK (P++Q))(hm:(m:Int)∉P++Q)(hl:m<=15):NK (P++(m:Int)::Q):=⟨List.perm_middle.nodup_iff.mpr (BZ.mpr ⟨hm,h.nod⟩),fun n hn=>(Au.mp (List.perm_middle.mem_iff.mp hn)).elim (fun e=>e▸Uy hl) (h.dm n)⟩
end
open PySem
noncomputable def Ctx.kS:Ctx->List Int
 |.grp g=>[g]
 |.lft t g h S=>AI S++[g,h,t]
 |.rgt t g h _=>[g,h,t]
noncomputable def Ctx.lo:Ctx->Nat
 |.grp _=>2
 |_=>3
section
variable{T:Tr}{C:Ctx}{R R' A A0 B:List A1}{x y:A1}{k sp:Int}{v:Str}{vals:List Str}{l:List (Int×Str)}
theorem eZ(R:List A1):(Ak R).map (·.1)=AI R:=Ai
theorem VS(R S:List A1):AI (R++S)=AI R++AI S:=AK
theorem Tr.keys(T:Tr):T.pgs.map (·.1)=AI T.rows++T.ins.map (·.1):=by unfold Tr.pgs;rw[AK,eZ]
theorem Tr.used_eq(T:Tr):Ck T.rows T.gs T.top=T.pgs.map (·.1):=by
 rw[T.keys]
 unfold Ck
 cases T with
 |one x=>rfl
 |grp g R=>exact As _
 |two t g h R S=>exact AJ ..
theorem Ctx.keys(C:Ctx)(R:List A1):(C.tree R).pgs.map (·.1)=AI C.pr++(AI R++C.kS):=by
 rw[Tr.keys]
 cases C with
 |grp g=>rfl
 |lft t g h S=>show AI (R++S)++[g,h,t]=_;rw[VS,AJ];rfl
 |rgt t g h S=>show AI (S++R)++[g,h,t]=_;rw[VS,AJ];rfl
theorem VT(w:WF T):NK (T.pgs.map (·.1)):=⟨w.nod,fun n hn=>by obtain⟨q,hq,rfl⟩:=BU.mp hn;exact w.dm q hq⟩
theorem NK.dmq{L:List (Int×Pag)}(h:NK (L.map (·.1))):∀q∈L,q.1∈B8:=fun q hq=>h.dm _ (BU.mpr ⟨q,hq,rfl⟩)
theorem Ctx.sz(C:Ctx)(w:(C.tree R).Sz):C.lo<=R.length/\R.length<=5/\Rows R:=by
 cases C with
 |grp g=>exact w
 |lft t g h S=>exact w.1
 |rgt t g h S=>exact w.2
theorem Ctx.sz'(C:Ctx)(w:(C.tree R).Sz)(h:C.lo<=R'.length/\R'.length<=5/\Rows R'):(C.tree R').Sz:=by
 cases C with
 |grp g=>exact h
 |lft t g h' S=>exact⟨h,w.2⟩
 |rgt t g h' S=>exact⟨w.1,h⟩
theorem Ctx.around(C:Ctx)(w:(C.tree R).Sz):C.pr.length<=5/\C.po.length<=5/\C.gP.length<=1/\C.gS.length<=1:=by
 cases C with
 |grp g=>exact⟨BK _,BK _,BK _,BK _⟩
 |lft t g h S=>exact⟨BK _,w.2.2.1,BK _,Am _⟩
 |rgt t g h S=>exact⟨w.1.2.1,BK _,Am _,BK _⟩
structure Here(C:Ctx)(k sp:Int)(A:List A1)(x:A1)(B:List A1):Prop where
 wf:WF (C.tree (A++x::B))
 loc:Loc (A++x::B) k A x B
 lof:Loc ((C.pr++A)++x::(B++C.po)) k (C.pr++A) x (B++C.po)
 at_:C.At k sp
 hsp:C.Sp (A++x::B) sp
theorem Here.sz(h:Here C k sp A x B):C.lo<=(A++x::B).length/\(A++x::B).length<=5/\Rows (A++x::B):=C.sz h.wf.sz
theorem Here.row(h:Here C k sp A x B):2<=x.2.2.length/\x.2.2.length<=4:=h.sz.2.2 x (BE _ AZ)
theorem Here.ord(h:Here C k sp A x B):Ord ((C.pr++A)++x::(B++C.po)):=C.row_eq A x B▸h.wf.ord
theorem Here.asc(h:Here C k sp A x B):Asc x.2.2:=h.ord.asc x (BE _ AZ)
theorem Here.ok(h:Here C k sp A x B):CtxOk C (A++x::B) k sp:=⟨h.wf.nod,h.wf.dm,h.hsp,h.at_⟩
theorem Here.lw(h:Here C k sp A x B)(hv:vals.length<=1):LwAt C k vals A x B:=by
 have a:=C.around h.wf.sz
 have l:=h.sz.2.1
 rw[AC,DD] at l
 have sm:(C.pr++A).length+(B++C.po).length < 60:=by
  rw[AC,AC]
  exact Aa (DF (DF a.1 (A9 (BJ _ _) l)) (DF (A9 (A9 (Cb _) (G7 _ _)) l) a.2.1)) (by decide:5+5+(5+5) < 60)
 exact⟨⟨h.lof,Bg h.asc,hv,by rw[AC,DD];exact AN (CB sm) (nL rfl),Aa h.row.2 (nL rfl)⟩,sm,Aa (DF a.2.2.1 a.2.2.2) (nL rfl)⟩
theorem Here.to(h:Here C k sp A x B){d:D}(q:Dz C k vals A x B d):HJ (C.tree (A++x::B)).rows (C.tree (A++x::B)).gs (C.tree (A++x::B)).top k vals d:=by rw[C.row_eq,C.gs_eq,C.top_eq];exact q
theorem K4(A:List A1)(x:A1)(B:List A1):CN (A++x::B)=CN (A++[x]):=by cases A <;> rfl
theorem K5(A:List A1)(x:A1)(l:List (Int×Str))(B:List A1):CN (A++AD x l::B)=CN (A++[x]):=by cases A <;> rfl
theorem Ctx.Sp.of{R R':List A1}(h:C.Sp R sp)(e:CN R'=CN R):C.Sp R' sp:=by
 cases C with
 |rgt t g h' S=>exact e.trans h
 |_=>trivial
theorem Here.wf'(h:Here C k sp A x B)(hn:NK (AI C.pr++(AI R'++C.kS)))(hs:C.lo<=R'.length/\R'.length<=5/\Rows R')(ho:Ord (C.pr++(R'++C.po)))(hk:∀p∈fl (C.pr++(R'++C.po)),0<=p.1/\p.1 < 17):WF (C.tree R'):=by
 rw[<-C.keys] at hn
 exact⟨hn.nod,hn.dmq,C.sz' h.wf.sz hs,C.rows R'▸ho,C.rows R'▸hk⟩
theorem Q7(w:WF T)(k:Int):(∃x,T=.one x)\/∃C sp A x B,T=C.tree (A++x::B)/\Here C k sp A x B:=by
 cases T with
 |one x=>exact .inl ⟨x,rfl⟩
 |grp g R=>
  obtain⟨A,x,B,h⟩:=VI k R (fun e=>by rw[e] at w;exact absurd w.sz.1 (by decide)) (VJ w.ord w.sz.2.2)
  cases h.eq
  exact .inr ⟨.grp g,0,A,x,B,rfl,w,h,by rw[show B++(Ctx.grp g).po=B from As B];exact h,trivial,trivial⟩
 |two t g k' R S=>
  have hr:Rows (R++S):=fun r hr=>(Bv.mp hr).elim (w.sz.1.2.2 r) (w.sz.2.2.2 r)
  cases R with
  |nil=>exact absurd w.sz.1.1 (by decide)
  |cons r0 R=>
  cases S with
  |nil=>exact absurd w.sz.2.1 (by decide)
  |cons s0 S=>
  obtain⟨A,x,B,h⟩:=VI k ((r0::R)++s0::S) (by simp) (VJ w.ord hr)
  have rg:∀c,A=r0::R++c->s0::S=c++x::B->(∃y,Tr.two t g k' (r0::R) (s0::S)=.one y)\/∃C sp A x B,Tr.two t g k' (r0::R) (s0::S)=C.tree (A++x::B)/\Here C k sp A x B:=fun c e1 e2=>by
   refine .inr ⟨.rgt t g k' (r0::R),CN (c++x::B),c,x,B,by rw[e2];rfl,?_⟩
   have low:∀y∈c++[x],y.1<=k:=fun y hy=>h.low y (by rw[e1,AJ];exact BE _ hy)
   refine⟨e2▸w,⟨rfl,fun y hy=>low y (List.mem_of_mem_tail hy),h.high⟩,?_,?_,rfl⟩
   ·show Loc ((r0::R++c)++x::(B++[])) k (r0::R++c) x (B++[])
    rw[As,<-e1];exact⟨rfl,h.low,h.high⟩
   ·show CN (c++x::B)<=k
    cases c with
    |nil=>exact low x AZ
    |cons c0 c=>exact low c0 AZ
  rcases List.append_eq_append_iff.mp h.eq.symm with⟨c,e1,e2⟩ |⟨c,e1,e2⟩
  ·cases c with
   |nil=>exact rg [] (by rw[e1,As,As]) e2.symm
   |cons c0 c=>
    cases e2
    refine .inr ⟨.lft t g k' (s0::S),0,A,x,c,by rw[e1];rfl,e1▸w,⟨rfl,h.low,fun y hy=>h.high y (CE _ hy)⟩,⟨rfl,h.low,h.high⟩,h.high s0 (BE _ AZ),trivial⟩
  ·exact rg c e1 e2
end
open PySem
section
variable{T:Tr}{C:Ctx}{R R' A A0 B:List A1}{x y:A1}{k sp:Int}{v:Str}{l:List (Int×Str)}
theorem VU{l:List (Int×Str)}(h:4 < l.length)(h5:l.length<=5):∃a b e ps,l=a::b::e::ps/\1 < ps.length/\ps.length<=3/\(e::ps).length<=4:=by
 cases l with
 |nil=>exact absurd h (by decide)
 |cons a l=>cases l with
  |nil=>exact absurd h (by decide:¬4 < 1)
  |cons b l=>cases l with
   |nil=>exact absurd h (by decide:¬4 < 2)
   |cons e ps=>
    have h1:1 < ps.length:=HZ (HZ (HZ h))
    have h2:ps.length<=2:=Ff (Ff (Ff h5))
    exact⟨a,b,e,ps,rfl,h1,Eh h2,DH (Eh h2)⟩
theorem HQ{α:Type}{l:List α}{n:Nat}(h:l.length=n+1):∃a m,l=a::m/\m.length=n:=by
 cases l with
 |nil=>cases h
 |cons a m=>exact⟨a,m,rfl,Nat.succ.inj h⟩
theorem ee{α:Type}{l:List α}(h:l.length=6):∃a b c d e f,l=[a,b,c,d,e,f]:=by
 obtain⟨a,l1,e1,h1⟩:=HQ h
 obtain⟨b,l2,e2,h2⟩:=HQ h1
 obtain⟨c,l3,e3,h3⟩:=HQ h2
 obtain⟨d,l4,e4,h4⟩:=HQ h3
 obtain⟨e,l5,e5,h5⟩:=HQ h4
 obtain⟨f,e6⟩:=List.length_eq_one_iff.mp h5
 exact⟨a,b,c,d,e,f,by rw[e1,e2,e3,e4,e5,e6]⟩
theorem eg(w:WF (C.tree R)):(C.tree R).pgs.length<=15:=by
 have e:=A2 List.length (C.keys R)
 rw[A4] at e
 rw[e]
 have h:=C.sz w.sz
 have s:=w.sz
 unfold AI
 rw[AC,AC,A4,A4]
 cases C with
 |grp g=>exact A9 (C9 (EP h.2.1 1) 0) (nL rfl)
 |lft t g k S=>
  have:(AI S++[g,k,t]).length=S.length+3:=by unfold AI;rw[AC,A4];rfl
  show 0+(R.length+(AI S++[g,k,t]).length)<=15
  rw[this]
  exact A9 (C9 (DF h.2.1 (EP s.2.2.1 3)) 0) (nL rfl)
 |rgt t g k S=>exact A9 (DF s.1.2.1 (EP h.2.1 3)) (nL rfl)
theorem VV(h:Rows (A++x::B))(h2:2<=l.length)(h4:l.length<=4):Rows (A++AD x l::B):=fun r hr=>(Bv.mp hr).elim (fun hr=>h r (CE _ hr)) fun hr=>(Au.mp hr).elim (fun e=>e▸⟨h2,h4⟩) fun hr=>h r (BE _ (Aj _ hr))
theorem Loc.lo(h:Loc R k A x B):A≠[]->x.1<=k:=fun hA=>h.low x (by
 cases A with
 |nil=>exact absurd rfl hA
 |cons a A=>exact BE _ (DE x))
theorem Q8(hk:0<=k/\k < 17)(h:∀p∈fl (A++x::B),0<=p.1/\p.1 < 17)(hp:∀p∈l,p.1=k\/p∈x.2.2):∀p∈fl (A++AD x l::B),0<=p.1/\p.1 < 17:=by
 rw[GU] at h ⊢
 intro p hm
 rcases Bv.mp hm with hm |hm
 ·exact h p (CE _ hm)
 ·rcases Bv.mp hm with hm |hm
  ·exact(hp p hm).elim (fun e=>e▸hk) fun hm=>h p (BE _ (CE _ hm))
  ·exact h p (BE _ (BE _ hm))
theorem Ef(C:Ctx)(A:List A1)(x:A1)(B:List A1):C.pr++((A++x::B)++C.po)=(C.pr++A)++x::(B++C.po):=by rw[AJ,AJ];rfl
theorem Here.key(h:Here C k sp A x B):∀p∈fl ((C.pr++A)++x::(B++C.po)),0<=p.1/\p.1 < 17:=C.row_eq A x B▸h.wf.key
theorem Here.nk(h:Here C k sp A x B):NK (AI C.pr++(AI (A++x::B)++C.kS)):=C.keys _▸VT h.wf
theorem Here.set(h:Here C k sp A x B)(hk:0<=k/\k < 17)(ha:Asc l)(hp:∀p∈l,p.1=k\/p∈x.2.2):Ord ((C.pr++A)++AD x l::(B++C.po))/\∀p∈fl ((C.pr++A)++AD x l::(B++C.po)),0<=p.1/\p.1 < 17:=⟨VF h.ord ha hp h.lof.lo h.lof.high,Q8 hk h.key hp⟩
theorem Here.fit(h:Here C k sp A x B)(hk:0<=k/\k < 17)(ha:Asc l)(hp:∀p∈l,p.1=k\/p∈x.2.2)(h2:2<=l.length)(h4:l.length<=4):WF (C.tree (A++AD x l::B)):=by
 have s:=h.set hk ha hp
 exact h.wf' (by rw[LJ];exact h.nk) (Q2 A (AD x l) x B▸⟨h.sz.1,h.sz.2.1,VV h.sz.2.2 h2 h4⟩) (Ef C A _ B▸s.1) (Ef C A _ B▸s.2)
inductive PutOk(T:Tr)(k:Int)(v:Str):Prop where
 |mk (T':Tr):WF T'->HJ T.rows T.gs T.top k [v] T'.enc->Ho T.pd k v T'.pd->PutOk T k v
theorem eh(h:Here C k sp A x B)(hk:0<=k/\k < 17):PutOk (C.tree (A++x::B)) k v:=by
 have np:=VQ (k:=k) (v:=v) h.asc
 have lw:=h.lw (vals:=[v]) (Am _)
 have xn:=Bg h.asc
 have xl:x.2.2.length < 60:=Aa h.row.2 (nL rfl)
 have rl:(A++x::B).length < 50:=Aa h.sz.2.1 (nL rfl)
 have nd:Nd (GL (Ak C.pr) (A++x::B) C.M C.no (C.Q0 sp)):=C.pgs _ h.hsp▸h.wf.nod
 by_cases h4:(Bt k v x.2.2).length<=4
 ·have h2:2<=(Bt k v x.2.2).length:=A9 h.row.1 eY
  refine⟨C.tree (A++AD x (Bt k v x.2.2)::B),h.fit hk (NS h.asc) (fun p hp=>LP hp) h2 h4,h.to (np▸Q3 lw (np▸h4) (np▸h2)),?_⟩
  exact Ctx.put h.wf.nod h.wf.dm h.hsp (h.hsp.of ((K5 ..).trans (K4 ..).symm)) h.at_ fun H=>dZ H nd h.loc rl xn xl h4
 ·obtain⟨a,b,e,ps,hL,q1,q2,q3⟩:=VU (Nat.not_le.mp h4) (A9 VR (DH h.row.2))
  obtain⟨m,hm⟩:=free_ex ((C.tree (A++x::B)).pgs.map (·.1))
  have cl:=eg h.wf
  have ml:m<=15:=A9 hm.le (by rw[A4];exact cl)
  have s:=h.set (l:=Bt k v x.2.2) hk (NS h.asc) fun p hp=>LP hp
  have ho:Ord (C.pr++(B7 A x a b e ps m B++C.po)):=by
   have:=Py (P:=[a,b]) (e:=e) (Q:=ps) (m:=m) s.1 hL
   unfold B7;rw[Ef];exact this
  have hf:fl (C.pr++(B7 A x a b e ps m B++C.po))=fl ((C.pr++A)++AD x (Bt k v x.2.2)::(B++C.po)):=by
   unfold B7;rw[Ef,GU,GU,hL];rfl
  have hkk:∀p∈fl (C.pr++(B7 A x a b e ps m B++C.po)),0<=p.1/\p.1 < 17:=hf▸s.2
  have hR:Rows (B7 A x a b e ps m B):=fun r hr=>(Bv.mp hr).elim (fun hr=>h.sz.2.2 r (CE _ hr)) fun hr=>(Au.mp hr).elim (fun e=>e▸⟨(by decide:2<=2),(by decide:2<=4)⟩) fun hr=>(Au.mp hr).elim (fun e=>e▸⟨DH (BH q1),q3⟩) fun hr=>h.sz.2.2 r (BE _ (Aj _ hr))
  have hn:NK (AI C.pr++(AI (B7 A x a b e ps m B)++C.kS)):=by
   have n:=h.nk
   have hm':=hm.no
   rw[C.keys] at hm'
   rw[FW] at n hm'
   rw[Ps]
   have e1:AI C.pr++((AI A++x.2.1::AI B)++C.kS)=(AI C.pr++(AI A++[x.2.1]))++(AI B++C.kS):=by rw[AJ,AJ,AJ];rfl
   have e2:AI C.pr++((AI A++x.2.1::(m:Int)::AI B)++C.kS)=(AI C.pr++(AI A++[x.2.1]))++(m:Int)::(AI B++C.kS):=by rw[AJ,AJ,AJ];rfl
   rw[e1] at n hm'
   rw[e2]
   exact n.ins hm' ml
  have ls:(B7 A x a b e ps m B).length=(A++x::B).length+1:=by rw[LF,AC];rfl
  by_cases h5:(A++x::B).length < 5
  ·refine⟨C.tree (B7 A x a b e ps m B),h.wf' hn ⟨by rw[ls];exact Eh h.sz.1,by rw[ls];exact h5,hR⟩ ho hkk,h.to (eN lw (np.trans hL) q1 h5 ?_),?_⟩
   ·have:=(C.tree (A++x::B)).used_eq
    rw[C.row_eq,C.gs_eq,C.top_eq] at this
    rw[this];exact hm
   ·refine Ctx.put h.wf.nod h.wf.dm h.hsp (h.hsp.of ((K5 ..).trans (K4 ..).symm)) h.at_ fun H=>de H nd h.loc h5 xn xl hL q1 ?_
    rw[<-C.pgs _ h.hsp];exact Ju hm cl
  ·have h5:(A++x::B).length=5:=Fe h.sz.2.1 (C2.mp h5)
   have bad:3<=C.pr.length+C.po.length->Rows C.pr->Rows C.po->False:=fun h3 hp ho'=>by
    have:=eM ho (fun r hr=>(Bv.mp hr).elim (hp r) fun hr=>(Bv.mp hr).elim (hR r) (ho' r)) hkk
    rw[AC,AC,ls,h5] at this
    exact absurd (A9 (EP h3 6) (by rw[Dd,Nat.add_comm C.po.length];exact this)) (by decide)
   cases C with
   |lft t g k' S=>exact(bad (A9 h.wf.sz.2.1 (G7 _ _)) (fun _ h=>absurd h B3) h.wf.sz.2.2.2).elim
   |rgt t g k' S=>exact(bad h.wf.sz.1.1 h.wf.sz.1.2.2 fun _ h=>absurd h B3).elim
   |grp g=>
    obtain⟨r1,r2,r3,r4,r5,r6,h6⟩:=ee (ls.trans (A2 (·+1) h5))
    rw[h6] at ho hkk hR hn
    have n0:NK (AI [r1,r2,r3,r4,r5,r6]++[g]):=hn
    obtain⟨m2,f2⟩:=free_ex (AI [r1,r2,r3,r4,r5,r6]++[g])
    have n2:NK ((AI [r1,r2,r3,r4,r5,r6]++[g])++[(m2:Int)]):=NK.ins (Q:=[]) (by rw[As];exact n0) (by rw[As];exact f2.no) (A9 f2.le (by decide:7<=15))
    obtain⟨m3,f3⟩:=free_ex ((AI [r1,r2,r3,r4,r5,r6]++[g])++[(m2:Int)])
    have n3:NK (((AI [r1,r2,r3,r4,r5,r6]++[g])++[(m2:Int)])++[(m3:Int)]):=NK.ins (Q:=[]) (by rw[As];exact n2) (by rw[As];exact f3.no) (A9 f3.le (by decide:8<=15))
    have AB:A.length+B.length < 80/\A.length < 5:=by
     rw[AC,DD] at h5
     exact⟨C1 (Nat.lt_of_lt_of_eq (Cc _) h5) (nL rfl),Nat.lt_of_lt_of_eq (Ei (CC _)) h5⟩
    refine⟨.two m3 g m2 [r1,r2,r3] [r4,r5,r6],⟨n3.nod,NK.dmq (L:=(Tr.two m3 g m2 [r1,r2,r3] [r4,r5,r6]).pgs) n3,⟨⟨(by decide:3<=3),(by decide:3<=5),fun r hr=>hR r (CE [r4,r5,r6] hr)⟩,(by decide:3<=3),(by decide:3<=5),fun r hr=>hR r (BE [r1,r2,r3] hr)⟩,ho,hkk⟩,?_,?_⟩
    ·have at_:SetAt (A++x::B) k [v] A x B:=by have:=lw.at_;rw[show B++(Ctx.grp g).po=B from As B] at this;exact this
     refine Ph at_ (by rw[np];exact Nat.not_le.mp h4) ?_
     rw[np,hL]
     show NE A x (a::b::e::ps) B [(g,(A++x::B).length)] .none _
     rw[h5]
     have hm':Free (AI (A++x::B)++[g]) m:=(Tr.keys (.grp g (A++x::B)))▸hm
     have:=dM (A:=A) (B:=B) (x:=x) (a:=a) (b:=b) (e:=e) (ps:=ps) (g:=g) (m:=m) (m2:=m2) (m3:=m3) (by unfold Ck;rw[show(A++AD x (a::b::e::ps)::B).map (·.2.1)=AI (A++x::B) from LJ ..,Option.toList_none,As];exact hm') (by rw[h6];exact f2) (by rw[h6];exact f3) AB.1 AB.2
     rw[h6] at this
     exact this
    ·exact eG h.wf.nod h.wf.dm h.loc rl xn xl hL q1 hm cl h6 f2 f3
end
open PySem
section
variable{T:Tr}{C:Ctx}{x:A1}{k:Int}{v:Str}{l:List (Int×Str)}{vals:List Str}
theorem Ord.one(h:Asc x.2.2):Ord [x]:=⟨fun r hr=>Ar.mp hr▸h,List.pairwise_singleton _ _⟩
theorem ei:Loc [x] k [] x []:=⟨rfl,fun _ h=>absurd h B3,fun _ h=>absurd h B3⟩
theorem VW(w:WF (.one x))(ha:Asc l)(h4:l.length<=4)(hk:0<=k/\k < 17)(hp:∀p∈l,p.1=k\/p∈x.2.2):WF (.one (AD x l)):=
 ⟨w.nod,fun q hq=>by rw[Ar.mp hq];exact w.dm (x.2.1,Af x.2.2) AZ,h4,.one ha,Q8 (A:=[]) (B:=[]) hk w.key hp⟩
theorem VX(w:WF (.one x))(hv:vals.length<=1):SetAt [x] k vals [] x []:=⟨ei,Bg (w.ord.asc x AZ),hv,(by decide:1 < 100),Aa w.sz (nL rfl)⟩
theorem ek(w:WF (.one x))(hk:0<=k/\k < 17):PutOk (Tr.one x) k v:=by
 have ha:Asc x.2.2:=w.ord.asc x AZ
 have np:=VQ (k:=k) (v:=v) ha
 have at_:=VX (k:=k) (vals:=[v]) w (Am _)
 have xd:x.2.1∈B8:=w.dm _ AZ
 have xl:x.2.2.length < 60:=Aa w.sz (nL rfl)
 by_cases h4:(Bt k v x.2.2).length<=4
 ·refine⟨.one (AD x (Bt k v x.2.2)),VW w (NS ha) h4 hk (fun p hp=>LP hp),?_,eE xd (Bg ha) xl h4⟩
  have:=Pf (gs:=[]) (t:=.none) at_ (by rw[np];exact h4) (.inr rfl)
  rw[np] at this
  exact this
 ·obtain⟨a,b,e,ps,hL,q1,q2,q3⟩:=VU (Nat.not_le.mp h4) (A9 VR (DH w.sz))
  obtain⟨m,f1⟩:=free_ex [x.2.1]
  obtain⟨m2,f2⟩:=free_ex (AI (B7 [] x a b e ps m []))
  have n1:NK ([x.2.1]++[(m:Int)]):=NK.ins (P:=[x.2.1]) (Q:=[]) (VT w) f1.no (A9 f1.le (by decide:1<=15))
  have n2:NK ([x.2.1,(m:Int)]++[(m2:Int)]):=NK.ins (P:=[x.2.1,(m:Int)]) (Q:=[]) n1 f2.no (A9 f2.le (by decide:2<=15))
  have o1:Ord ([]++AD x (Bt k v x.2.2)::[]):=VF (A:=[]) (B:=[]) (k:=k) w.ord (NS ha) (fun p hp=>LP hp) (fun h=>absurd rfl h) fun _ h=>absurd h B3
  have o2:=Py (P:=[a,b]) (e:=e) (Q:=ps) (m:=m) o1 hL
  have k1:∀p∈fl ([]++AD x (Bt k v x.2.2)::[]),0<=p.1/\p.1 < 17:=Q8 (A:=[]) (B:=[]) hk w.key fun p hp=>LP hp
  have ef:fl (B7 [] x a b e ps m [])=fl ([]++AD x (Bt k v x.2.2)::[]):=by
   show fl ([]++AD x [a,b]::(e.1,(m:Int),e::ps)::[])=_
   rw[GU,GU,show(AD x (Bt k v x.2.2)).2.2=a::b::e::ps from hL]
   rfl
  refine⟨.grp m2 (B7 [] x a b e ps m []),⟨n2.nod,NK.dmq (L:=(Tr.grp m2 (B7 [] x a b e ps m [])).pgs) n2,⟨(by decide:2<=2),(by decide:2<=5),fun r hr=>(Au.mp hr).elim (fun e=>e▸⟨(by decide:2<=2),(by decide:2<=4)⟩) fun hr=>(Ar.mp hr)▸⟨DH (BH q1),q3⟩⟩,o2,ef▸k1⟩,?_,eF xd (Bg ha) xl hL q1 f1 f2⟩
  refine Ph at_ (by rw[np];exact Nat.not_le.mp h4) ?_
  rw[np,hL]
  exact dJ (A:=[]) (B:=[]) f1 (m2:=m2) (by unfold Ck;rw[List.map_nil,As,Option.toList_none,As];exact f2) (nL rfl)
theorem er(w:WF T)(hk:0<=k/\k < 17):PutOk T k v:=by
 rcases Q7 w k with⟨x,rfl⟩ |⟨C,sp,A,x,B,rfl,h⟩
 ·exact ek w hk
 ·exact eh h hk
end
open PySem
inductive RemOk(T:Tr)(k:Int):Prop where
 |mk (T':Tr):WF T'->HJ T.rows T.gs T.top k [] T'.enc->EY T.pd k T'.pd->RemOk T k
section
variable{T:Tr}{C:Ctx}{R' A A0 B:List A1}{x y:A1}{k sp:Int}{v:Str}{l:List (Int×Str)}
structure Chg(C:Ctx)(k sp:Int)(A:List A1)(x:A1)(B:List A1)(v:Str)(R':List A1):Prop where
 h:Here C k sp A x B
 v:AP k x.2.2=some v
 nk:NK (AI C.pr++(AI R'++C.kS))
 rows:Rows R'
 ord:Ord (C.pr++(R'++C.po))
 key:∀p∈fl (C.pr++(R'++C.po)),0<=p.1/\p.1 < 17
 hs:CN R'=CN (A++x::B)
 hr:∀{σ s d pl},HT σ s d (C.tree (A++x::B)).root pl (pf (GL (Ak C.pr) (A++x::B) C.M C.no (C.Q0 sp)))->RemR 50 σ s d (C.tree (A++x::B)).root pl (pf (GL (Ak C.pr) (A++x::B) C.M C.no (C.Q0 sp))) C.no k (pf (GL (Ak C.pr) R' C.M C.no (C.Q0 sp)))
theorem Chg.nd(c:Chg C k sp A x B v R'):NK ((C.tree R').pgs.map (·.1)):=C.keys R'▸c.nk
theorem Chg.ok(c:Chg C k sp A x B v R'):CtxOk C R' k sp:=⟨c.nd.nod,c.nd.dmq,c.h.hsp.of c.hs,c.h.at_⟩
theorem Chg.hr'(c:Chg C k sp A x B v R'){σ:List Cell}{s d:Nat}{pl:Int->B0}(H:HT σ s d (C.tree (A++x::B)).root pl (pf (C.tree (A++x::B)).pgs)):RemR 50 σ s d (C.tree (A++x::B)).root pl (pf (C.tree (A++x::B)).pgs) C.no k (pf (C.tree R').pgs):=by
 rw[C.pgs _ c.h.hsp,C.pgs R' c.ok.hsp]
 rw[C.pgs _ c.h.hsp] at H
 exact c.hr H
theorem Chg.len(c:Chg C k sp A x B v R'):(A++x::B).length < 50:=Aa c.h.sz.2.1 (nL rfl)
theorem Chg.same(c:Chg C k sp A x B v R')(hl:R'.length=(A++x::B).length)(hw:Dz C k [] A x B (C.tree R').enc):RemOk (C.tree (A++x::B)) k:=by
 have z:C.lo<=R'.length:=hl▸c.h.sz.1
 refine⟨C.tree R',c.h.wf' c.nk ⟨z,hl▸c.h.sz.2.1,c.rows⟩ c.ord c.key,c.h.to hw,c.h.ok.rem c.h.loc c.len (Bg c.h.asc) c.v c.ok ?_ fun H=>c.hr' H⟩
 cases C <;> exact z
theorem LQ{a n:Nat}(h1:a<=n)(h2:n<=a+1):n=a\/n=a+1:=(Nat.lt_or_eq_of_le h2).imp_left fun h=>Fe (Bm h) h1
theorem Q9{a n:Nat}(h1:a<=n)(h2:n<=a+2):n=a\/n=a+1\/n=a+2:=(Nat.lt_or_eq_of_le h2).elim (fun h=>(LQ h1 (Bm h)).imp_right .inl) fun e=>.inr (.inr e)
theorem Rows.app{R S:List A1}(h:Rows R)(h':Rows S):Rows (R++S):=fun r hr=>(Bv.mp hr).elim (h r) (h' r)
theorem VY{t g h:Int}{R S R1 S1:List A1}(n:NK ((Tr.two t g h R S).pgs.map (·.1)))(ho:Ord (R++S))(hk:∀p∈fl (R++S),0<=p.1/\p.1 < 17)(hr:Rows (R++S))(e:R1++S1=R++S)(z1:3<=R1.length/\R1.length<=5)(z2:3<=S1.length/\S1.length<=5):WF (.two t g h R1 S1):=by
 have n1:NK ((Tr.two t g h R1 S1).pgs.map (·.1)):=by
  rw[Tr.keys] at n ⊢
  show NK (AI (R1++S1)++[g,h,t])
  rw[e];exact n
 rw[<-e] at ho hk hr
 exact⟨n1.nod,n1.dmq,⟨⟨z1.1,z1.2,fun r q=>hr r (CE _ q)⟩,z2.1,z2.2,fun r q=>hr r (BE _ q)⟩,ho,hk⟩
theorem VZ{t g h:Int}{R S:List A1}(n:NK ((Tr.two t g h R S).pgs.map (·.1)))(ho:Ord (R++S))(hk:∀p∈fl (R++S),0<=p.1/\p.1 < 17)(hr:Rows (R++S))(l5:(R++S).length=5):WF (.grp g (R++S)):=by
 have n1:NK ((Tr.grp g (R++S)).pgs.map (·.1)):=by
  rw[Tr.keys] at n ⊢
  exact n.sub (List.Sublist.append_left (.cons_cons _ (List.nil_sublist _)) _)
 exact⟨n1.nod,n1.dmq,⟨by show 2<=(R++S).length;rw[l5];decide,BQ l5,hr⟩,ho,hk⟩
noncomputable def Ip(C:Ctx)(k:Int)(A:List A1)(x:A1)(B R':List A1):Prop:=∀{gs' t'},EJ (Hv C (R'.length+1)) C.gP.length C.tp gs' t'->Dz C k [] A x B (CJ (C.pr++(R'++C.po)) gs' t')
theorem Chg.less_ok(c:Chg C k sp A x B v R')(hl:R'.length+1=(A++x::B).length)(hw:Ip C k A x B R')(z:C.lo<=R'.length)(s:EJ (Hv C (R'.length+1)) C.gP.length C.tp (Hv C R'.length) C.tp):RemOk (C.tree (A++x::B)) k:=by
 refine⟨C.tree R',c.h.wf' c.nk ⟨z,A9 (Cb _) (A9 (BQ hl) c.h.sz.2.1),c.rows⟩ c.ord c.key,c.h.to (C.enc_eq R'▸hw s),c.h.ok.rem c.h.loc c.len (Bg c.h.asc) c.v c.ok ?_ fun H=>c.hr' H⟩
 cases C <;> exact z
theorem et{g:Int}(c:Chg (.grp g) k sp A x B v [y])(hw:Ip (.grp g) k A x B [y]):RemOk ((Ctx.grp g).tree (A++x::B)) k:=by
 have n1:NK [y.2.1]:=NK.sub (l:=[y.2.1,g]) c.nk (.cons_cons _ (.cons _ .slnil))
 exact⟨.one y,⟨n1.nod,NK.dmq (L:=(Tr.one y).pgs) n1,(c.rows y AZ).2,c.ord,c.key⟩,c.h.to (hw dQ),eD c.h.ok c.h.loc c.len (Bg c.h.asc) c.v c.ok fun H=>c.hr' H⟩
section
variable{t g h':Int}{r0 r1 s0 s1:A1}{S R0:List A1}
theorem ew(c:Chg (.lft t g h' (s0::s1::S)) k sp A x B v (r0::R0))(hw:Ip (.lft t g h' (s0::s1::S)) k A x B (r0::R0))(r2:(r0::R0).length=2)(h3:3 < (s0::s1::S).length):RemOk ((Ctx.lft t g h' (s0::s1::S)).tree (A++x::B)) k:=by
 have sS:=c.h.wf.sz.2
 have rws:(r0::R0++[s0])++(s1::S)=(r0::R0)++(s0::s1::S):=by rw[AJ];rfl
 have l3:(r0::R0++[s0]).length=3:=by rw[AC,r2];rfl
 refine⟨.two t g h' (r0::R0++[s0]) (s1::S),VY c.nd c.ord c.key (c.rows.app sS.2.2) rws ⟨BQ l3.symm,A9 (BQ l3) (nL rfl)⟩ ⟨Bm h3,Nat.le_of_succ_le sS.2.1⟩,c.h.to ?_,dz c.h.ok c.h.loc c.len (Bg c.h.asc) c.v c.ok (BQ r2) h3 sS.2.1 fun H=>c.hr' H⟩
 show Dz _ _ _ _ _ _ (CJ ((r0::R0++[s0])++(s1::S)) [(g,(r0::R0++[s0]).length),(h',(s1::S).length)] (some t))
 rw[rws,l3]
 refine hw ?_
 rw[r2]
 exact(Uv (LQ (Bm h3) (Ff sS.2.1))).1
theorem ez(c:Chg (.lft t g h' (s0::S)) k sp A x B v (r0::R0))(hw:Ip (.lft t g h' (s0::S)) k A x B (r0::R0))(r2:(r0::R0).length=2)(s3:(s0::S).length=3):RemOk ((Ctx.lft t g h' (s0::S)).tree (A++x::B)) k:=by
 have l5:(r0::R0++s0::S).length=5:=by rw[AC,r2,s3]
 refine⟨.grp g (r0::R0++s0::S),VZ c.nd c.ord c.key (c.rows.app c.h.wf.sz.2.2.2) l5,c.h.to ?_,eB c.h.ok c.h.loc c.len (Bg c.h.asc) c.v c.ok (BQ r2) (BQ s3) fun H=>c.hr' H⟩
 show Dz _ _ _ _ _ _ (CJ (r0::R0++s0::S) [(g,(r0::R0++s0::S).length)] .none)
 rw[l5]
 refine hw ?_
 show EJ [(g,(r0::R0).length+1),(h',(s0::S).length)] 0 (some t) _ _
 rw[r2,s3];exact Uu.1
theorem Va(C:Ctx)(h:C.po=[])(R:List A1):R++C.po=R:=by rw[h,As]
theorem f0(c:Chg (.rgt t g h' (r0::S++[r1])) k sp A x B v (s0::R0))(hw:Ip (.rgt t g h' (r0::S++[r1])) k A x B (s0::R0))(r2:(s0::R0).length=2)(h3:3 < (r0::S++[r1]).length):RemOk ((Ctx.rgt t g h' (r0::S++[r1])).tree (A++x::B)) k:=by
 have sS:=c.h.wf.sz.1
 have e:=Va (.rgt t g h' (r0::S++[r1])) rfl (s0::R0)
 have le:(r0::S++[r1]).length=(r0::S).length+1:=AC
 have h5:=A9 (BQ le.symm) sS.2.1
 have h4:=Nat.lt_of_lt_of_eq h3 le
 have rws:r0::S++(r1::s0::R0)=(r0::S++[r1])++(s0::R0):=by rw[AJ];rfl
 refine⟨.two t g h' (r0::S) (r1::s0::R0),VY c.nd (by have:=c.ord;rw[e] at this;exact this) (by have:=c.key;rw[e] at this;exact this) (Rows.app sS.2.2 c.rows) rws ⟨Bm h4,Nat.le_of_succ_le h5⟩ ⟨by show 3<=(s0::R0).length+1;rw[r2];decide,by show(s0::R0).length+1<=5;rw[r2];decide⟩,c.h.to ?_,e9 c.h.ok c.h.loc c.len (Bg c.h.asc) c.v c.ok (BQ r2) h3 fun H=>c.hr' H⟩
 show Dz _ _ _ _ _ _ (CJ (r0::S++r1::s0::R0) [(g,(r0::S).length),(h',(s0::R0).length+1)] (some t))
 rw[rws,r2,<-e]
 refine hw ?_
 show EJ [(g,(r0::S++[r1]).length),(h',(s0::R0).length+1)] 1 (some t) _ _
 rw[le,r2]
 exact(Uv (LQ (Bm h4) (Ff h5))).2
theorem f6(c:Chg (.rgt t g h' (r0::S)) k sp A x B v (s0::R0))(hw:Ip (.rgt t g h' (r0::S)) k A x B (s0::R0))(r2:(s0::R0).length=2)(s3:(r0::S).length=3):RemOk ((Ctx.rgt t g h' (r0::S)).tree (A++x::B)) k:=by
 have e:=Va (.rgt t g h' (r0::S)) rfl (s0::R0)
 have l5:(r0::S++s0::R0).length=5:=by rw[AC,r2,s3]
 refine⟨.grp g (r0::S++s0::R0),VZ c.nd (by have:=c.ord;rw[e] at this;exact this) (by have:=c.key;rw[e] at this;exact this) (Rows.app c.h.wf.sz.1.2.2 c.rows) l5,c.h.to ?_,eC c.h.ok c.h.loc c.len (Bg c.h.asc) c.v c.ok (BQ r2) (BQ s3) fun H=>c.hr' H⟩
 show Dz _ _ _ _ _ _ (CJ (r0::S++s0::R0) [(g,(r0::S++s0::R0).length)] .none)
 rw[l5,<-e]
 refine hw ?_
 show EJ [(g,(r0::S).length),(h',(s0::R0).length+1)] 1 (some t) _ _
 rw[r2,s3];exact Uu.2
end
theorem Chg.less(c:Chg C k sp A x B v R')(hl:R'.length+1=(A++x::B).length)(hw:Ip C k A x B R'):RemOk (C.tree (A++x::B)) k:=by
 have z2:C.lo<=R'.length+1:=A9 c.h.sz.1 (BQ hl.symm)
 have z5:R'.length+1<=5:=A9 (BQ hl) c.h.sz.2.1
 cases C with
 |grp g=>
  rcases Nat.lt_or_ge R'.length 2 with h1 |h1
  ·obtain⟨y,rfl⟩:∃y,R'=[y]:=List.length_eq_one_iff.mp (Fe (Bm h1) (Ff z2))
   exact et c hw
  ·exact c.less_ok hl hw h1 (dR (Q9 h1 (Ff z5)))
 |lft t g h' S=>
  have sS:3<=S.length/\S.length<=5:=⟨c.h.wf.sz.2.1,c.h.wf.sz.2.2.1⟩
  rcases Nat.lt_or_ge R'.length 3 with h1 |h1
  ·have r2:R'.length=2:=Fe (Bm h1) (Ff z2)
   clear h1 z2 z5 hl
   obtain⟨r0,R0,rfl,_⟩:=HQ r2
   rcases Nat.lt_or_ge 3 S.length with h3 |h3
   ·obtain⟨s0,S,rfl⟩:=List.exists_cons_of_length_pos (AN (nL rfl) h3)
    obtain⟨s1,S,rfl⟩:=List.exists_cons_of_length_pos (AN (by decide:0 < 2) (HZ h3))
    exact ew c hw r2 h3
   ·have s3:=Fe h3 sS.1
    obtain⟨s0,S,rfl,_⟩:=HQ s3
    exact ez c hw r2 s3
  ·exact c.less_ok hl hw h1 (dS (LQ h1 (Ff z5)) (Q9 sS.1 sS.2))
 |rgt t g h' S=>
  have sS:3<=S.length/\S.length<=5:=⟨c.h.wf.sz.1.1,c.h.wf.sz.1.2.1⟩
  rcases Nat.lt_or_ge R'.length 3 with h1 |h1
  ·have r2:R'.length=2:=Fe (Bm h1) (Ff z2)
   clear h1 z2 z5 hl
   obtain⟨s0,R0,rfl,_⟩:=HQ r2
   rcases Nat.lt_or_ge 3 S.length with h3 |h3
   ·obtain⟨r0,S,rfl⟩:=List.exists_cons_of_length_pos (AN (nL rfl) h3)
    rcases J1 S with rfl |⟨S,r1,rfl⟩
    ·exact absurd h3 (by decide:¬3 < 1)
    ·rw[J0] at *
     exact f0 c hw r2 h3
   ·have s3:=Fe h3 sS.1
    obtain⟨r0,S,rfl,_⟩:=HQ s3
    exact f6 c hw r2 s3
  ·exact c.less_ok hl hw h1 (dT (LQ h1 (Ff z5)) (Q9 sS.1 sS.2))
end
open PySem
section
variable{T:Tr}{C:Ctx}{R' A A0 B:List A1}{x y:A1}{k sp:Int}{v:Str}{l o:List (Int×Str)}{q z w:Int×Str}
theorem QC{p:Int×Str}(h:p∈outP' k l):p.1=k\/p∈l:=.inr (List.mem_filter.mp h).1
theorem f7{l:List (Int×Str)}(h:2 < l.length):∃l' z,l=l'++[z]/\2<=l'.length/\l'.length+1=l.length:=by
 rcases J1 l with rfl |⟨l',z,rfl⟩
 ·exact absurd h (by decide)
 ·rw[J0] at *
  have e:(l'++[z]).length=l'.length+1:=AC
  exact⟨l',z,rfl,Bm (Nat.lt_of_lt_of_eq h e),e.symm⟩
theorem f8{l:List (Int×Str)}(h:2 < l.length):∃z w l',l=z::w::l'/\2<=(w::l').length/\(w::l').length+1=l.length:=by
 cases l with
 |nil=>exact absurd h (by decide)
 |cons z l=>cases l with
  |nil=>exact absurd h (by decide:¬2 < 1)
  |cons w l=>exact⟨z,w,l,rfl,Bm h,rfl⟩
theorem Here.rg(h:Here C k sp A x B){σ:List Cell}{s d:Nat}{r:Int}{pl:Int->B0}(H:HT σ s d r pl (pf (GL (Ak C.pr) (A++x::B) C.M C.no (C.Q0 sp)))):RG σ s d r pl (Ak C.pr) A x B C.M C.no (C.Q0 sp) k:=
 ⟨H,C.pgs _ h.hsp▸h.wf.nod,h.loc,Aa h.sz.2.1 (nL rfl),fun y hy=>Aa (h.sz.2.2 y hy).2 (nL rfl)⟩
theorem Vb(A:List A1)(y x:A1)(l m:List (Int×Str))(s:Int)(B:List A1):AI (A++AD y l::(s,x.2.1,m)::B)=AI (A++y::x::B):=by rw[Jz,Jz];rfl
theorem Vc(h:Rows (A++y::x::B)){a b:A1}(ha:2<=a.2.2.length/\a.2.2.length<=4)(hb:2<=b.2.2.length/\b.2.2.length<=4):Rows (A++a::b::B):=fun r hr=>(Bv.mp hr).elim (fun hr=>h r (CE _ hr)) fun hr=>(Au.mp hr).elim (fun e=>e▸ha) fun hr=>(Au.mp hr).elim (fun e=>e▸hb) fun hr=>h r (BE _ (Aj _ (Aj _ hr)))
theorem Vd(h:Rows (A++y::x::B)){a:A1}(ha:2<=a.2.2.length/\a.2.2.length<=4):Rows (A++a::B):=fun r hr=>(Bv.mp hr).elim (fun hr=>h r (CE _ hr)) fun hr=>(Au.mp hr).elim (fun e=>e▸ha) fun hr=>h r (BE _ (Aj _ (Aj _ hr)))
theorem jc{F G:List A1}{a b:A1}{P Q:List (Int×Str)}{e:Int×Str}(ho:Ord (F++a::b::G))(ha:a.2.2≠[])(hj:a.2.2++b.2.2=P++e::Q):Ord (F++AD a P::(e.1,b.2.1,e::Q)::G)/\fl (F++AD a P::(e.1,b.2.1,e::Q)::G)=fl (F++a::b::G):=by
 refine⟨Py (x:=AD a (a.2.2++b.2.2)) (P:=P) (e:=e) (Q:=Q) (m:=b.2.1) (Pz ho ha) hj,?_⟩
 rw[GU,GU]
 refine A2 (fl F++·) ?_
 show P++(e::Q++fl G)=a.2.2++(b.2.2++fl G)
 rw[<-AJ,<-AJ,hj]
theorem Ve(F G:List A1)(a b:A1):fl (F++AD a (a.2.2++b.2.2)::G)=fl (F++a::b::G):=by
 rw[GU,GU]
 exact A2 (fl F++·) (AJ ..)
theorem Vf(A:List A1)(y x:A1)(l:List (Int×Str))(B:List A1):(AI (A++AD y l::B)).Sublist (AI (A++y::x::B)):=by
 rw[FW,Jz]
 exact List.Sublist.append_left (.cons_cons _ (.cons _ (List.Sublist.refl _))) _
theorem Vg{P S:List Int}{R R':List A1}(h:NK (P++(AI R++S)))(q:(AI R').Sublist (AI R)):NK (P++(AI R'++S)):=h.sub (List.Sublist.append_left (List.Sublist.append_right q _) _)
theorem sw{l:List A1}{y x:A1}{m:List A1}(P:List A1):(P++(l++[y]))++x::m=(P++l)++y::x::m:=by rw[<-AJ,<-Cm]
section
theorem Here.one(hk:0<=k/\k < 17)(hq:outP' k x.2.2=[q])(h:Here C k sp A x B):Ord ((C.pr++A)++AD x [q]::(B++C.po))/\∀p∈fl ((C.pr++A)++AD x [q]::(B++C.po)),0<=p.1/\p.1 < 17:=hq▸h.set (l:=outP' k x.2.2) hk (K2 h.asc) fun p hp=>QC hp
variable(hk:0<=k/\k < 17)(hv:AP k x.2.2=some v)(hq:outP' k x.2.2=[q])
include hk hv hq
theorem f9(h:Here C k sp (A0++[y]) x B)(hy:2 < y.2.2.length):RemOk (C.tree ((A0++[y])++x::B)) k:=by
 have ry:=h.sz.2.2 y (CE _ (BE _ (DE y)))
 have hR:Rows (A0++y::x::B):=Cm A0 y x B▸h.sz.2.2
 have s:=h.one hk hq
 rw[sw] at s
 obtain⟨l,z,hl,l1,l2⟩:=f7 hy
 have J:=jc (P:=l) (e:=z) (Q:=[q]) s.1 (by rw[hl];exact List.append_ne_nil_of_right_ne_nil _ (List.cons_ne_nil _ _)) (by rw[hl,AJ];rfl)
 refine Chg.same (R':=A0++AD y l::(z.1,x.2.1,[z,q])::B) ⟨h,hv,by rw[Vb,Cm];exact h.nk,Vc hR ⟨l1,A9 (Cb _) (A9 (BQ l2) ry.2)⟩ ⟨(by decide:2<=2),(by decide:2<=4)⟩,Ef C A0 _ _▸J.1,Ef C A0 _ _▸J.2▸s.2,by rw[K5,<-Cm];exact(K4 A0 y (x::B)).symm,fun H=>?_⟩ ?_ ?_
 ·have:=dq (h.rg H) (by rw[hq];exact(by decide:1 < 2)) hl hy
  rw[hq] at this;exact this
 ·rw[<-Cm,AC,AC];rfl
 ·exact eP (h.lw (BK _)) ((K3 h.asc).trans hq) (by decide:1 < 2) hl hy (Aa ry.2 (nL rfl))
theorem Vh(h:Here C k sp A x (y::B))(hy:2 < y.2.2.length)(hA:∀u∈A.getLast?,u.2.2.length<=2):RemOk (C.tree (A++x::y::B)) k:=by
 have ry:=h.sz.2.2 y (BE _ (Aj _ AZ))
 have s:=h.one hk hq
 obtain⟨z,w,l,hl,l1,l2⟩:=f8 hy
 have J:=jc (F:=C.pr++A) (a:=AD x [q]) (b:=y) (G:=B++C.po) (P:=[q,z]) (e:=w) (Q:=l) s.1 (List.cons_ne_nil _ _) (by rw[hl];rfl)
 refine Chg.same (R':=A++AD x [q,z]::(w.1,y.2.1,w::l)::B) ⟨h,hv,by rw[Vb];exact h.nk,Vc h.sz.2.2 ⟨(by decide:2<=2),(by decide:2<=4)⟩ ⟨l1,A9 (Cb _) (A9 (BQ l2) ry.2)⟩,Ef C A _ _▸J.1,?_,(K5 ..).trans (K4 ..).symm,fun H=>?_⟩ ?_ ?_
 ·have:=J.2
  rw[Ef]
  exact fun p hp=>s.2 p (this▸hp)
 ·have:=du (h.rg H) (by rw[hq];exact(by decide:1 < 2)) hl hy hA
  rw[hq] at this;exact this
 ·rw[AC,AC];rfl
 ·exact eR (h.lw (BK _)) ((K3 h.asc).trans hq) hl hy (Aa ry.2 (nL rfl)) hA
theorem Vi(h:Here C k sp (A0++[y]) x B)(hy:y.2.2.length<=2)(hB:∀u∈B.head?,u.2.2.length<=2):RemOk (C.tree ((A0++[y])++x::B)) k:=by
 have ry:=h.sz.2.2 y (CE _ (BE _ (DE y)))
 have hR:Rows (A0++y::x::B):=Cm A0 y x B▸h.sz.2.2
 have s:=h.one hk hq
 rw[sw] at s
 have o:=Pz s.1 (fun e=>by rw[e] at ry;exact absurd ry.1 (by decide))
 have f:=Ve (C.pr++A0) (B++C.po) y (AD x [q])
 have ly:(y.2.2++[q]).length=y.2.2.length+1:=AC
 have hl:(A0++AD y (y.2.2++[q])::B).length+1=((A0++[y])++x::B).length:=by rw[<-Cm,AC,AC];rfl
 refine Chg.less (R':=A0++AD y (y.2.2++[q])::B) ⟨h,hv,Vg h.nk (Cm A0 y x B▸Vf ..),Vd hR ⟨ly▸Eh ry.1,A9 (BQ ly) (DH (Eh hy))⟩,Ef C A0 _ _▸o,?_,by rw[K5,<-Cm];exact(K4 A0 y (x::B)).symm,fun H=>?_⟩ hl ?_
 ·rw[Ef]
  exact fun p hp=>s.2 p (f▸hp)
 ·have:=dv (h.rg H) (by rw[hq];exact(by decide:1 < 2)) hy hB
  rw[hq] at this;exact this
 ·exact fun S=>eS (h.lw (BK _)) ((K3 h.asc).trans hq) (by decide:1 < 2) hy hB (hl▸S)
theorem fA(h:Here C k sp [] x (y::B))(hy:y.2.2.length<=2):RemOk (C.tree (x::y::B)) k:=by
 have ry:=h.sz.2.2 y (Aj _ AZ)
 have s:=h.one hk hq
 have o:=Pz (A:=C.pr++[]) (y:=AD x [q]) (z:=y) (B:=B++C.po) s.1 (List.cons_ne_nil _ _)
 have f:=Ve (C.pr++[]) (B++C.po) (AD x [q]) y
 refine Chg.less (A:=[]) (R':=[]++AD x ([q]++y.2.2)::B) ⟨h,hv,Vg h.nk (Vf [] x y _ B),Vd (A:=[]) h.sz.2.2 ⟨Eh ry.1,DH (Eh hy)⟩,Ef C [] _ _▸o,?_,rfl,fun H=>?_⟩ rfl ?_
 ·rw[Ef]
  exact fun p hp=>s.2 p (f▸hp)
 ·have:=dw (h.rg H) (by rw[hq];exact(by decide:1 < 2)) hy
  rw[hq] at this;exact this
 ·exact fun S=>eU (h.lw (BK _)) ((K3 h.asc).trans hq) (by decide:1 < 2) hy S
end
theorem fB(h:Here C k sp A x B)(hk:0<=k/\k < 17):RemOk (C.tree (A++x::B)) k:=by
 have np:=K3 (k:=k) h.asc
 have lw:=h.lw (vals:=[]) (BK _)
 have xn:=Bg h.asc
 cases hv:AP k x.2.2 with
 |none=>
  have eo:=Q6 hv
  have:=Q3 lw (by rw[np,eo];exact h.row.2) (by rw[np,eo];exact h.row.1)
  rw[np,eo] at this
  exact⟨_,h.wf,h.to this,h.ok.none h.loc (Aa h.sz.2.1 (nL rfl)) xn hv⟩
 |some v=>
  have ol:=eW xn hv
  by_cases h2:2<=(outP' k x.2.2).length
  ·have s:=h.set (l:=outP' k x.2.2) hk (K2 h.asc) fun p hp=>QC hp
   have o4:(outP' k x.2.2).length<=4:=A9 (V7 k _) h.row.2
   refine Chg.same (R':=A++AD x (outP' k x.2.2)::B) ⟨h,hv,by rw[LJ];exact h.nk,VV h.sz.2.2 h2 o4,Ef C A _ B▸s.1,Ef C A _ B▸s.2,(K5 ..).trans (K4 ..).symm,fun H=>dj (h.rg H) h2⟩ (Q2 ..) ?_
   have:=Q3 lw (by rw[np];exact o4) (by rw[np];exact h2)
   rw[np] at this;exact this
  ·obtain⟨q,hq⟩:=List.length_eq_one_iff.mp (Fe (Bm (Nat.not_le.mp h2)) (Ff (A9 h.row.1 (BQ ol.symm))))
   rcases J1 A with rfl |⟨A0,y,rfl⟩
   ·cases B with
    |nil=>exact absurd (A9 (by cases C <;> first |exact(by decide:2<=2) |exact(by decide:2<=3):2<=C.lo) h.sz.1) (by show ¬2<=1;decide)
    |cons u B=>exact(Nat.lt_or_ge 2 u.2.2.length).elim (fun g=>Vh hk hv hq h g fun _ h=>absurd h (Option.not_mem_none _)) fun g=>fA hk hv hq h g
   ·rw[J0] at *
    rcases Nat.lt_or_ge 2 y.2.2.length with hy |hy
    ·exact f9 hk hv hq h hy
    ·cases B with
     |nil=>exact Vi hk hv hq h hy fun _ h=>absurd h (Option.not_mem_none _)
     |cons u B=>exact(Nat.lt_or_ge 2 u.2.2.length).elim (fun g=>Vh hk hv hq h g fun u hu=>by rw[J2] at hu;cases hu;exact hy) fun g=>Vi hk hv hq h hy fun u hu=>by cases hu;exact g
end
open PySem
section
variable{T:Tr}{x:A1}{k:Int}{v:Str}
theorem fC(w:WF (.one x))(hk:0<=k/\k < 17):RemOk (.one x) k:=by
 have ha:Asc x.2.2:=w.ord.asc x AZ
 have np:=K3 (k:=k) ha
 have at_:=VX (k:=k) (vals:=[]) w (BK _)
 have xd:x.2.1∈B8:=w.dm _ AZ
 have o4:(outP' k x.2.2).length<=4:=A9 (V7 k _) w.sz
 have st:=Pf (gs:=[]) (t:=.none) at_ (by rw[np];exact o4) (.inr rfl)
 rw[np] at st
 cases hv:AP k x.2.2 with
 |none=>
  rw[Q6 hv] at st
  exact⟨.one x,w,st,eH xd (Bg ha) hv⟩
 |some v=>exact⟨.one (AD x (outP' k x.2.2)),VW w (K2 ha) o4 hk (fun p hp=>QC hp),st,eI xd (Bg ha) (Aa w.sz (nL rfl)) hv⟩
theorem fD(w:WF T)(hk:0<=k/\k < 17):RemOk T k:=by
 rcases Q7 w k with⟨x,rfl⟩ |⟨C,sp,A,x,B,rfl,h⟩
 ·exact fC w hk
 ·exact fB h hk
end
open PySem
section
variable{α β:Type}{f g:Int->Option α}{n:Int}{A B:List (Int×α)}
theorem QD(n:Int)(A B:List (Int×α)):AP n (A++B)=(AP n A).or (AP n B):=by
 induction A with
 |nil=>rfl
 |cons p A ih=>
  rw[List.cons_append,CG,CG,ih]
  by_cases h:n=p.1
  ·rw[A5 h,A5 h];rfl
  ·rw[A3 h,A3 h]
theorem Dic.app(h:Dic A f)(k:Dic B g)(hn:∀n,f n=.none\/g n=.none):Dic (A++B) fun n=>(f n).or (g n):=⟨by
 rw[AK]
 refine FD.mpr ⟨h.nod,k.nod,fun a ha b hb e=>?_⟩
 subst e
 exact(hn a).elim (fun q=>Cz.mp ((h.look a).trans q) ha) fun q=>Cz.mp ((k.look a).trans q) hb,
 fun n=>by rw[QD,h.look,k.look]⟩
noncomputable def fm(p:Int×α->Bool)(e:Int×α->β)(f:Int->Option α)(n:Int):Option β:=(f n).bind fun y=>cond (p (n,y)) (some (e (n,y))) .none
theorem QE(p:Int×α->Bool)(e:Int×α->β)(ds:List Int):((D8 ds f).filter p).map (fun q=>(q.1,e q))=D8 ds (fm p e f):=by
 induction ds with
 |nil=>rfl
 |cons n ds ih=>
  rw[Hp,Hp,<-ih]
  unfold fm
  cases f n with
  |none=>rfl
  |some y=>
   show((((n,y)::D8 ds f).filter p).map _)=Av (cond (p (n,y)) _ _) _ _
   rw[Gc]
   cases p (n,y) <;> rfl
theorem Bc.fm(h:Bc f)(p:Int×α->Bool)(e:Int×α->β):Bc (U.fm p e f):=fun n y q=>by
 cases hf:f n with
 |none=>unfold U.fm at q;rw[hf] at q;cases q
 |some x=>exact h n x hf
end
section
variable{a b:PF}{k:Int}{xs:List (Str×V)}
noncomputable def HR(b:PF)(p:Int×D):Bool:=!(b.f p.1).isSome
open Classical in
noncomputable def K6(a:PF)(p:Int×D):Bool:=!decide (a.f p.1=some p.2)
noncomputable def GV(p:Int×D):D:=Ap (.fr p.1)
noncomputable def HS(p:Int×D):D:=Ap (.wr p.1 p.2)
noncomputable def GW(a b:PF):Cy:=fun n=>(fm (HR b) GV a.f n).or (fm (K6 a) HS b.f n)
open Classical in
theorem fE(n:Int)(a b:PF):(GW a b n).toList=(d1 a.f b.f n).map Ap:=by
 unfold GW fm d1
 cases hx:a.f n with
 |none=>cases hy:b.f n with
  |none=>rfl
  |some y=>
   show(cond (!decide (a.f n=some y)) (some (HS (n,y))) .none).toList=_
   rw[hx,decide_eq_false (by intro e;cases e)];rfl
 |some x=>cases hy:b.f n with
  |none=>
   show((cond (!(b.f n).isSome) (some (GV (n,x))) .none).or .none).toList=_
   rw[hy];rfl
  |some y=>
   show((cond (!(b.f n).isSome) (some (GV (n,x))) .none).or (cond (!decide (a.f n=some y)) (some (HS (n,y))) .none)).toList=List.map Ap (ite _ _ _)
   rw[hy,hx]
   by_cases e:x=y
   ·rw[A5 e,Ae (A2 some e)];rfl
   ·rw[A3 e,decide_eq_false (fun q=>e (Option.some.inj q))];rfl
theorem fF(a b:PF)(ds:List Int):(D8 ds (GW a b)).map (·.2)=(ds.flatMap (d1 a.f b.f)).map Ap:=by
 induction ds with
 |nil=>rfl
 |cons n ds ih=>
  rw[Hp,List.flatMap_cons,AK,<-ih,<-fE]
  cases GW a b n <;> rfl
theorem fG(ga:Good a)(gb:Good b):Dic (((AF a.f).filter (HR b)).map (fun q=>(q.1,GV q))++((AF b.f).filter (K6 a)).map (fun q=>(q.1,HS q))) (GW a b)/\Bc (GW a b):=by
 have s1:=ga.dm.fm (HR b) GV
 have s2:=gb.dm.fm (K6 a) HS
 constructor
 ·unfold AF
  rw[QE,QE]
  refine(Dic.of s1).app (Dic.of s2) fun n=>?_
  unfold fm
  cases hy:b.f n with
  |none=>exact .inr rfl
  |some y=>cases a.f n with
   |none=>exact .inl rfl
   |some x=>
    refine .inl ?_
    show cond (!(b.f n).isSome) _ _=_
    rw[hy];rfl
 ·intro n y e
  unfold GW at e
  cases h1:fm (HR b) GV a.f n with
  |some z=>exact s1 n z h1
  |none=>rw[h1] at e;exact s2 n y e
noncomputable def QF(a b:PF):List Cell:=[.fdct false ((AF a.f).map Aq),.fdct false ((AF b.f).map Aq)]
noncomputable def fH:List (Str×V):=[("a",.loc 0),("b",.loc 1)]
theorem fJ{σ:List Cell}{m:Nat}{es:List (Int×V)}{c:Bool}(h:Hc σ[m]?=some (false,es))(hc:(AP k es).isSome=c):Fh σ (.val (.d (.int k))) (.val (.loc m))=some c:=Ba (a:=(false,es)) (bnd (a:=m) rfl h) (bnd (a:=(false,k)) rfl (BM Fo (A2 some hc)))
theorem fL{σ:List Cell}{m:Nat}{es:List (Int×V)}{w:V}(h:Hc σ[m]?=some (false,es))(hl:AP k es=some w):CL σ (.val (.loc m)) (.val (.d (.int k)))=some w:=Ba (a:=(false,es)) (bnd (a:=m) rfl h) (bnd (a:=(false,k)) rfl (BM Fo hl))
theorem fM{G:Gl}{fn:Fn}{K i:Nat}{e e':Expr}{ap p:Pos}{st:St}{σ:List Cell}{es:List (Int×V)}{w:V}(hok:true=Dn e ap p 1)(hb:Ev G fn K e st (.val (.loc i)) ⟨xs,σ⟩)(hs:σ[i]?=some (.fdct false es))(ha:Sl G fn K [e'] ⟨xs,σ⟩ [.d (.int k)] ⟨xs,σ⟩)(hw:(AP k es).getD (.d .none)=w):Ev G fn (K+1) (.Call (.Attribute e "get" ap) [e'] [] p) st (.val w) ⟨xs,σ⟩:=fun n=>by
 refine BM hok.symm (bnd (bnd (hb n) rfl) (bnd (ha n) ?_))
 show(if (JB _ σ[i]? == Ka σ[i]?)=true then KZ G _ i _ _ ⟨xs,σ⟩ σ[i]? else .none)=_
 rw[hs]
 exact Dp (c:=_=_) rfl ((A5 (c:=(("get" : Str) ="get")) (e:=.none) rfl).trans (AQ (a:=(R.val w,σ)) (bnd (a:=V.d (D.int k)) rfl (bnd (a:=(false,k)) rfl (BM Fo (by rw[hw])))) rfl))
open Classical in
theorem fN{y:D}(ga:Good a)(gb:Good b)(hy:b.f k=some y):Gi ((a.f k).getD .none) y=some (decide (a.f k=some y)):=by
 have py:=gb.pg k y hy
 cases hx:a.f k with
 |none=>
  rw[decide_eq_false (by intro e;cases e)]
  refine Hr rfl (IX py 27) ?_
  cases py <;> rfl
 |some x=>
  have px:=ga.pg k x hx
  have:=Hr (IX px 27) (IX py 27) (TW px py)
  rw[show decide (some x=some y)=decide (x=y) from decide_eq_decide.mpr ⟨Option.some.inj,A2 some⟩]
  exact this
theorem fO(ga:Good a)(gb:Good b):Cl gl OU 40 [.d (B2 a),.d (B2 b)] [] (.fresh (((CH a.f b.f++[Rec.cm b.r]).map Ap).map V.d)) []:=by
 have D:=fG ga gb
 have l16:∀f:Cy,(AF f).length<=lim:=fun f=>A9 HC (nL rfl)
 have hs0:A8 [("old",V.d (B2 a)),("new",V.d (B2 b))] [("old",V.d (B2 a)),("new",V.d (B2 b))]:=.refl
 refine Cl.u (K:=30) (Cw rfl rfl (AX rfl (Cu rfl rfl (BA (AH (IY (σ:=[]) (fun n=>rfl) (iX (pn hs0 rfl rfl) rfl) (Bg FO))) (BA (AH (IY (fun n=>rfl) (iX (pn hs0 rfl rfl) rfl) (Bg FO))) Cv)) (tN rfl (tO rfl))) ?_)) rfl
 refine AX rfl (Ac (Aw (ds:=(((AF a.f).filter (HR b)).map (fun q=>(q.1,GV q))).map BB) (Eb (σ':=[.fdct false ((AF a.f).map Aq),.dct false ((AF b.f).map Aq)]) (g:=fun p:Int×Mine.D=>V.d (.int p.1)) (h:=fun p=>V.d (BB (p.1,GV p))) (b:=HR b) (l:=AF a.f) (ys:=[("b",.loc 1)]) (CF rfl (pR rfl rfl) ?_) rfl rfl rfl (.cons rfl .nil) rfl (fun p hp zs hz=>⟨GP (Hk (pn hz rfl rfl) (pn hz rfl rfl) (fJ rfl (by rw[Fs gb])) ?_),fun _=>?_⟩) (l16 _) rfl) rfl ?_) rfl) ?_
 ·exact A2 (fun l=>some (l,_)) Ai
 ·show(!((b.f p.1).map V.d).isSome)=HR b p
  unfold HR;rw[Option.isSome_map]
 ·exact AH (Az (vs:=[.d (.int p.1),.d (GV p)]) (sN hz rfl rfl (sZ (Az (vs:=[.d (.str "free"),.d (.int p.1)]) (sK (BW Ml) (sZ (pn hz rfl rfl))) rfl (by decide)))) rfl (by decide))
 ·rw[Ai]
  exact(A2 C3 Ai.symm).trans (B6 _)
 refine AX rfl (Ac (Aw (ds:=(((AF b.f).filter (K6 a)).map (fun q=>(q.1,HS q))).map BB) (Eb (σ':=QF a b) (g:=fun p:Int×Mine.D=>V.d (.int p.1)) (h:=fun p=>V.d (BB (p.1,HS p))) (b:=K6 a) (l:=AF b.f) (ys:=fH) (CF rfl (pR rfl rfl) ?_) rfl rfl rfl (.cons rfl (.cons rfl .nil)) rfl (fun p hp zs hz=>?_) (l16 _) rfl) rfl ?_) rfl) ?_
 ·exact A2 (fun l=>some (l,_)) Ai
 ·have hy:=(GM.mp hp).2
  have gy:CL (QF a b) (.val (.loc 1)) (.val (.d (.int p.1)))=some (.d p.2):=fL rfl (by rw[Fs gb,hy];rfl)
  refine⟨GP (An rfl (r₁:=.val (.d ((a.f p.1).getD .none))) (fM rfl (pn hz rfl rfl) rfl (sZ (pn hz rfl rfl)) ?_) (BF rfl (pn hz rfl rfl) (pn hz rfl rfl) gy) (Fp (fN ga gb hy) rfl)),fun _=>?_⟩
  ·rw[Fs ga];cases a.f p.1 <;> rfl
  ·exact AH (Az (vs:=[.d (.int p.1),.d (HS p)]) (sN hz rfl rfl (sZ (Az (vs:=[.d (.str "write"),.d (.int p.1),.d p.2]) (sK (BW L4) (sN hz rfl rfl (sZ (BF rfl (pn hz rfl rfl) (pn hz rfl rfl) gy)))) rfl (by decide)))) rfl (by decide))
 ·rw[Ai]
  exact(A2 C3 Ai.symm).trans (B6 _)
 refine CR (r₁:=.fresh (((CH a.f b.f++[Rec.cm b.r]).map Ap).map V.d)) rfl (Bf (Ag (L6 (σ':=QF a b) (g:=fun p:Int×Mine.D=>V.d (BB p)) (u:=fun p=>.d (.int p.1)) (w:=fun p=>.d p.2) (h:=fun p=>.d p.2) (b:=fun _=>true) (l:=AF (GW a b)) (ys:=[]) (Jd (fun _=>rfl) (C7 (fun _=>rfl) (r₁:=.fresh (((AF (GW a b)).map BB).map V.d)) (Ag (x:=.fresh (((((AF a.f).filter (HR b)).map (fun q=>(q.1,GV q))++((AF b.f).filter (K6 a)).map (fun q=>(q.1,HS q))).map BB).map V.d)) (pR rfl rfl) (pR rfl rfl) ?_) ?_) ?_) rfl rfl rfl .nil rfl rfl (by decide) (fun _=>rfl) (fun p _ zs hz=>⟨HD,fun _=>kN hz rfl rfl⟩) (l16 _) rfl) (BS (sZ (Az (v:=.d (Ap (.cm b.r))) (sK (BW CU) (sZ (iX (pR rfl rfl) rfl))) rfl (by decide))) rfl) ?_)) ?_
 ·rw[AK,AK]
  refine GQ rfl rfl rfl ?_
  have:=D.1.len D.2
  rw[AC] at this
  rw[A4,A4 (f:=BB),A4 (f:=V.d),A4 (f:=BB)]
  exact A9 this (by decide:16<=lim)
 ·exact Uo (D.1.sorted D.2)
 ·exact A2 (fun l=>some (l,_)) Ai
 ·have e:List.map (fun p:Int×Mine.D=>V.d p.2) ((AF (GW a b)).filter fun _=>true)=((CH a.f b.f).map Ap).map V.d:=by
   rw[HW.mpr fun _ _=>rfl]
   exact Ai.symm.trans (A2 (List.map V.d) (fF a b B8))
  rw[e]
  exact Tu (m:=[Rec.cm b.r]) (A9 (EP (Mj _ _) 1) (nL rfl))
 ·exact AQ (PZ 8 _) rfl
end
open PySem
noncomputable def Iq(l:List Rec):Prop:=∀x∈l,Bs x=false
theorem fP:∀(Y X:List Rec),Iq Y->By (X++Y)=By X:=by
 intro Y
 induction Y with
 |nil=>intro X _;rw[As]
 |cons y Y ih=>
  intro X h
  rw[show X++y::Y=(X++[y])++Y from by rw[AJ];rfl,ih (X++[y]) fun x hx=>h x (Aj _ hx),Tz _ _ (h y AZ)]
open Classical in
theorem Vj{f g:Cy}{n:Int}{x:Rec}(h:x∈d1 f g n):Bs x=false/\∀m,CS m x=decide (n=m):=by
 unfold d1 at h
 cases hf:f n with
 |none=>
  cases hg:g n with
  |none=>rw[hf,hg] at h;exact absurd h B3
  |some y=>rw[hf,hg] at h;rw[Ar.mp h];exact⟨rfl,fun _=>rfl⟩
 |some z=>
  cases hg:g n with
  |none=>rw[hf,hg] at h;rw[Ar.mp h];exact⟨rfl,fun _=>rfl⟩
  |some y=>
   rw[hf,hg] at h
   by_cases e:z=y
   ·have h:x∈if z=y then [] else [Rec.wr n y]:=h
    rw[A5 e] at h
    exact absurd h B3
   ·have h:x∈if z=y then [] else [Rec.wr n y]:=h
    rw[A3 e] at h
    rw[Ar.mp h];exact⟨rfl,fun _=>rfl⟩
theorem NT(f g:Cy):Iq (CH f g):=fun x hx=>by
 obtain⟨n,_,h⟩:=List.mem_flatMap.mp hx
 exact(Vj h).1
theorem fQ{l:List Rec}(h:Iq l)(n:Nat):Iq (l.take n):=fun x hx=>h x (I0 hx)
noncomputable def EL(a b:PF):List Rec:=CH a.f b.f++[.cm b.r]
noncomputable def Bl:PF->List PF->List Rec
 |_,[]=>[]
 |a,t::ts=>EL a t++Bl t ts
noncomputable def CZ:PF->List PF->PF
 |a,[]=>a
 |_,t::ts=>CZ t ts
theorem LR(a:PF)(ts us:List PF):Bl a (ts++us)=Bl a ts++Bl (CZ a ts) us:=by
 induction ts generalizing a with
 |nil=>rfl
 |cons t ts ih=>exact(A2 (EL a t++·) (ih t)).trans (AJ ..).symm
theorem Vk(a:PF)(ts us:List PF):CZ a (ts++us)=CZ (CZ a ts) us:=by
 induction ts generalizing a with
 |nil=>rfl
 |cons t ts ih=>exact ih t
theorem Vl{l:List Rec}(h:Iq l):l.filter Bs=[]:=List.filter_eq_nil_iff.mpr fun x hx=>by rw[h x hx];exact CT
theorem Vm(l:List Rec)(r:Int)(m:List Rec)(h:Iq l):((l++[Rec.cm r]++m).filter Bs).length=(m.filter Bs).length+1:=by
 rw[List.filter_append,List.filter_append,Vl h];exact DD ..
theorem fR(a:PF)(ts:List PF):((Bl a ts).filter Bs).length=ts.length:=by
 induction ts generalizing a with
 |nil=>rfl
 |cons t ts ih=>exact(Vm _ _ _ (NT _ _)).trans (A2 (·+1) (ih t))
theorem fS(ts:List PF):∀(a:PF) (X:List Rec) (m:Nat),By X=X->∃us vs,ts=us++vs/\By (X++(Bl a ts).take m)=X++Bl a us/\(((Bl a ts).take m).filter Bs).length=us.length:=by
 induction ts with
 |nil=>
  intro a X m h
  refine⟨[],[],rfl,?_,?_⟩
  ·rw[show Bl a []=[] from rfl,List.take_nil,As];exact h
  ·rw[show Bl a []=[] from rfl,List.take_nil];rfl
 |cons t ts ih=>
  intro a X m h
  rw[show Bl a (t::ts)=CH a.f t.f++[.cm t.r]++Bl t ts from rfl]
  by_cases hm:m<=(CH a.f t.f).length
  ·have nt:=fQ (NT a.f t.f) m
   rw[AJ,List.take_append_of_le_length hm]
   refine⟨[],t::ts,rfl,?_,?_⟩
   ·rw[fP _ _ nt,h]
    exact(As X).symm
   ·rw[Vl nt];rfl
  ·have hs:(CH a.f t.f++[Rec.cm t.r]).length<=m:=by rw[AC];exact Nat.lt_of_not_le hm
   obtain⟨us,vs,h1,h2,h3⟩:=ih t (X++EL a t) (m - (CH a.f t.f++[Rec.cm t.r]).length) (by rw[EL,<-AJ];exact P8 _ _ rfl)
   rw[List.take_append,List.take_of_length_le hs]
   refine⟨t::us,vs,A2 (t::·) h1,?_,?_⟩
   ·rw[<-AJ]
    exact h2.trans (AJ ..)
   ·rw[Vm _ _ _ (NT _ _),h3];rfl
noncomputable def K7(n:Int)(l:List Rec):Bool:=l.any (CS n)
theorem fT(l:List Rec):∀(t t':PF),t.r=t'.r->(l.foldl Bh t).r=(l.foldl Bh t').r:=by
 induction l with
 |nil=>exact fun _ _ h=>h
 |cons x l ih=>
  refine fun t t' h=>ih _ _ ?_
  cases x with
  |wr m p=>exact h
  |fr m=>exact h
  |cm k=>rfl
theorem QG(n:Int)(x:Rec)(t:PF):CS n x=false->(Bh t x).f n=t.f n:=by
 cases x with
 |wr m p=>exact fun h=>Ah fun e=>of_decide_eq_false h e.symm
 |fr m=>exact fun h=>Ah fun e=>of_decide_eq_false h e.symm
 |cm k=>exact fun _=>rfl
theorem fU(n:Int)(x:Rec)(t t':PF):CS n x=true->(Bh t x).f n=(Bh t' x).f n:=by
 cases x with
 |wr m p=>exact fun h=>by obtain rfl:m=n:=DI h;exact AY.trans AY.symm
 |fr m=>exact fun h=>by obtain rfl:m=n:=DI h;exact AY.trans AY.symm
 |cm k=>exact fun h=>Bool.noConfusion h
theorem Vn(n:Int)(l:List Rec):∀(t t':PF),(K7 n l=true\/t.f n=t'.f n)->(l.foldl Bh t).f n=(l.foldl Bh t').f n:=by
 induction l with
 |nil=>exact fun _ _ h=>h.resolve_left CT
 |cons x l ih=>
  refine fun t t' h=>ih _ _ ?_
  cases hb:CS n x with
  |true=>exact .inr (fU n x t t' hb)
  |false=>
   have h:(CS n x||K7 n l)=true\/t.f n=t'.f n:=h
   rw[hb,Bool.false_or] at h
   exact h.imp_right fun h=>(QG n x t hb).trans (h.trans (QG n x t' hb).symm)
theorem QH(n:Int)(l:List Rec):∀(t:PF),K7 n l=false->(l.foldl Bh t).f n=t.f n:=by
 induction l with
 |nil=>exact fun _ _=>rfl
 |cons x l ih=>exact fun t h=>(ih _ (Bool.or_eq_false_iff.mp h).2).trans (QG n x t (Bool.or_eq_false_iff.mp h).1)
theorem Vo{f g:Cy}{n m:Int}(h:n≠m):K7 n (d1 f g m)=false:=List.any_eq_false.mpr fun x hx q=>h (DI ((Vj hx).2 n▸q)).symm
open Classical in
theorem fV{f g:Cy}{n:Int}{t:PF}(h:t.f n=f n):((d1 f g n).foldl Bh t).f n=g n:=by
 unfold d1
 cases hf:f n with
 |none=>
  cases hg:g n with
  |none=>exact h.trans hf
  |some y=>exact AY
 |some x=>
  cases hg:g n with
  |none=>exact AY
  |some y=>
   show((if x=y then [] else [Rec.wr n y]).foldl Bh t).f n=_
   split
   ·rename_i e;exact h.trans (hf.trans (A2 some e))
   ·exact AY
theorem fW{f g:Cy}(n:Int)(ds:List Int):∀(t:PF),ds.Nodup->(∀n∈ds,t.f n=f n)->((ds.flatMap (d1 f g)).foldl Bh t).f n=if n∈ds then g n else t.f n:=by
 induction ds with
 |nil=>exact fun t _ _=>(A3 B3).symm
 |cons m ds ih=>
  intro t hn h
  have hn:=BZ.mp hn
  rw[List.flatMap_cons,List.foldl_append,ih _ hn.2 fun k hk=>(QH k _ _ (Vo fun e:k=m=>hn.1 (e▸hk))).trans (h k (Aj _ hk))]
  by_cases hm:n=m
  ·subst hm
   rw[A3 hn.1,A5 AZ]
   exact fV (h n AZ)
  ·rw[QH n _ _ (Vo hm)]
   by_cases q:n∈ds
   ·rw[A5 q,A5 (Aj _ q)]
   ·rw[A3 q,A3 fun x=>(Au.mp x).elim hm q]
theorem fX:B8.Nodup:=by decide
theorem fY{f g:Cy}(hf:Bc f)(hg:Bc g)(r:Int):(CH f g).foldl Bh ⟨f,r⟩=⟨g,r⟩:=by
 have h1:((CH f g).foldl Bh ⟨f,r⟩).f=g:=funext fun n=>by
  unfold CH
  rw[fW n B8 _ fX fun _ _=>rfl]
  by_cases hn:n∈B8
  ·exact A5 hn
  ·rw[A3 hn]
   have a:f n=.none:=by cases e:f n with |none=>rfl |some y=>exact absurd (hf n y e) hn
   have b:g n=.none:=by cases e:g n with |none=>rfl |some y=>exact absurd (hg n y e) hn
   rw[b];exact a
 have h2:((CH f g).foldl Bh ⟨f,r⟩).r=r:=by
  have:∀(l:List Rec) (t:PF),Iq l->(l.foldl Bh t).r=t.r:=by
   intro l
   induction l with
   |nil=>intro t _;rfl
   |cons x l ih=>
    intro t h
    refine(ih _ fun y hy=>h y (Aj _ hy)).trans ?_
    cases x with
    |cm k=>exact absurd (h _ AZ) (by intro e;cases e)
    |wr m p=>rfl
    |fr m=>rfl
  exact this _ _ (NT _ _)
 generalize (CH f g).foldl Bh ⟨f,r⟩=q at *
 cases q
 cases h1;cases h2;rfl
theorem fZ{a b:PF}(ha:Bc a.f)(hb:Bc b.f):(EL a b).foldl Bh a=b:=by
 rw[EL,List.foldl_append,show a=⟨a.f,a.r⟩ from rfl,fY ha hb];rfl
theorem Vp(ts:List PF):∀(a:PF),Bc a.f->(∀t∈ts,Bc t.f)->(Bl a ts).foldl Bh a=CZ a ts:=by
 induction ts with
 |nil=>exact fun _ _ _=>rfl
 |cons t ts ih=>
  intro a ha h
  rw[show Bl a (t::ts)=EL a t++Bl t ts from rfl,List.foldl_append,fZ ha (h t AZ)]
  exact ih t (h t AZ) fun u hu=>h u (Aj _ hu)
theorem Vq:∀(ts:List PF) (a:PF),By (Bl a ts)=Bl a ts:=fun ts a=>by
 rcases J1 ts with rfl |⟨us,u,rfl⟩
 ·rfl
 ·rw[J0,LR]
  show By (Bl a us++(EL (CZ a us) u++[]))=_
  rw[As,EL,<-AJ,P8 _ _ rfl]
  show _=Bl a us++(EL (CZ a us) u++[])
  rw[As,EL,AJ]
open PySem
structure Log3(d:PF)(t1 t2:List PF)(dk:PF):Prop where
 good:∀t∈d::(t1++t2),Good t
 r:dk.r=d.r
 f:∀n,∃us vs,t1=us++vs/\dk.f n=(CZ d us).f n
section
variable{d dk t:PF}{t1 t2 us vs:List PF}
theorem PF.ext'{a b:PF}(h1:a.f=b.f)(h2:a.r=b.r):a=b:=by cases a;cases b;cases h1;cases h2;rfl
theorem Log3.more(h:Log3 d t1 t2 dk)(e:t2=us++vs):Log3 d (t1++us) [] dk:=⟨fun t ht=>h.good t (by
 rw[As] at ht
 rw[e,<-AJ]
 exact(Au.mp ht).elim (fun q=>q▸AZ) fun q=>Aj _ (CE _ q)),h.r,fun n=>by
 obtain⟨u,v,e1,e2⟩:=h.f n
 exact⟨u,v++us,by rw[e1,AJ],e2⟩⟩
theorem Log3.com(h:Log3 d t1 t2 dk)(g:Good t):Log3 d t1 (t2++[t]) dk:=⟨fun u hu=>by
 rw[<-AJ,<-List.cons_append] at hu
 exact(Bv.mp hu).elim (h.good u) fun q=>Ar.mp q▸g,h.r,h.f⟩
theorem Log3.chk(g:Good d):Log3 d [] [] d:=⟨fun t ht=>Ar.mp ht▸g,rfl,fun n=>⟨[],[],rfl,rfl⟩⟩
theorem Vr(t1:List PF)(d:PF):CZ d t1∈d::t1:=by
 induction t1 generalizing d with
 |nil=>exact AZ
 |cons t t1 ih=>exact Aj _ (ih t)
theorem Vs{n:Int}{a:PF}{ts:List PF}(ha:Bc a.f)(h:∀t∈ts,Bc t.f)(hn:K7 n (Bl a ts)=false):(CZ a ts).f n=a.f n:=by
 rw[<-Vp ts a ha h,QH n _ _ hn]
theorem Log3.sp(h:Log3 d t1 t2 dk):Bc d.f/\Bc (CZ d t1).f/\∀t∈t2,Bc t.f:=⟨(h.good d AZ).dm,(h.good _ (by rw[<-List.cons_append];exact CE _ (Vr t1 d))).dm,fun t ht=>(h.good t (Aj _ (BE _ ht))).dm⟩
theorem Log3.fls(h:Log3 d t1 t2 dk)(n:Int):Log3 d t1 t2 (U.fls n (Bl (CZ d t1) t2) dk (CZ d (t1++t2))):=by
 unfold U.fls
 cases hy:(CZ d (t1++t2)).f n with
 |none=>exact h
 |some y=>
  cases hb:(Bl (CZ d t1) t2).any (CS n) with
  |true=>exact h
  |false=>
   refine⟨h.good,h.r,fun m=>?_⟩
   by_cases hm:m=n
   ·subst hm
    refine⟨t1,[],(As _).symm,?_⟩
    show upd dk.f m (some y) m=_
    rw[AY,<-hy,Vk]
    exact Vs h.sp.2.1 h.sp.2.2 hb
   ·obtain⟨u,v,e1,e2⟩:=h.f m
    exact⟨u,v,e1,(Ah hm).trans e2⟩
theorem Log3.cut(h:Log3 d t1 t2 dk)(m:Nat):∃us vs,t2=us++vs/\By (Bl d t1++(Bl (CZ d t1) t2).take m)=Bl d (t1++us)/\((Bl d t1++(Bl (CZ d t1) t2).take m).filter Bs).length=t1.length+us.length/\(Bl d (t1++us)).foldl Bh dk=CZ d (t1++us):=by
 obtain⟨us,vs,e,h2,h3⟩:=fS t2 (CZ d t1) (Bl d t1) m (Vq _ _)
 have s1:∀{a b:List PF},t1++us=a++b->∀t∈a,Bc t.f:=fun {a b} q t ht=>(h.good t (Aj _ (by rw[e,<-AJ,q];exact CE _ (CE _ ht)))).dm
 refine⟨us,vs,e,by rw[h2,LR],by rw[List.filter_append,AC,fR,h3],?_⟩
 rw[<-Vp (t1++us) d h.sp.1 (s1 (As _).symm)]
 refine PF.ext' (funext fun n=>?_) (fT _ _ _ h.r)
 cases ht:K7 n (Bl d (t1++us)) with
 |true=>exact Vn n _ _ _ (.inl ht)
 |false=>
  obtain⟨a,b,e1,e2⟩:=h.f n
  have q:t1++us=a++(b++us):=by rw[e1,AJ]
  refine Vn n _ _ _ (.inr (e2.trans (Vs h.sp.1 (s1 q) ?_)))
  rw[q,LR] at ht
  exact(Bool.or_eq_false_iff.mp (List.any_append.symm.trans ht)).1
end
open PySem
noncomputable def Tr.pF(T:Tr):PF:=⟨fun n=>(pf T.pgs n).map Pag.d,T.root⟩
theorem fb(l:List (Int×Str)):Pg (Af l).d:=.leaf l
theorem NU(a b:List Int):Pg (AT a b).d:=.inner a b
theorem Vt{n:Int}{y:Pag}(L:List (Int×Pag)):pf L n=some y->(n,y)∈L:=by
 induction L with
 |nil=>intro h;cases h
 |cons p L ih=>
  intro h
  have h:(if n=p.1 then some p.2 else AP n L)=some y:=h
  by_cases e:n=p.1
  ·rw[A5 e] at h;cases h;exact e▸AZ
  ·rw[A3 e] at h;exact Aj _ (ih h)
theorem fc(T:Tr):∀q∈T.pgs,Pg q.2.d:=fun q hq=>by
 rcases Bv.mp hq with hq |hq
 ·obtain⟨r,_,rfl⟩:=BU.mp hq;exact fb _
 ·cases T with
  |one x=>exact absurd hq B3
  |grp g R=>rw[Ar.mp hq];exact NU _ _
  |two t g h R S=>exact(Au.mp hq).elim (fun e=>e▸NU _ _) fun hq=>(Au.mp hq).elim (fun e=>e▸NU _ _) fun hq=>Ar.mp hq▸NU _ _
theorem WF.good{T:Tr}(w:WF T):Good T.pF:=⟨fun n y e=>by
 obtain⟨p,hp,rfl⟩:=Option.map_eq_some_iff.mp e
 exact fc T _ (Vt _ hp),fun n y e=>by
 obtain⟨p,hp,rfl⟩:=Option.map_eq_some_iff.mp e
 exact w.dm _ (Vt _ hp)⟩
structure MS where
 hand:Tr
 trees:List Tr
 safe:List Rec
 pend:List Rec
 disk:PF
noncomputable def mv(s:MS):List (Str×V):=[("hand",.d s.hand.enc),("trees",.d (.lst (s.trees.map Tr.enc))),("safe",.d (Ao s.safe)),("pending",.d (Ao s.pend)),("disk",.d (B2 s.disk))]
noncomputable def Vu:List Stmt:=CX (BV Gx 2)
inductive MTurn(xs:List (Str×V))(σ:List Cell)(s':MS):Prop where
 |mk (ys:List (Str×V)) (σ':List Cell):Ex gl Gx 190 Vu ⟨xs,σ⟩ .next ⟨ys,σ'⟩->A8 ys (mv s')->MTurn xs σ s'
section
variable{K:Nat}{xs:List (Str×V)}{s s':MS}{σ:List Cell}{a:Act}{T:Tr}{init:List Tr}
theorem pm{p1 p2 p3 p4 p5:Pos}{k k':Nat}{x:Str}{c:Bool}(h:A8 xs (("act",.d (AV a))::mv s))(hx:PyData.strOk x=true)(hc:decide (Ib a=x)=c):Tt gl Gx (K+3) (.Compare (.Subscript (.Name "act" p1) (.Constant (.int 0) k p2) p3) [.Eq] [.Constant (.str x) k' p4] p5) ⟨xs,σ⟩ c ⟨xs,σ⟩:=
 An rfl (iX (pn h rfl rfl) (show CL σ (.val (.d (AV a))) _=some (.d (.str (Ib a))) from by cases a <;> rfl)) (BW hx) (GN (Fq hc))
theorem pi{p1 p2 p3 p4 p5 p6 p7:Pos}{k k1 k2 k3:Nat}{c:Bool}(h:A8 xs (("act",.d (AV a))::mv s))(hc:(decide ("put" = Ib a)||(decide ("remove" = Ib a)||false))=c):Tt gl Gx (K+3) (.Compare (.Subscript (.Name "act" p1) (.Constant (.int 0) k p2) p3) [.In] [.Tuple [.Constant (.str "put") k1 p4,.Constant (.str "remove") k2 p5] k3 p6] p7) ⟨xs,σ⟩ c ⟨xs,σ⟩:=
 Ky (iX (pn h rfl rfl) (show CL σ (.val (.d (AV a))) _=some (.d (.str (Ib a))) from by cases a <;> rfl)) (Az (sK (BW Et) (sZ (BW Ft))) rfl rfl) (by rw[<-hc];rfl)
theorem Ir{v:V}(h:A8 xs (("act",v)::mv s)):A8 xs (mv s):=h.trans (.cons rfl (.cons rfl (.cons rfl (.cons rfl (.cons rfl .nil)))))
theorem fe{k:Int}{v:Str}(h:A8 xs (("act",.d (AV (.put k v)))::mv s))(hp:HJ s.hand.rows s.hand.gs s.hand.top k [v] T.enc):MTurn xs σ { s with hand:=T }:=
 ⟨_,σ,xO (B4 (pi (a:=.put k v) h rfl) (xO (Ac (AH (Br (f:=JV) (us:=[.d s.hand.enc,.d (.key k),.d (.tup [.str v])]) rfl (Bi (by decide)) rfl rfl (sN h rfl rfl (sK (iX (pn h rfl rfl) rfl) (sZ (BN (pn h rfl rfl) (BI Ab) (fun _=>BR) rfl)))) rfl (Cl.u hp rfl))) rfl))),(Ir h).put rfl⟩
theorem ff{k:Int}(h:A8 xs (("act",.d (AV (.rem k)))::mv s))(hp:HJ s.hand.rows s.hand.gs s.hand.top k [] T.enc):MTurn xs σ { s with hand:=T }:=
 ⟨_,σ,xO (B4 (pi (a:=.rem k) h rfl) (xO (Ac (AH (Br (f:=JV) (us:=[.d s.hand.enc,.d (.key k),.d (.tup [])]) rfl (Bi (by decide)) rfl rfl (sN h rfl rfl (sK (iX (pn h rfl rfl) rfl) (sZ (BN (pn h rfl rfl) (BI Ab) (fun _=>BR) rfl)))) rfl (Cl.u hp rfl))) rfl))),(Ir h).put rfl⟩
theorem LS(hT:s.trees=init++[T]):CL σ (.val (.d (.lst (s.trees.map Tr.enc)))) (.val (.d (.int (-1))))=some (.d T.enc):=by
 refine Es rfl (bnd (a:=-1) rfl (bnd (a:=(s.trees.map Tr.enc).map V.d) rfl ?_))
 rw[hT,AK,AK]
 exact U0 _ _
theorem fg(h:A8 xs (("act",.d (AV .back))::mv s))(hT:s.trees=init++[T]):MTurn xs σ { s with hand:=T }:=
 ⟨_,σ,xO (Ax (pi (a:=.back) h rfl) (B4 (pm (a:=.back) h ED rfl) (xO (Ac (AH (BF rfl (pn h rfl rfl) (fun n=>rfl) (LS hT))) rfl)))),(Ir h).put rfl⟩
theorem fh(h:A8 xs (("act",.d (AV .com))::mv s))(hT:s.trees=init++[T])(wT:WF T)(wH:WF s.hand)(hl:s.pend.length < 400)(ht:s.trees.length < 400):MTurn xs σ { s with trees:=s.trees++[s.hand],pend:=s.pend++(CH T.pF.f s.hand.pF.f++[.cm s.hand.pF.r]) }:=by
 have dl:=Mj T.pF.f s.hand.pF.f
 have h2:A8 (AS "pending" (.d (Ao (s.pend++(CH T.pF.f s.hand.pF.f++[Rec.cm s.hand.pF.r])))) xs) (mv { s with pend:=s.pend++(CH T.pF.f s.hand.pF.f++[Rec.cm s.hand.pF.r]) }):=(Ir h).put rfl
 refine⟨_,σ,xO (Ax (pi (a:=.com) h rfl) (Ax (pm (a:=.com) h ED rfl) (B4 (pm (a:=.com) h CU rfl) (B9 (Ac (v:=.d (Ao (s.pend++(CH T.pF.f s.hand.pF.f++[Rec.cm s.hand.pF.r])))) (Aw (Ag (pn h rfl rfl) (Br (f:=OU) (us:=[.d T.pd,.d s.hand.pd]) rfl (Bi (by decide)) rfl rfl (sK (Br (f:=Ct) (us:=[.d T.enc]) (r:=.val (.d T.pd)) rfl (Bi (by decide)) rfl rfl (sZ (BF rfl (pn h rfl rfl) (fun n=>rfl) (LS hT))) rfl (Cl.u (Ij wT) rfl)) (sZ (Br (f:=Ct) (us:=[.d s.hand.enc]) (r:=.val (.d s.hand.pd)) rfl (Bi (by decide)) rfl rfl (sZ (pn h rfl rfl)) rfl (Cl.u (Ij wH) rfl)))) rfl (Cl.u (fO wT.good wH.good) rfl)) (Mp ?_)) rfl (B6 _)) rfl) (xO (Ac (Aw (ds:=(s.trees++[s.hand]).map Tr.enc) (Ag (pn h2 rfl rfl) (BS (sZ (pn h2 rfl rfl)) rfl) (GQ (m:=[.d s.hand.enc]) rfl rfl rfl ?_)) rfl ?_) rfl)))))),?_⟩
 ·rw[AC];unfold lim;exact BH (AN (Nat.add_lt_add_of_lt_of_le hl (DH dl)) (nL rfl))
 ·rw[A4,A4];exact A9 ht (nL rfl)
 ·rw[show(s.trees.map Tr.enc).map V.d++[V.d s.hand.enc]=((s.trees++[s.hand]).map Tr.enc).map V.d from by rw[AK,AK];rfl]
  exact B6 _
 ·exact h2.put rfl
theorem fi(h:A8 xs (("act",.d (AV .syn))::mv s))(hl:s.safe.length+s.pend.length < 400):MTurn xs σ { s with safe:=s.safe++s.pend,pend:=[] }:=
 ⟨_,σ,xO (Ax (pi (a:=.syn) h rfl) (Ax (pm (a:=.syn) h ED rfl) (Ax (pm (a:=.syn) h CU rfl) (B4 (pm (a:=.syn) h Fu rfl) (xO (Cu rfl rfl (BA (Aw (Ag (pn h rfl rfl) (pn h rfl rfl) (P7 (A9 (BH hl) (nL rfl)))) rfl (B6 _)) (BA (Aw (l:=[]) (ds:=[]) (BS Bq rfl) rfl rfl) Cv)) (tN rfl (tO rfl)))))))),((Ir h).put rfl).put rfl⟩
theorem fj{α:Type}(l:List α)(x:α):slc (l++[x]) (some (-1)) .none=[x]:=by
 show((l++[x]).take _).drop (DK (l++[x]).length (-1))=_
 have e:(l++[x]).length=l.length+1:=AC
 unfold DK
 rw[A3 (by decide),e,P9,F9]
 show((l++[x]).take (l.length+1)).drop l.length=[x]
 rw[<-e,List.take_length,List.drop_left' rfl]
theorem fk(h:A8 xs (("act",.d (AV .chk))::mv s))(hT:s.trees=init++[T])(wT:WF T):MTurn xs σ { s with trees:=[T],safe:=[],pend:=[],disk:=T.pF }:=by
 refine⟨_,σ,xO (Ax (pi (a:=.chk) h rfl) (Ax (pm (a:=.chk) h ED rfl) (Ax (pm (a:=.chk) h CU rfl) (Ax (pm (a:=.chk) h Fu rfl) (B4 (pm (a:=.chk) h HF rfl) (xO (Cu rfl rfl (BA (Aw (l:=[.d T.enc]) (ds:=[T.enc]) (BN (pn h rfl rfl) (BI (i:=-1) (fun n=>rfl)) (fun _=>BR) ?_) rfl rfl) (BA (Aw (l:=[]) (ds:=[]) (BS Bq rfl) rfl rfl) (BA (Aw (l:=[]) (ds:=[]) (BS Bq rfl) rfl rfl) (BA (AH (Br (f:=Ct) (us:=[.d T.enc]) (r:=.val (.d T.pd)) rfl (Bi (by decide)) rfl rfl (sZ (BF rfl (pn h rfl rfl) (fun n=>rfl) (LS hT))) rfl (Cl.u (Ij wT) rfl))) Cv)))) (tN rfl (tN rfl (tN rfl (tO rfl))))))))))),((((Ir h).put rfl).put rfl).put rfl).put rfl⟩
 refine A2 (fun l=>some (R.fresh l)) ?_
 show slc ((s.trees.map Tr.enc).map V.d) (some (-1)) .none=_
 rw[hT,AK,AK]
 exact fj _ _
end
open PySem
noncomputable def QI:Rec->Int
 |.wr m _=>m
 |.fr m=>m
 |.cm r=>r
noncomputable def FX(l:List Rec):List Int:=(l.filter fun r=>!Bs r).map QI
theorem fq(n:Int)(l:List Rec):decide (n∈FX l)=l.any (CS n):=by
 induction l with
 |nil=>rfl
 |cons r l ih=>
  have go:∀m:Int,decide (n∈m::FX l)=(decide (m=n)||l.any (CS n)):=fun m=>by
   rw[<-ih,<-Bool.decide_or]
   exact decide_eq_decide.mpr (Au.trans ⟨fun h=>h.imp_left Eq.symm,fun h=>h.imp_left Eq.symm⟩)
  cases r with
  |wr m p=>exact go m
  |fr m=>exact go m
  |cm k=>exact ih
section
variable{n:Int}{U:List Int}{f:Cy}
noncomputable def Iu(n:Int)(U:List Int)(p:Int×D):Bool:=decide (p.1=n)&&!decide (p.1∈U)
noncomputable def G4(n:Int)(b:Bool)(y:Option D):PM:=cond b [] (Av y (fun y=>[(n,y)]) [])
theorem ft(h:Bc f):(AF f).filter (Iu n U)=G4 n (decide (n∈U)) (f n):=by
 have e:(AF f).filter (Iu n U)=AF (fm (Iu n U) (·.2) f):=(List.map_id' _).symm.trans (QE (Iu n U) (·.2) B8)
 rw[e]
 unfold G4
 refine Mg FO ?_ fun m=>?_
 ·cases decide (n∈U) with
  |true=>exact List.Pairwise.nil
  |false=>cases f n with
   |none=>exact List.Pairwise.nil
   |some y=>exact List.pairwise_singleton _ _
 ·rw[L3 (h.fm _ _)]
  unfold fm Iu
  by_cases q:m=n
  ·subst q
   cases f m with
   |none=>cases decide (m∈U) <;> rfl
   |some y=>
    show cond (decide (m=m)&&_) _ _=_
    rw[Ae rfl,Bool.true_and]
    cases decide (m∈U) with
    |true=>rfl
    |false=>exact(A5 rfl).symm
  ·have l:AP m (cond (decide (n∈U)) [] (Av (f n) (fun y=>[(n,y)]) []))=.none:=by
    cases decide (n∈U) with
    |true=>rfl
    |false=>cases f n with
     |none=>rfl
     |some y=>exact A3 q
   rw[l]
   cases f m with
   |none=>rfl
   |some y=>
    show cond (decide (m=n)&&_) _ _=_
    rw[decide_eq_false q];rfl
end
theorem fu{n:Int}{p:List Rec}{dk kp:PF}(gd:Good dk):∃A,Cq ((AF dk.f++G4 n (p.any (CS n)) (kp.f n)).map Aq)=A.map Aq/\Dic A (fls n p dk kp).f/\(fls n p dk kp).r=dk.r:=by
 have e0:=TN (Bg (FO (f:=dk.f)))
 unfold G4 fls
 cases kp.f n with
 |none=>exact⟨AF dk.f,by cases p.any (CS n) <;> exact(A2 (fun l=>Cq (l.map Aq)) (As _)).trans e0,Dic.of gd.dm,rfl⟩
 |some y=>
  cases p.any (CS n) with
  |true=>exact⟨AF dk.f,(A2 (fun l=>Cq (l.map Aq)) (As _)).trans e0,Dic.of gd.dm,rfl⟩
  |false=>
   refine⟨BL n y (AF dk.f),?_,(Dic.of gd.dm).set n y,rfl⟩
   rw[<-On,<-e0]
   show Cq (List.map Aq (AF dk.f++[(n,y)]))=_
   rw[AK,show Cq (List.map Aq (AF dk.f))=List.foldl (fun es (p:Int×V)=>BL p.1 p.2 es) [] (List.map Aq (AF dk.f)) from rfl,show List.map Aq [(n,y)]=[(n,V.d y)] from rfl]
   exact List.foldl_append ..
section
variable{K:Nat}{xs:List (Str×V)}{s s':MS}{σ:List Cell}{a:Act}{T:Tr}{init:List Tr}
theorem QJ{r:Rec}:CL σ (.val (.d (Ap r))) (.val (.d (.int 0)))=some (.d (.str (GO r))):=by cases r <;> rfl
theorem fv{r:Rec}:CL σ (.val (.d (Ap r))) (.val (.d (.int 1)))=some (.d (.int (QI r))):=by cases r <;> rfl
theorem QK(r:Rec):decide (GO r ="commit")=Bs r:=by cases r <;> rfl
theorem g5(r:Rec):(!decide (GO r ="commit"))=!Bs r:=A2 (!·) (QK r)
theorem g6{n:Int}(h:A8 xs (("act",.d (AV (.fls n)))::mv s))(hT:s.trees=init++[T])(wT:WF T)(gd:Good s.disk)(hl:s.pend.length < 400):MTurn xs σ { s with disk:=fls n s.pend s.disk T.pF }:=by
 have h1:A8 (AS "touched" (.d (.lst ((FX s.pend).map .int))) xs) (("touched",.d (.lst ((FX s.pend).map .int)))::("act",.d (AV (.fls n)))::mv s):=.cons Bx (h.other rfl)
 have h2:A8 (AS "held" (.d (.lst ((AF T.pF.f).map BB))) (AS "touched" (.d (.lst ((FX s.pend).map .int))) xs)) (("held",.d (.lst ((AF T.pF.f).map BB)))::("touched",.d (.lst ((FX s.pend).map .int)))::("act",.d (AV (.fls n)))::mv s):=.cons Bx (h1.other rfl)
 have h3:A8 (AS "here" (.d (.lst ((G4 n (s.pend.any (CS n)) (T.pF.f n)).map BB))) (AS "held" (.d (.lst ((AF T.pF.f).map BB))) (AS "touched" (.d (.lst ((FX s.pend).map .int))) xs))) (("here",.d (.lst ((G4 n (s.pend.any (CS n)) (T.pF.f n)).map BB)))::mv s):=.cons Bx ((h2.trans (.cons rfl (.cons rfl (.cons rfl (.cons rfl (.cons rfl .nil))))):A8 (AS "held" (.d (.lst ((AF T.pF.f).map BB))) (AS "touched" (.d (.lst ((FX s.pend).map .int))) xs)) (mv s)).other rfl)
 obtain⟨A,a1,a2,a3⟩:=fu (n:=n) (p:=s.pend) (kp:=T.pF) gd
 have gf:=bf (n:=n) (pend:=s.pend) gd wT.good
 have hlen:(G4 n (s.pend.any (CS n)) (T.pF.f n)).length<=1:=by
  unfold G4
  cases s.pend.any (CS n) <;> cases T.pF.f n <;> first |exact Am _ |exact BK _
 refine⟨_,_,xO (Ax (pi (a:=.fls n) h rfl) (Ax (pm (a:=.fls n) h ED rfl) (Ax (pm (a:=.fls n) h CU rfl) (Ax (pm (a:=.fls n) h Fu rfl) (Ax (pm (a:=.fls n) h HF rfl) (B4 (pm (a:=.fls n) h Ic rfl)
  (B9 (Ac (v:=.d (.lst ((FX s.pend).map .int))) (Aw (Eb (g:=fun r:Rec=>V.d (Ap r)) (h:=fun r=>V.d (.int (QI r))) (b:=fun r=>!Bs r) (l:=s.pend) (ys:=[]) (CF rfl (pn h rfl rfl) (A2 (fun l=>some (l,σ)) Ai)) rfl rfl rfl .nil rfl (fun r _ zs hz=>⟨GP (An rfl (iX (pn hz rfl rfl) QJ) (BW CU) (Fp (Fq rfl) (g5 r))),fun _=>AH (iX (pn hz rfl rfl) fv)⟩) ?_ rfl) rfl ?_) rfl)
  (B9 (Ac (v:=.d (.lst ((AF T.pF.f).map BB))) (AH (iX (Br (f:=Ct) (us:=[.d T.enc]) (r:=.val (.d T.pd)) rfl (Bi (by decide)) rfl rfl (sZ (BF rfl (pn h1 rfl rfl) (fun n=>rfl) (LS hT))) rfl (Cl.u (Ij wT) rfl)) rfl)) rfl)
  (B9 (Ac (v:=.d (.lst ((G4 n (s.pend.any (CS n)) (T.pF.f n)).map BB))) (Aw (Mo (g:=fun p:Int×Mine.D=>V.d (BB p)) (b:=Iu n (FX s.pend)) (l:=AF T.pF.f) (ys:=[("touched",.d (.lst ((FX s.pend).map .int))),("act",.d (AV (.fls n)))]) (CF rfl (pn h2 rfl rfl) (A2 (fun l=>some (l,σ)) Ai)) rfl rfl rfl rfl rfl (.cons (h2.seen rfl rfl) (.cons (h2.seen rfl rfl) .nil)) rfl (fun p _ zs hz=>CM ?_) (A9 HC (nL rfl))) rfl ?_) rfl)
  (xO (Ac (v:=.d (B2 (fls n s.pend s.disk T.pF))) (AH (Az (vs:=[.d (.lst ((AF (fls n s.pend s.disk T.pF).f).map BB)),.d (.int s.disk.r)]) (BT (Aw (MX (dd:=(false,A.map Aq)) (fun _=>rfl) (Kw (prs:=(AF s.disk.f++G4 n (s.pend.any (CS n)) (T.pF.f n)).map Aq) (fun _=>rfl) (Ag (x:=.fresh (((AF s.disk.f++G4 n (s.pend.any (CS n)) (T.pF.f n)).map BB).map V.d)) (iX (pn h3 rfl rfl) rfl) (pn h3 rfl rfl) ?_) rfl ?_) ?_ (Oo A) (a2.sorted gf.dm)) rfl (B6 _)) (sZ (iX (pn h3 rfl rfl) rfl))) ?_ (by decide))) rfl)))))))))) ),?_⟩
 ·exact A9 (BH hl) (nL rfl)
 ·exact(A2 C3 (by unfold FX;rw[Ai,Ai];rfl)).trans (B6 _)
 ·unfold Iu
  have e1:∀{c:Bool},decide (p.1=n)=c->Di .Eq σ (.val (.d (.int p.1))) (.val (.d (.int n)))=some c:=fun q=>GN (Hr rfl rfl (by rw[<-q];rfl))
  by_cases q:p.1=n
  ·rw[Ae q,Bool.true_and]
   exact Ds (An rfl (iX (pn hz rfl rfl) rfl) (iX (pn hz rfl rfl) rfl) (e1 (Ae q))) (Dt (Hk (iX (pn hz rfl rfl) rfl) (pn hz rfl rfl) (Ul (by rw[IW fun _ _=>rfl];rfl) Pc) rfl))
  ·rw[decide_eq_false q,Bool.false_and]
   exact FM (An rfl (iX (pn hz rfl rfl) rfl) (iX (pn hz rfl rfl) rfl) (e1 (decide_eq_false q)))
 ·rw[ft wT.good.dm,fq]
  exact(A2 C3 Ai.symm).trans (B6 _)
 ·rw[AK,AK]
  refine GQ rfl rfl rfl ?_
  rw[A4,A4 (f:=BB),A4 (f:=V.d),A4 (f:=BB)]
  exact A9 (DF HC hlen) (by decide:17<=lim)
 ·rw[Ai,show V.d ∘ BB=fun p=>V.d (BB p) from rfl,Mh];exact TL _
 ·refine bnd (a:=σ.length) rfl ?_
  rw[Ai,show V.d ∘ BB=fun p=>V.d (BB p) from rfl,Mh,a1]
  exact A2 Hc Gd
 ·rw[<-a3];rfl
 ·exact(h3.trans (.cons rfl (.cons rfl (.cons rfl (.cons rfl (.cons rfl .nil))))):A8 _ (mv s)).put rfl
end
open PySem
noncomputable def Hw:Nat->List Rec->List (Nat×Rec)
 |_,[]=>[]
 |k,r::l=>(k,r)::Hw (k+1) l
noncomputable def QL(p:Nat×Rec):V:=.tup [.d (.int p.1),.d (Ap p.2)]
theorem g7(l:List Rec)(k:Nat):GD k ((l.map Ap).map V.d)=(Hw k l).map QL:=by
 induction l generalizing k with
 |nil=>rfl
 |cons r l ih=>exact A2 (QL (k,r)::·) (ih (k+1))
theorem g8(l:List Rec)(k:Nat):(Hw k l).length=l.length:=by
 induction l generalizing k with
 |nil=>rfl
 |cons r l ih=>exact A2 (·+1) (ih (k+1))
noncomputable def Eg(k:Nat)(l:List Rec):List Int:=((Hw k l).filter fun p=>Bs p.2).map fun p=>(p.1:Int)+1
theorem Vv(l:List Rec)(k:Nat):(Eg k l).length=(l.filter Bs).length:=by
 induction l generalizing k with
 |nil=>rfl
 |cons r l ih=>
  unfold Eg
  show(List.map _ (((k,r)::Hw (k+1) l).filter _)).length=_
  rw[Gc,Gc]
  cases Bs r with
  |true=>exact A2 (·+1) (ih (k+1))
  |false=>exact ih (k+1)
theorem g9(l:List Rec):∀(k a:Nat),a<=k->(FP k a l:Int)∈(a:Int)::Eg k l/\∀b∈(a:Int)::Eg k l,b<=(FP k a l:Int):=by
 induction l with
 |nil=>exact fun k a h=>⟨AZ,fun b hb=>by rw[Ar.mp hb];exact Int.le_refl _⟩
 |cons r l ih=>
  intro k a h
  show((FP (k+1) (cond (Bs r) (k+1) a) l:Nat):Int)∈_/\_
  unfold Eg
  show _∈(a:Int)::List.map _ (((k,r)::Hw (k+1) l).filter _)/\∀b∈(a:Int)::List.map _ (((k,r)::Hw (k+1) l).filter _),b<=(FP (k+1) (cond (Bs r) (k+1) a) l:Int)
  rw[Gc]
  cases Bs r with
  |true=>
   obtain⟨h1,h2⟩:=ih (k+1) (k+1) (Am _)
   refine⟨Aj _ h1,fun b hb=>(Au.mp hb).elim (fun e=>?_) (h2 b)⟩
   exact Int.le_trans (e▸FZ.mpr (Eh h)) (h2 ((k+1:Nat):Int) AZ)
  |false=>exact ih (k+1) a (Eh h)
theorem gA{l:List Int}{m:Int}(hm:m∈l)(h:∀a∈l,a<=m):El I8 l=some m:=by
 have ha:(l.all fun a=>I8 a m)=true:=CO.mpr fun a ha=>Ae (h a ha)
 unfold El
 cases hf:l.find? fun m=>l.all fun a=>I8 a m with
 |none=>exact absurd ha (List.find?_eq_none.mp hf m hm)
 |some x=>
  have hx:=CO.mp (List.find?_some (p:=fun m=>l.all fun a=>I8 a m) hf) m hm
  exact A2 some (Int.le_antisymm (h x (List.mem_of_find?_eq_some hf)) (DI hx))
section
variable{σ:List Cell}{xs:List (Str×V)}{s:MS}{T:Tr}{init:List Tr}
theorem gB{G:Gl}{fn:Fn}{K:Nat}{e:Expr}{p q:Pos}{st:St}{r:R}{σ':List Cell}{l l':List V}(hE:∀n,FJ G (AU G (n+K)) fn (.Call (.Name "enumerate" p) [e] [] q) st=Lj (AU G (n+K)) fn [e] st)(h:Ev G fn K e st r ⟨xs,σ⟩)(hi:KP σ r=some (l,σ'))(hl:GD 0 l=l'):EC G fn K (.Call (.Name "enumerate" p) [e] [] q) st ⟨l',true⟩ ⟨xs,σ'⟩:=hl▸TG hE h hi
theorem gC{l:List Int}{m:Int}(h:El I8 l=some m):GC σ "max" (.fresh ((l.map D.int).map V.d))=some (.val (.d (.int m))):=(A3 (by decide)).trans ((A3 (by decide)).trans ((A3 (by decide)).trans ((A3 (by decide)).trans ((A5 rfl).trans (bnd (a:=(l.map D.int).map V.d) rfl (bnd (B6 _) (bnd (Uk l) (AQ h rfl))))))))
theorem gD{m:Nat}(h:A8 xs (("act",.d (AV (.crs m)))::mv s))(hl:s.safe.length+s.pend.length < 400)(hT:s.trees.take (((s.safe++s.pend.take m).filter Bs).length+1)=init++[T]):MTurn xs σ ⟨T,init++[T],By (s.safe++s.pend.take m),[],s.disk⟩:=by
 have hle:s.safe.length+(s.pend.take m).length < 400:=Aa (C9 (List.length_take_le' _ _) _) hl
 generalize hR:s.safe++s.pend.take m=rest at hT
 have rl:rest.length < 400:=by rw[<-hR,AC];exact hle
 have h1:A8 (AS "rest" (.d (Ao rest)) xs) (("rest",.d (Ao rest))::mv s):=.cons Bx ((Ir h).other rfl)
 have h2:A8 (AS "ends" (.d (.lst ((Eg 0 rest).map .int))) (AS "rest" (.d (Ao rest)) xs)) (("ends",.d (.lst ((Eg 0 rest).map .int)))::("rest",.d (Ao rest))::mv s):=.cons Bx (h1.other rfl)
 have h2':A8 (AS "ends" (.d (.lst ((Eg 0 rest).map .int))) (AS "rest" (.d (Ao rest)) xs)) (mv s):=h2.trans (.cons rfl (.cons rfl (.cons rfl (.cons rfl (.cons rfl .nil)))))
 have h3:=((h2'.put (x:="safe") (v:=.d (Ao (By rest))) rfl).put (x:="pending") (v:=.d (Ao [])) rfl).put (x:="trees") (v:=.d (.lst ((init++[T]).map Tr.enc))) (zs:=mv ⟨s.hand,init++[T],By rest,[],s.disk⟩) rfl
 have el:(Eg 0 rest).length<=400:=by rw[Vv];exact A9 (List.length_filter_le _ _) (BH rl)
 have bm:=g9 rest 0 0 (Am _)
 refine⟨_,σ,B9 (Ax (pi (a:=.crs m) h rfl) (Ax (pm (a:=.crs m) h ED rfl) (Ax (pm (a:=.crs m) h CU rfl) (Ax (pm (a:=.crs m) h Fu rfl) (Ax (pm (a:=.crs m) h HF rfl) (B1 (pm (a:=.crs m) h Ic rfl)
  (B9 (Ac (v:=.d (Ao rest)) (Aw (Ag (x:=.fresh ((rest.map Ap).map V.d)) (pn h rfl rfl) (BN (r₁:=.fresh (((s.pend.take m).map Ap).map V.d)) (pn h rfl rfl) (fun n=>BR) (BI (i:=m) (iX (pn h rfl rfl) rfl)) ?_) ?_) rfl (B6 _)) rfl)
  (B9 (Ac (v:=.d (.lst ((Eg 0 rest).map .int))) (Aw (L6 (g:=QL) (u:=fun p=>.d (.int p.1)) (w:=fun p=>.d (Ap p.2)) (h:=fun p=>.d (.int (p.1+1))) (b:=fun p=>Bs p.2) (l:=Hw 0 rest) (ys:=[]) (gB (fun _=>rfl) (pn h1 rfl rfl) rfl (g7 rest 0)) rfl rfl rfl .nil rfl rfl (by decide) (fun _=>rfl) (fun p _ zs hz=>⟨GP (An rfl (iX (pn hz rfl rfl) QJ) (BW CU) (GN (Fq (QK p.2)))),fun _=>AH (Ag (pn hz rfl rfl) Ab rfl)⟩) ?_ rfl) rfl ?_) rfl)
  (B9 (Cu rfl rfl (BA (v:=.d (Ao (By rest))) (Aw (BN (pn h2 rfl rfl) (fun n=>BR) (BI (i:=(FP 0 0 rest:Int)) (C7 (fun _=>rfl) (Ag (x:=.fresh (((0::Eg 0 rest).map D.int).map V.d)) (BS (sZ Ab) rfl) (pn h2 rfl rfl) ?_) (gC (gA bm.1 bm.2)))) (Ee _)) rfl ?_) (BA (Aw (l:=[]) (ds:=[]) (BS Bq rfl) rfl rfl) (BA (v:=.d (.lst ((init++[T]).map Tr.enc))) (Aw (BN (pn h2 rfl rfl) (fun n=>BR) (BI (i:=((((rest.filter Bs).length+1:Nat)):Int)) (Ag (C7 (r₁:=.val (.d (.int (Eg 0 rest).length))) (fun _=>rfl) (pn h2 rfl rfl) ?_) Ab ?_)) (Ee _)) rfl ?_) Cv))) (tN rfl (tN rfl (tO rfl))))
  (xO (Ac (AH (BF rfl (pn h3 rfl rfl) (fun n=>rfl) (LS (s:=⟨s.hand,init++[T],By rest,[],s.disk⟩) rfl))) rfl)))))))))))  BO,h3.put rfl⟩
 ·rw[EO];exact Ee m
 ·rw[<-hR];exact Mp (A9 (BH hle) (nL rfl))
 ·rw[g8];exact A9 (BH rl) (nL rfl)
 ·exact(A2 C3 (by unfold Eg;rw[Ai,Ai];rfl)).trans (B6 _)
 ·exact GQ (l:=[V.d (D.int 0)]) rfl rfl rfl (by rw[A4,A4];exact A9 (C9 el 1) (nL rfl))
 ·rw[<-EO];exact B6 _
 ·refine(A5 rfl).trans (AQ (a:=((Eg 0 rest).map D.int).map V.d) rfl ?_)
  rw[A4,A4]
 ·rw[Vv];rfl
 ·rw[<-EO,hT];exact B6 _
end
open PySem
noncomputable def C8:Tr->List Tr->Tr
 |a,[]=>a
 |_,t::ts=>C8 t ts
theorem NV(ts:List Tr)(a:Tr):CZ a.pF (ts.map Tr.pF)=(C8 a ts).pF:=by
 induction ts generalizing a with
 |nil=>rfl
 |cons t ts ih=>exact ih t
theorem QM(ts:List Tr)(a:Tr):∃init,a::ts=init++[C8 a ts]:=by
 induction ts generalizing a with
 |nil=>exact⟨[],rfl⟩
 |cons t ts ih=>obtain⟨i,e⟩:=ih t;exact⟨a::i,A2 (a::·) e⟩
theorem gE(ts:List Tr)(a t:Tr):C8 a (ts++[t])=t:=by
 induction ts generalizing a with
 |nil=>rfl
 |cons u ts ih=>exact ih u
structure MAt(s:MS)(N:Nat)(d:Tr)(t1 t2:List Tr):Prop where
 trees:s.trees=d::(t1++t2)
 safe:s.safe=Bl d.pF (t1.map Tr.pF)
 pend:s.pend=Bl (CZ d.pF (t1.map Tr.pF)) (t2.map Tr.pF)
 log:Log3 d.pF (t1.map Tr.pF) (t2.map Tr.pF) s.disk
 hand:WF s.hand
 wf:∀t∈s.trees,WF t
 len:t1.length+t2.length<=N
noncomputable def K8(s:MS)(T:Tr):PS:=⟨s.hand.pd,T.pF,s.disk,s.safe,s.pend⟩
noncomputable def wA:Act->Nat
 |.com=>1
 |_=>0
noncomputable def AO:Act->Prop
 |.put k _=>0<=k/\k < 17
 |.rem k=>0<=k/\k < 17
 |_=>True
theorem gF(a b:PF):(EL a b).length<=17:=by unfold EL;rw[AC];exact DH (Mj _ _)
theorem Vx(ts:List PF)(a:PF):(Bl a ts).length<=17*ts.length:=by
 induction ts generalizing a with
 |nil=>exact Am _
 |cons t ts ih=>
  show(EL a t++Bl t ts).length<=17*(ts.length+1)
  rw[AC,Nat.mul_succ,Nat.add_comm]
  exact DF (ih t) (gF a t)
theorem Vy(ts:List PF)(a:PF)(h:∀t∈ts,Good t):∀x∈Bl a ts,EZ x:=by
 induction ts generalizing a with
 |nil=>exact fun _ h=>absurd h B3
 |cons t ts ih=>
  intro x hx
  refine(Bv.mp hx).elim (fun hx=>(Bv.mp hx).elim (bL (h t AZ) x) fun hx=>by rw[Ar.mp hx];trivial) (ih t (fun u hu=>h u (Aj _ hu)) x)
section
variable{s:MS}{N:Nat}{d:Tr}{t1 t2:List Tr}{a:Act}
theorem MAt.bnd(h:MAt s N d t1 t2)(hN:N<=22):s.safe.length+s.pend.length < 400/\s.pend.length < 400/\s.trees.length < 400:=by
 have e:s.safe.length+s.pend.length<=17*22:=by
  rw[h.safe,h.pend]
  refine A9 (DF (Vx _ _) (Vx _ _)) ?_
  rw[A4,A4,<-Nat.mul_add]
  exact Nat.mul_le_mul_left 17 (A9 h.len hN)
 refine⟨Aa e (nL rfl),Aa (A9 (G7 _ _) e) (nL rfl),?_⟩
 rw[h.trees,DD,AC]
 exact Aa (DH (A9 h.len hN)) (nL rfl)
theorem MAt.last(h:MAt s N d t1 t2):WF (C8 d (t1++t2))/\∃init,s.trees=init++[C8 d (t1++t2)]:=by
 obtain⟨i,e⟩:=QM (t1++t2) d
 have e:=h.trees.trans e
 exact⟨h.wf _ (by rw[e];exact BE _ (DE _)),i,e⟩
theorem MAt.dk(h:MAt s N d t1 t2):Good s.disk:=by
 have g:∀n,∃t,Good t/\s.disk.f n=t.f n:=fun n=>by
  obtain⟨us,vs,e1,e2⟩:=h.log.f n
  refine⟨_,h.log.good (CZ d.pF us) ?_,e2⟩
  rw[e1,AJ,<-List.cons_append]
  exact CE _ (Vr us d.pF)
 exact⟨fun n y e=>by obtain⟨t,gt,q⟩:=g n;exact gt.pg n y (q▸e),fun n y e=>by obtain⟨t,gt,q⟩:=g n;exact gt.dm n y (q▸e)⟩
theorem MAt.ok(h:MAt s N d t1 t2)(hN:N<=22):PSok (K8 s (C8 d (t1++t2))):=⟨h.last.1.good,h.dk,fun x hx=>Vy (t1.map Tr.pF) d.pF (fun t ht=>h.log.good t (Aj _ (CE _ ht))) x (by rw[<-h.safe];exact hx),fun x hx=>Vy (t2.map Tr.pF) _ (fun t ht=>h.log.good t (Aj _ (BE _ ht))) x (by rw[<-h.pend];exact hx),(h.bnd hN).1⟩
theorem K9:(t1++t2).map Tr.pF=t1.map Tr.pF++t2.map Tr.pF:=AK
inductive MStep(s:MS)(N:Nat)(d:Tr)(t1 t2:List Tr)(a:Act):Prop where
 |mk (s':MS) (d':Tr) (u1 u2:List Tr):MAt s' (N+wA a) d' u1 u2->P5 (K8 s (C8 d (t1++t2))) a (K8 s' (C8 d' (u1++u2)))->(∀xs σ,A8 xs (("act",.d (AV a))::mv s)->MTurn xs σ s')->MStep s N d t1 t2 a
theorem gG(h:MAt s N d t1 t2)(hN:N<=22)(ha:AO a):MStep s N d t1 t2 a:=by
 obtain⟨wT,init,hT⟩:=h.last
 have hb:=h.bnd hN
 cases a with
 |put k v=>
  obtain⟨T',w',p1,p2⟩:=er (v:=v) h.hand ha
  exact⟨{ s with hand:=T' },d,t1,t2,⟨h.trees,h.safe,h.pend,h.log,w',h.wf,h.len⟩,⟨_,p2,rfl⟩,fun xs σ q=>fe q p1⟩
 |rem k=>
  obtain⟨T',w',p1,p2⟩:=fD h.hand ha
  exact⟨{ s with hand:=T' },d,t1,t2,⟨h.trees,h.safe,h.pend,h.log,w',h.wf,h.len⟩,⟨_,p2,rfl⟩,fun xs σ q=>ff q p1⟩
 |back=>exact⟨{ s with hand:=C8 d (t1++t2) },d,t1,t2,⟨h.trees,h.safe,h.pend,h.log,wT,h.wf,h.len⟩,rfl,fun xs σ q=>fg q hT⟩
 |com=>
  refine⟨⟨s.hand,s.trees++[s.hand],s.safe,s.pend++(CH (C8 d (t1++t2)).pF.f s.hand.pF.f++[Rec.cm s.hand.pF.r]),s.disk⟩,d,t1,t2++[s.hand],⟨?_,h.safe,?_,?_,h.hand,?_,?_⟩,⟨s.hand.pF,rfl,h.hand.good,?_⟩,fun xs σ q=>fh q hT wT h.hand hb.2.1 hb.2.2⟩
  ·show s.trees++[s.hand]=_
   rw[h.trees,<-AJ];rfl
  ·show s.pend++EL (C8 d (t1++t2)).pF s.hand.pF=_
   rw[AK,LR,<-h.pend,<-Vk,<-AK,NV]
   exact A2 (s.pend++·) (As _).symm
  ·rw[AK];exact h.log.com h.hand.good
  ·exact fun t ht=>(Bv.mp ht).elim (h.wf t) fun q=>Ar.mp q▸h.hand
  ·rw[AC];exact DH h.len
  ·rw[<-AJ t1,gE]
   show(⟨_,_,_,_,s.pend++(CH (C8 d (t1++t2)).pF.f s.hand.pF.f++[Rec.cm s.hand.pF.r])⟩:PS)=_
   rw[<-AJ s.pend];rfl
 |syn=>
  refine⟨⟨s.hand,s.trees,s.safe++s.pend,[],s.disk⟩,d,t1++t2,[],⟨by rw[As];exact h.trees,?_,rfl,?_,h.hand,h.wf,?_⟩,?_,fun xs σ q=>fi q hb.1⟩
  ·rw[K9,LR,<-h.pend,<-h.safe]
  ·rw[K9];exact h.log.more (As _).symm
  ·rw[AC];exact h.len
  ·rw[As];rfl
 |chk=>exact⟨⟨s.hand,[C8 d (t1++t2)],[],[],(C8 d (t1++t2)).pF⟩,C8 d (t1++t2),[],[],⟨rfl,rfl,rfl,Log3.chk wT.good,h.hand,fun t ht=>Ar.mp ht▸wT,BK _⟩,rfl,fun xs σ q=>fk q hT wT⟩
 |fls n=>
  refine⟨⟨s.hand,s.trees,s.safe,s.pend,fls n s.pend s.disk (C8 d (t1++t2)).pF⟩,d,t1,t2,⟨h.trees,h.safe,h.pend,?_,h.hand,h.wf,h.len⟩,rfl,fun xs σ q=>g6 q hT wT h.dk hb.2.1⟩
  have:=h.log.fls n
  rw[<-h.pend,<-K9,NV] at this
  exact this
 |crs m=>
  obtain⟨us,vs,e,c1,c2,c3⟩:=h.log.cut m
  obtain⟨a,b,rfl,rfl,rfl⟩:=List.map_eq_append_iff.mp e
  rw[<-h.pend,<-h.safe] at c1 c2
  rw[<-K9] at c1 c3
  rw[A4,A4] at c2
  rw[NV] at c3
  obtain⟨i,hi⟩:=QM (t1++a) d
  have tk:s.trees.take (((s.safe++s.pend.take m).filter Bs).length+1)=i++[C8 d (t1++a)]:=by
   rw[c2,h.trees,<-hi,List.take_succ_cons,<-AJ,List.take_left' AC]
  have e1:Ea s.disk (By (s.safe++s.pend.take m))=(C8 d (t1++a)).pF:=by
   unfold Ea
   rw[c1,Vq,c3]
  refine⟨⟨C8 d (t1++a),i++[C8 d (t1++a)],By (s.safe++s.pend.take m),[],s.disk⟩,d,t1++a,[],⟨by rw[As];exact hi.symm,by rw[<-c1],rfl,?_,?_,?_,?_⟩,?_,fun xs σ q=>gD q hb.1 tk⟩
  ·rw[K9];exact h.log.more e
  ·exact h.wf _ (I0 (tk▸BE _ (DE _)))
  ·exact fun t ht=>h.wf t (I0 (tk▸ht))
  ·have:=h.len
   rw[AC] at this
   rw[AC]
   exact A9 (C9 (BJ a.length b.length) t1.length) this
  ·rw[As]
   show _=(⟨B2 (Ea s.disk (By (s.safe++s.pend.take m))),Ea s.disk (By (s.safe++s.pend.take m)),_,_,_⟩:PS)
   rw[e1];rfl
end
open PySem
noncomputable def F0:List Act->Nat
 |[]=>0
 |a::l=>wA a+F0 l
noncomputable def Cf:Tr:=.one (0,0,[])
noncomputable def Vz:MS:=⟨Cf,[Cf],[],[],Cf.pF⟩
theorem NW:WF Cf:=⟨BZ.mpr ⟨B3,Ca⟩,fun q hq=>by rw[Ar.mp hq];exact AZ,BK _,⟨fun r hr=>by rw[Ar.mp hr];exact List.Pairwise.nil,List.pairwise_singleton _ _⟩,fun p hp=>absurd hp B3⟩
theorem gH:MAt Vz 0 Cf [] []:=⟨rfl,rfl,rfl,Log3.chk NW.good,NW,fun t ht=>Ar.mp ht▸NW,Am _⟩
theorem gI:Cf.pF=eT:=PF.ext' (funext fun n=>(L0 Pag.d n [(0,Af [])]).symm) rfl
theorem gJ:K8 Vz (C8 Cf ([]++[]))=U3:=by
 show(⟨B2 Cf.pF,Cf.pF,Cf.pF,[],[]⟩:PS)=_
 rw[gI];rfl
theorem gK(l:List Act):∀{s:MS} {N:Nat} {d:Tr} {t1 t2:List Tr},MAt s N d t1 t2->(∀a∈l,AO a)->N+F0 l<=22->∃s' d' u1 u2,MAt s' 22 d' u1 u2/\Steps (K8 s (C8 d (t1++t2))) l (K8 s' (C8 d' (u1++u2)))/\∀xs σ,A8 xs (mv s)->∃ys σ',Lp gl Gx 190 (.one "act") Vu (l.map fun a=>V.d (AV a)) ⟨xs,σ⟩ ⟨ys,σ'⟩/\A8 ys (mv s'):=by
 induction l with
 |nil=>exact fun {s N d t1 t2} h _ hN=>⟨s,d,t1,t2,⟨h.trees,h.safe,h.pend,h.log,h.hand,h.wf,A9 h.len hN⟩,.nil _,fun xs σ q=>⟨xs,σ,GK,q⟩⟩
 |cons a l ih=>
  intro s N d t1 t2 h hA hN
  have hN0:N<=22:=A9 (BJ _ _) hN
  obtain⟨s1,d1,v1,v2,m1,st1,tn1⟩:=gG h hN0 (hA a AZ)
  obtain⟨s2,d2,u1,u2,m2,st2,tn2⟩:=ih m1 (fun b hb=>hA b (Aj _ hb)) (by rw[Dd];exact hN)
  refine⟨s2,d2,u1,u2,m2,.cons (h.ok hN0) st1 st2,fun xs σ q=>?_⟩
  obtain⟨ys,σ1,e1,q1⟩:=tn1 (AS "act" (.d (AV a)) xs) σ (.cons Bx (q.other rfl))
  obtain⟨zs,σ2,e2,q2⟩:=tn2 ys σ1 q1
  exact⟨zs,σ2,Hn Mn e1 e2,q2⟩
noncomputable def HU(s:MS):D:=.tup [s.hand.pd,Ao s.safe,Ao s.pend,B2 s.disk]
noncomputable def W0(s:MS):D:=.tup [s.hand.enc,.lst (s.trees.map Tr.enc),HU s]
theorem gL{l:List Act}(hA:∀a∈l,AO a)(hN:F0 l<=22):∃s d u1 u2,MAt s 22 d u1 u2/\Cl gl EA 230 [.d (.lst (l.map AV))] [] (.val (.d (HU s))) []/\Cl gl Gx 210 [.d (.lst (l.map AV))] [] (.val (.d (W0 s))) []:=by
 obtain⟨s,d,u1,u2,m,st,rn⟩:=gK l gH hA (by rw[De];exact hN)
 rw[gJ] at st
 refine⟨s,d,u1,u2,m,bx st,?_⟩
 have h0:A8 [("actions",V.d (.lst (l.map AV))),("hand",.d Cf.enc)] [("actions",V.d (.lst (l.map AV))),("hand",.d Cf.enc)]:=.refl
 obtain⟨ys,σ,e,h⟩:=rn [("actions",.d (.lst (l.map AV))),("hand",.d Cf.enc),("trees",.d (.lst [Cf.enc])),("safe",.d (Ao [])),("pending",.d (Ao [])),("disk",.d (B2 Cf.pF))] [] (.cons rfl (.cons rfl (.cons rfl (.cons rfl (.cons rfl .nil)))))
 refine Cl.u (K:=200) (Cw rfl rfl (AX (xs':=[("actions",.d (.lst (l.map AV))),("hand",.d Cf.enc)]) (σ':=[]) rfl (fun n=>by kernel_rfl) (AX (xs':=[("actions",.d (.lst (l.map AV))),("hand",.d Cf.enc),("trees",.d (.lst [Cf.enc])),("safe",.d (Ao [])),("pending",.d (Ao [])),("disk",.d (B2 Cf.pF))]) (σ':=[]) rfl (Cu rfl rfl (BA (Aw (ds:=[Cf.enc]) (BS (sZ (pn h0 rfl rfl)) rfl) rfl rfl) (BA (Aw (l:=[]) (ds:=[]) (BS Bq rfl) rfl rfl) (BA (Aw (l:=[]) (ds:=[]) (BS Bq rfl) rfl rfl) (BA (AH (Br (f:=Ct) (us:=[.d Cf.enc]) (r:=.val (.d Cf.pd)) rfl (Bi (by decide)) rfl rfl (sZ (pn h0 rfl rfl)) rfl (Cl.u (Ij NW) rfl))) Cv)))) (tN rfl (tN rfl (tN rfl (tO rfl))))) (AX rfl (Hm (l:=⟨l.map fun a=>V.d (AV a),false⟩) (CF rfl (pR rfl rfl) (A2 (fun l=>some (l,_)) Ai)) rfl rfl (Mine.U.up (nL rfl) (P:=fun n=>forLoop' (AU gl n) Gx _ _ _ _=some _) e)) ?_)))) rfl
 exact CR rfl (Bf (Az (v:=.d (W0 s)) (sN h rfl rfl (sN h rfl rfl (sZ (Az (v:=.d (HU s)) (sK (Br (f:=Ct) (us:=[.d s.hand.enc]) (r:=.val (.d s.hand.pd)) rfl (Bi (by decide)) rfl rfl (sZ (pn h rfl rfl)) rfl (Cl.u (Ij m.hand) rfl)) (sN h rfl rfl (sN h rfl rfl (sZ (pn h rfl rfl))))) rfl (by decide))))) rfl (by decide))) rfl
open PySem
noncomputable def QN:D->List D
 |.tup l=>l
 |_=>[]
noncomputable def W1:D->Int
 |.int i=>i
 |_=>0
noncomputable def NX:List (List Int):=(QN (Fm (B5 11))).map fun d=>(QN d).map W1
noncomputable def QO:List Nat:=(QN (Fm (B5 12))).map fun d=>(W1 d).toNat
noncomputable def NY:List (List Act):=[[],[.com],[.com,.syn],[.com,.chk]]
theorem gM:Fm (B5 11)=.tup (NX.map fun l=>.tup (l.map .int)):=by kernel_rfl
theorem gN:Fm (B5 12)=.tup (QO.map fun n:Nat=>.int (n:Int)):=by kernel_rfl
theorem gO:Fm (B5 13)=.tup (NY.map fun l=>.lst (l.map AV)):=by kernel_rfl
theorem gQ:(NX.all fun l=>decide (l.length<=16)&&l.all fun k=>decide (0<=k)&&decide (k < 17))=true:=by kernel_rfl
theorem W2:NX.length=3/\QO.length=10:=⟨by kernel_rfl,by kernel_rfl⟩
section
variable{K:Nat}{σ:List Cell}{xs:List (Str×V)}{fn:Fn}
theorem QP{x:Str}{dt:D}{p:Pos}(kt:fn.names.lookup x=some .globalImplicit)(ht:AG x gl.tabs=some dt):Ev gl fn (K+1) (.Name x p) ⟨xs,σ⟩ (.val (.d dt)) ⟨xs,σ⟩:=fun n=>by
 show IE gl fn x ⟨xs,σ⟩=_
 unfold IE
 rw[kt]
 exact AQ ht rfl
theorem LU{l:List D}{a:Nat}{w:D}(h:l[a]?=some w):CL σ (.val (.d (.tup l))) (.val (.d (.int a)))=some (.d w):=Es rfl (bnd (a:=(a:Int)) rfl (bnd (a:=l.map V.d) rfl (PC _ (by rw[C0,h];rfl))))
theorem F5(i:Int){m:Nat}(hm:0 < m):∃a:Nat,i%(m:Int)=(a:Int)/\a < m:=by
 have h1:=Int.emod_nonneg i (Int.natCast_ne_zero.mpr (CV hm))
 have h2:=Int.emod_lt_of_pos i (Int.natCast_pos.mpr hm)
 exact⟨(i%m).toNat,(Int.toNat_of_nonneg h1).symm,Bp.mp (by rw[Int.toNat_of_nonneg h1];exact h2)⟩
theorem gR{i M:Int}{a:Nat}(hm:0 < M)(ha:i%M=(a:Int)):Fi σ .Mod (.val (.d (.int i))) (.val (.d (.int M)))=some (.val (.d (.int a))):=by
 have e:Le .Mod M (.int i)=some (.int a):=(A5 hm).trans (A2 (fun i=>some (D.int i)) ha)
 exact Ba (a:=M) rfl (bnd (a:=D.int i) rfl (AQ e rfl))
theorem KB{k:Int}:Fi σ .Add (.val (.d (.key 0))) (.val (.d (.int k)))=some (.val (.d (.key k))):=by
 have e:Le .Add k (.key 0)=some (.key k):=A2 (fun i=>some (D.key i)) (Int.zero_add k)
 exact Ba (a:=k) rfl (bnd (a:=D.key 0) rfl (AQ e rfl))
theorem EM{G:Gl}{e:Expr}{st st₁:St}{i M:Int}{k a:Nat}{p q:Pos}(h:Ev G fn (K+1) e st (.val (.d (.int i))) st₁)(hm:decide (0 < M)=true)(ha:i%M=(a:Int)):Ev G fn (K+2) (.BinOp e .Mod (.Constant (.int M) k q) p) st (.val (.d (.int a))) st₁:=Ag h Ab (gR (DI hm) ha)
end
theorem gT:PyData.strOk "" = true:=by decide +kernel
theorem gU:PyData.strOk "a" = true:=by decide +kernel
theorem gV:PyData.strOk "b" = true:=by decide +kernel
theorem gW:PyData.strOk "c" = true:=by decide +kernel
theorem gX:PyData.strOk "crash" = true:=by decide +kernel
noncomputable def vals:List Str:=["","b","c"]
noncomputable def GY(k v f c t:Nat):List Act:=
 let a:=Act.put k (vals[v]?.getD "")
 [a,a,.rem k,.rem k,.rem k,.com,.com,.syn,.fls f,.fls f,.crs c,[Act.back,Act.chk][t]?.getD .back]
noncomputable def GZ(p:Int×Int):Act:=(GY (p.2%17).toNat (p.2%3).toNat (p.2%10).toNat (p.2%16).toNat (p.2%2).toNat)[(p.1%12).toNat]?.getD .com
noncomputable def E0(p:Int×Int):D:=.tup [.int p.1,.int p.2]
noncomputable def KD(l:List Act):List Cell:=[.lst ((l.map AV).map V.d)]
noncomputable def LV:List (Str×V):=[("base",.d (.key 0)),("acts",.loc 0)]
section
variable{K:Nat}{xs:List (Str×V)}{l:List Act}
theorem gY{p:Int×Int}(h:A8 xs LV)(hl:l.length < 900):∃ys,Lp gl Gy 30 (.two "kind" "x") (CX (BV Gy 2)) [.d (E0 p)] ⟨xs,KD l⟩ ⟨ys,KD (l++[GZ p])⟩/\A8 ys LV:=by
 obtain⟨a,ha,la⟩:=F5 p.1 (m:=12) (nL rfl)
 obtain⟨k,hk,lk⟩:=F5 p.2 (m:=17) (nL rfl)
 obtain⟨v,hv,lv⟩:=F5 p.2 (m:=3) (nL rfl)
 obtain⟨f,hf,lf⟩:=F5 p.2 (m:=10) (nL rfl)
 obtain⟨c,hc,lc⟩:=F5 p.2 (m:=16) (nL rfl)
 obtain⟨t,ht,lt⟩:=F5 p.2 (m:=2) (nL rfl)
 have eA:GZ p=(GY k v f c t)[a]?.getD .com:=by
  unfold GZ
  rw[show p.1%12=(a:Int) from ha,show p.2%17=(k:Int) from hk,show p.2%3=(v:Int) from hv,show p.2%10=(f:Int) from hf,show p.2%16=(c:Int) from hc,show p.2%2=(t:Int) from ht]
  rfl
 have gv:(vals.map D.str)[v]?=some (.str (vals[v]?.getD "")):=by
  rw[C0,D3 (l:=vals) lv];rfl
 have gt:([Act.back,Act.chk].map AV)[t]?=some (AV ([Act.back,Act.chk][t]?.getD .back)):=by
  rw[C0,D3 (l:=[Act.back,Act.chk]) lt];rfl
 have gm:((GY k v f c t).map AV)[a]?=some (AV (GZ p)):=by
  rw[eA,C0,D3 (l:=GY k v f c t) la];rfl
 have h1:A8 (AS "x" (.d (.int p.2)) (AS "kind" (.d (.int p.1)) xs)) (("x",.d (.int p.2))::("kind",.d (.int p.1))::LV):=.cons Bx (.cons ((IV (by decide)).trans Bx) ((h.other rfl).other rfl))
 have h2:=((h1.put (x:="add") (v:=.d (AV (.put k (vals[v]?.getD "")))) rfl).put (x:="out") (v:=.d (AV (.rem k))) rfl).put (x:="flush") (v:=.d (AV (.fls f))) rfl
 have h3:=h2.put (x:="turn") (v:=.d (AV ([Act.back,Act.chk][t]?.getD .back))) rfl
 have h4:=h3.put (x:="menu") (v:=.d (.lst ((GY k v f c t).map AV))) rfl
 refine⟨_,Hn (st₁:=⟨AS "x" (.d (.int p.2)) (AS "kind" (.d (.int p.1)) xs),KD l⟩) rfl (B9 (Cu rfl rfl
  (BA (v:=.d (AV (.put k (vals[v]?.getD "")))) (AH (Az (sK (BW Et) (sK (Ag (pn h1 rfl rfl) (EM (pn h1 rfl rfl) rfl hk) KB) (sZ (BF rfl (Az (v:=.d (.tup (vals.map .str))) (sK (BW gT) (sK (BW gV) (sZ (BW gW)))) rfl (by decide)) (EM (pn h1 rfl rfl) rfl hv) (LU gv))))) rfl rfl))
  (BA (v:=.d (AV (.rem k))) (AH (Az (sK (BW Ft) (sZ (Ag (pn h1 rfl rfl) (EM (pn h1 rfl rfl) rfl hk) KB))) rfl rfl))
  (BA (v:=.d (AV (.fls f))) (AH (Az (sK (BW Ic) (sZ (EM (pn h1 rfl rfl) rfl hf))) rfl rfl)) Cv))) (tN rfl (tN rfl (tO rfl))))
  (B9 (Ac (AH (BF rfl (Az (v:=.d (.tup ([Act.back,Act.chk].map AV))) (sK (Az (sZ (BW ED)) rfl rfl) (sZ (Az (sZ (BW HF)) rfl rfl))) rfl (by decide)) (EM (pn h2 rfl rfl) rfl ht) (LU gt))) rfl)
  (B9 (Ac (v:=.d (.lst ((GY k v f c t).map AV))) (Aw (l:=((GY k v f c t).map AV).map V.d) (BS (sN h3 rfl rfl (sN h3 rfl rfl (sN h3 rfl rfl (sN h3 rfl rfl (sN h3 rfl rfl (BT (v:=.d (AV .com)) (AH (Az (sZ (BW CU)) rfl rfl)) (BT (v:=.d (AV .com)) (AH (Az (sZ (BW CU)) rfl rfl)) (BT (v:=.d (AV .syn)) (AH (Az (sZ (BW Fu)) rfl rfl)) (sN h3 rfl rfl (sN h3 rfl rfl (BT (v:=.d (AV (.crs c))) (AH (Az (sK (BW gX) (sZ (EM (pn h3 rfl rfl) rfl hc))) rfl rfl)) (sZ (pn h3 rfl rfl))))))))))))) rfl) rfl (B6 _)) rfl)
  (xO (Jg (v:=.d (AV (GZ p))) rfl (pn h4 rfl rfl) rfl (AH (BF rfl (pn h4 rfl rfl) (EM (pn h4 rfl rfl) rfl ha) (Ed gm))) rfl ?_ ?_))))) GK,?_⟩
 ·rw[A4,A4];exact AN hl (nL rfl)
 ·unfold KD;rw[AK,AK];rfl
 ·exact h4.trans (.cons rfl (.cons rfl .nil))
theorem gZ(ps:List (Int×Int)):∀{xs:List (Str×V)} {l:List Act},A8 xs LV->l.length+ps.length < 900->∃ys,Lp gl Gy 30 (.two "kind" "x") (CX (BV Gy 2)) (ps.map fun p=>.d (E0 p)) ⟨xs,KD l⟩ ⟨ys,KD (l++ps.map GZ)⟩/\A8 ys LV:=by
 induction ps with
 |nil=>exact fun {xs l} h _=>⟨xs,by rw[List.map_nil,List.map_nil,As];exact GK,h⟩
 |cons p ps ih=>
  intro xs l h hl
  obtain⟨ys,e1,h1⟩:=gY (p:=p) h (Aa (BJ _ _) hl)
  obtain⟨zs,e2,h2⟩:=ih (l:=l++[GZ p]) h1 (by rw[AC];exact Aa (BQ (by rw[Dd,List.length_singleton,Nat.add_comm 1];rfl)) hl)
  rw[AJ] at e2
  exact⟨zs,fun n=>(Ux _ _ [V.d (E0 p)] (ps.map fun p=>V.d (E0 p))).trans (U.bnd (e1 n) (e2 n)),h2⟩
noncomputable def HV(k:Int):Act:=.put k "a"
theorem gc(a:Act):wA a<=1:=by cases a <;> first |exact BK _ |exact Am _
theorem W3(l m:List Act):F0 (l++m)=F0 l+F0 m:=by
 induction l with
 |nil=>exact(De _).symm
 |cons a l ih=>show wA a+F0 (l++m)=wA a+F0 l+F0 m;rw[ih,Dd]
theorem W4(l:List Act):F0 l<=l.length:=by
 induction l with
 |nil=>exact Am _
 |cons a l ih=>show wA a+F0 l<=l.length+1;rw[Nat.add_comm];exact DF ih (gc a)
theorem gg(l:List Int):F0 (l.map HV)=0:=by
 induction l with
 |nil=>rfl
 |cons a l ih=>exact(De _).trans ih
theorem gh(i:Int):0<=((i%17).toNat:Int)/\((i%17).toNat:Int) < 17:=by
 have h1:=Int.emod_nonneg i (by decide:(17:Int)≠0)
 rw[Int.toNat_of_nonneg h1]
 exact⟨h1,Int.emod_lt_of_pos i (by decide)⟩
theorem gj(p:Int×Int):AO (GZ p):=by
 have q:=gh p.2
 have all:∀a∈GY (p.2%17).toNat (p.2%3).toNat (p.2%10).toNat (p.2%16).toNat (p.2%2).toNat,AO a:=by
  have turn:∀t:Nat,AO ([Act.back,Act.chk][t]?.getD .back):=fun t=>by
   cases t with
   |zero=>trivial
   |succ t=>cases t with
    |zero=>trivial
    |succ t=>trivial
  unfold GY
  exact Db.mpr ⟨q,Db.mpr ⟨q,Db.mpr ⟨q,Db.mpr ⟨q,Db.mpr ⟨q,Db.mpr ⟨trivial,Db.mpr ⟨trivial,Db.mpr ⟨trivial,Db.mpr ⟨trivial,Db.mpr ⟨trivial,Db.mpr ⟨trivial,Db.mpr ⟨turn _,fun _ h=>absurd h B3⟩⟩⟩⟩⟩⟩⟩⟩⟩⟩⟩⟩
 unfold GZ
 cases h:(GY (p.2%17).toNat (p.2%3).toNat (p.2%10).toNat (p.2%16).toNat (p.2%2).toNat)[(p.1%12).toNat]? with
 |none=>trivial
 |some a=>exact all a (Fa h)
theorem gq(l:List D):EQ (l.map V.d)=.d (.tup l):=Ba (B6 l) rfl
theorem gu{size order after:Int}{ps:List (Int×Int)}(hp:ps.length<=10):∃l:List Act,(∀a∈l,AO a)/\F0 l<=22/\Cl gl Gy 50 [.d (.key 0),.d (.int size),.d (.int order),.d (.int after),.d (.lst (ps.map E0))] [] (.val (.d (.lst (l.map AV)))) []:=by
 obtain⟨a,ha,la⟩:=F5 order (m:=3) (nL rfl)
 obtain⟨b,hb,lb⟩:=F5 size (m:=10) (nL rfl)
 obtain⟨c,hc,lc⟩:=F5 after (m:=4) (nL rfl)
 obtain⟨ks,hks⟩:∃ks,NX[a]?=some ks:=⟨_,D3 (W2.1.symm▸la)⟩
 obtain⟨m,hm⟩:∃m,QO[b]?=some m:=⟨_,D3 (W2.2.symm▸lb)⟩
 obtain⟨af,haf⟩:∃af,NY[c]?=some af:=⟨_,D3 lc⟩
 have hk:=Bb.mp (CO.mp gQ ks (Fa hks))
 have kl:(ks.take m).length<=16:=A9 (List.length_take_le' _ _) (DI hk.1)
 have ki:∀k∈ks.take m,0<=k/\k < 17:=fun k h=>by
  have:=Bb.mp (CO.mp hk.2 k (I0 h))
  exact⟨DI this.1,DI this.2⟩
 have afk:(∀x∈af,AO x)/\af.length<=2:=by
  have all:∀f∈NY,(∀x∈f,AO x)/\f.length<=2:=by
   unfold NY
   exact Db.mpr ⟨⟨fun _ h=>absurd h B3,(by decide:0<=2)⟩,Db.mpr ⟨⟨fun x h=>Ar.mp h▸trivial,(by decide:1<=2)⟩,Db.mpr ⟨⟨Db.mpr ⟨trivial,fun x h=>Ar.mp h▸trivial⟩,(by decide:2<=2)⟩,Db.mpr ⟨⟨Db.mpr ⟨trivial,fun x h=>Ar.mp h▸trivial⟩,(by decide:2<=2)⟩,fun _ h=>absurd h B3⟩⟩⟩⟩
  exact all af (Fa haf)
 have h0:A8 [("base",V.d (.key 0)),("size",.d (.int size)),("order",.d (.int order)),("after",.d (.int after)),("steps",.d (.lst (ps.map E0)))] [("base",V.d (.key 0)),("size",.d (.int size)),("order",.d (.int order)),("after",.d (.int after)),("steps",.d (.lst (ps.map E0)))]:=.refl
 have h1:=h0.put (x:="keys") (v:=.d (.tup ((ks.take m).map .int))) rfl
 have h2:=h1.put (x:="acts") (v:=.loc 0) rfl
 have ll:((ks.take m).map HV++af).length<=18:=by rw[AC,A4];exact DF kl afk.2
 obtain⟨ys,e,hy⟩:=gZ ps (xs:=_) (l:=(ks.take m).map HV++af) (h2.trans (.cons rfl (.cons rfl .nil))) (Aa (DF ll hp) (nL rfl))
 refine⟨((ks.take m).map HV++af)++ps.map GZ,?_,?_,?_⟩
 ·intro x hx
  refine(Bv.mp hx).elim (fun hx=>(Bv.mp hx).elim (fun hx=>?_) (afk.1 x)) fun hx=>?_
  ·obtain⟨k,hk,rfl⟩:=BU.mp hx;exact ki k hk
  ·obtain⟨p,_,rfl⟩:=BU.mp hx;exact gj p
 ·rw[W3,W3,gg,De]
  exact A9 (DF (A9 (W4 _) afk.2) (A9 (W4 _) (by rw[A4];exact hp))) (nL rfl)
 ·refine Cl.u (K:=45) (Cw rfl rfl (AX rfl (Ac (v:=.d (.tup ((ks.take m).map .int))) (AH (BN (r₁:=.val (.d (.tup ((ks.take m).map .int)))) (BF (w:=.d (.tup (ks.map .int))) rfl (QP rfl rfl) (EM (pn h0 rfl rfl) rfl ha) ?_) (fun _=>BR) (BI (i:=(m:Int)) (BF rfl (QP rfl rfl) (EM (pn h0 rfl rfl) rfl hb) ?_)) ?_)) rfl) (AX rfl (Ac (Ci (l:=(((ks.take m).map HV++af).map AV).map V.d) (Ag (Eb (g:=fun k:Int=>V.d (.int k)) (h:=fun k=>V.d (AV (HV k))) (b:=fun _=>true) (l:=ks.take m) (ys:=[("base",.d (.key 0))]) (CF rfl (pn h1 rfl rfl) (A2 (fun l=>some (l,[])) Ai)) rfl rfl rfl (.cons (h1.seen rfl rfl) .nil) rfl (fun k _ zs hz=>⟨HD,fun _=>AH (Az (v:=.d (AV (HV k))) (sK (BW Et) (sK (Ag (pn hz rfl rfl) (pn hz rfl rfl) KB) (sZ (BW gU)))) rfl (by decide))⟩) ?_ rfl) (BF (w:=.d (.lst (af.map AV))) rfl (QP rfl rfl) (EM (pn h1 rfl rfl) rfl hc) ?_) ?_) rfl) rfl) (AX rfl (Hm (l:=⟨ps.map fun p=>V.d (E0 p),false⟩) (CF rfl (pn h2 rfl rfl) (A2 (fun l=>some (l,_)) Ai)) rfl rfl (Mine.U.up (nL rfl) (P:=fun n=>forLoop' (AU gl n) Gy _ _ _ _=some _) e)) (CR rfl (Bf (pn hy rfl rfl)) (Tj rfl)))))) rfl
  ·rw[gM];exact LU (by rw[C0,hks];rfl)
  ·rw[gN];exact LU (by rw[C0,hm];rfl)
  ·refine Es rfl (AQ (a:=(ks.map D.int).map V.d) rfl ?_)
   rw[L5,<-EO,<-EO,gq]
  ·exact A9 kl (nL rfl)
  ·rw[gO];exact LU (by rw[C0,haf];rfl)
  ·rw[HW.mpr fun _ _=>rfl,AK,AK]
   rw[show List.map (fun k=>V.d (AV (HV k))) (ks.take m)=(((ks.take m).map HV).map AV).map V.d from by rw[Ai,Ai];rfl]
   refine GQ rfl rfl rfl ?_
   rw[AC] at ll
   rw[A4,A4 (f:=AV),A4 (f:=V.d),A4 (f:=AV)]
   exact A9 ll (nL rfl)
end
open PySem
section
variable{T:Tr}{k:Int}{x:A1}{A B R:List A1}
theorem W5(h:∀r∈R,∀p∈r.2.2,p.1≠k):AP k (fl R)=.none:=Cz.mpr fun hm=>by
 obtain⟨p,hp,e⟩:=BU.mp hm
 obtain⟨r,hr,hp⟩:=List.mem_flatMap.mp hp
 exact h r hr p hp e
theorem gw(ho:Ord (A++x::B))(hl:Loc (A++x::B) k A x B):AP k (fl (A++x::B))=AP k x.2.2:=by
 have o:=HP.mp ho
 have hA:AP k (fl A)=.none:=W5 fun u hu p hp=>Int.ne_of_lt (Int.lt_of_lt_of_le ((o.2.2.1 u hu).1 p hp) (hl.lo fun e=>by rw[e] at hu;exact absurd hu B3))
 have hB:AP k (fl B)=.none:=W5 fun b hb q hq=>Int.ne_of_gt (Int.lt_of_lt_of_le (hl.high b hb) ((o.2.2.2 b hb).2 q hq))
 rw[GU,QD,QD,hA,hB]
 cases AP k x.2.2 <;> rfl
theorem gz(w:WF T)(k:Int):Cl gl GH 80 [.d T.pd,.d (.key k)] [] (.val (.d (EH k (fl T.rows)))) []:=by
 have hf:=EK w.dm
 rcases Q7 w k with⟨x,rfl⟩ |⟨C,sp,A,x,B,rfl,h⟩
 ·rw[show fl (Tr.one x).rows=x.2.2 from As _]
  exact NA hf (.leaf (K1 x)) (nL rfl) (Bg (w.ord.asc x AZ))
 ·obtain⟨j,hj,P⟩:=h.ok.path h.loc (Aa h.sz.2.1 (nL rfl))
  have e:EH k (fl (C.tree (A++x::B)).rows)=EH k x.2.2:=by
   unfold EH
   rw[C.row_eq,gw h.ord h.lof]
  rw[e]
  exact NA hf P hj (Bg h.asc)
theorem QQ{f:BG}(h:∀r∈R,f r.2.1=some (Af r.2.2)):NB (Jr f 0) (AI R) (fl R):=by
 induction R with
 |nil=>rfl
 |cons r R ih=>exact⟨r.2.2,fl R,rfl,h r AZ,ih fun q hq=>h q (Aj _ hq)⟩
theorem hM(w:WF T):∃j,j < 5/\Jr (pf T.pgs) j T.root (fl T.rows):=by
 have lf:∀r∈T.rows,pf T.pgs r.2.1=some (Af r.2.2):=fun r hr=>Ez w.nod (CE _ (BU.mpr ⟨r,hr,rfl⟩))
 have inn:∀q∈T.ins,pf T.pgs q.1=some q.2:=fun q hq=>Ez w.nod (BE _ hq)
 cases T with
 |one x=>exact⟨0,by decide,(lf x AZ).trans (A2 (fun l=>some (Af l)) (As _).symm)⟩
 |grp g R=>exact⟨1,by decide,_,_,inn _ AZ,QQ lf⟩
 |two t g h R S=>
  refine⟨2,by decide,_,_,inn (LH t g h S) (Aj _ (Aj _ AZ)),fl R,fl S,VG R S,⟨_,_,inn (BD g R) AZ,QQ fun r hr=>lf r (CE _ hr)⟩,fl S,[],(As _).symm,⟨_,_,inn (BD h S) (Aj _ AZ),QQ fun r hr=>lf r (BE _ hr)⟩,rfl⟩
theorem QR(w:WF T):(fl T.rows).length<=17:=VH (lo:=0) (n:=17) (Q1 w.ord) w.key
theorem hO(w:WF T)(lo hi:Int):Cl gl MM 160 [.d T.pd,.d (.key lo),.d (.key hi)] [] (.fresh (Cj (LD lo hi (fl T.rows)))) []:=by
 obtain⟨j,hj,P⟩:=hM w
 exact d6 (EK w.dm) P hj (Aa (QR w) (nL rfl))
end
open PySem
noncomputable def Iv:R:=.val (.d (.bool true))
structure Scr(items:List D)(s:Nat->Int):Prop where
 key:items[0]?=some (.key 0)
 at_:∀j,0 < j->j < 24->items[j]?=some (.int (s j))
 len:24<=items.length
section
variable{K:Nat}{σ:List Cell}{xs ys:List (Str×V)}{items:List D}{sc:Nat->Int}{s:MS}{l:List Act}{N:Nat}{d:Tr}{t1 t2:List Tr}
theorem W6{j:Nat}{J:Int}{w:D}{p q p1:Pos}{kk:Nat}(h:A8 xs ys)(hs:AG "script" ys=some (.d (.lst items)))(hj:items[j]?=some w)(hJ:(j:Int)=J):Ev gl D5 (K+2) (.Subscript (.Name "script" p) (.Constant (.int J) kk q) p1) ⟨xs,σ⟩ (.val (.d w)) ⟨xs,σ⟩:=iX (pn h rfl hs) (hJ▸Ed hj)
theorem F7(S:Scr items sc){j:Nat}{J:Int}{p q p1:Pos}{kk:Nat}(h:A8 xs ys)(hs:AG "script" ys=some (.d (.lst items)))(hJ:(j:Int)=J)(h0:decide (0 < j/\j < 24)=true):Ev gl D5 (K+2) (.Subscript (.Name "script" p) (.Constant (.int J) kk q) p1) ⟨xs,σ⟩ (.val (.d (.int (sc j)))) ⟨xs,σ⟩:=W6 h hs (S.at_ j (DI h0).1 (DI h0).2) hJ
theorem hV{l:List D}(h:Be (.lst l) 30=true):Di .NotEq σ (.fresh (l.map V.d)) (.fresh (l.map V.d))=some false:=by
 have e:KJ (KK σ (.fresh (l.map V.d)))=some (.lst l):=bnd (a:=V.d (.lst l)) (AQ (B6 l) rfl) rfl
 exact bnd e (bnd e (AQ (IZ h) rfl))
theorem hW{e:Expr}{q p1 p2 p3:Pos}{i:Int}{st:St}(h:Ev gl D5 K e st (.val (.d (.int i))) st):Tt gl D5 (K+1) (.Compare (.Call (.Name "type" p1) [e] [] p2) [.Is] [.Name "int" p3] q) st true st:=fun n=>by
 show(if (DQ gl D5 "type"&&DQ gl D5 "int")=true then(Fg (AU gl (n+K)) D5 e st).map fun p=>(true,p.2) else .none)=_
 exact BM rfl (AQ (a:=(i,st)) (bnd (a:=((false,i),st)) (bnd (h n) rfl) rfl) rfl)
theorem hZ{fn:Fn}{g:Comprehension}{p:Pos}{kk:fn.hm=false}(hi:∀{zs v},A8 zs [("ps",v)]->Ev gl fn (K+1) g.iter ⟨zs,σ⟩ (.val v) ⟨zs,σ⟩)(hE:∀n st,FJ gl (AU gl (n+(K+1))) fn g.iter st=KY (AU gl (n+(K+1))) fn g.iter st)(ht:Dm g.target=some (.one "p"))(hk:Cr fn false (.one "p")=true)(hf:g.ifs=[])(hp:true=DU (fn.names.lookup ("p" : Str)))(R:List A1):∀xs,∃xs',Tn gl fn (K+1) (.two "n" "ps") [] (.Name "p" p) [g] (R.map fun r=>V.d (Ay r)) ⟨xs,σ⟩ (Cj (fl R)) ⟨xs',σ⟩:=by
 induction R with
 |nil=>exact fun xs=>⟨xs,Ji⟩
 |cons r R ih=>
  intro xs
  have h1:A8 (AS "ps" (.d (.lst (r.2.2.map AL))) (AS "n" (.d (.int r.2.1)) xs)) [("ps",.d (.lst (r.2.2.map AL)))]:=.cons Bx .nil
  obtain⟨x1,e1,_⟩:=Tq (G:=gl) (fn:=fn) (K:=K+1) (σ:=σ) (g:=fun q=>V.d (AL q)) (h:=fun q=>V.d (AL q)) (b:=fun _=>true) (tg:=.one "p") (ifs:=g.ifs) (elt:=.Name "p" p) (l:=r.2.2) (ys:=[]) _ (.nil:A8 (AS "ps" (.d (.lst (r.2.2.map AL))) (AS "n" (.d (.int r.2.1)) xs)) []) fun q _ zs _=>⟨AS "p" (.d (AL q)) zs,rfl,.nil,hf▸HD,fun _=>AH (pn (ys:=[("p",.d (AL q))]) (.cons Bx .nil) hp (A5 rfl))⟩
  obtain⟨x2,e2⟩:=ih x1
  rw[HW.mpr fun _ _=>rfl] at e1
  have e3:=Uh (G:=gl) (fn:=fn) (elt:=.Name "p" p) (gs:=[]) (Jd (fun n=>hE n _) (hi h1) (A2 (fun l=>some (l,σ)) (Ai (f:=AL) (g:=V.d)))) ht hk e1
  refine⟨x2,?_⟩
  rw[show Cj (fl (r::R))=r.2.2.map (fun q=>V.d (AL q))++Cj (fl R) from by unfold Cj;rw[show fl (r::R)=r.2.2++fl R from rfl,AK,AK,Ai (l:=r.2.2)];rfl]
  exact Ug rfl e3 e2
end
open PySem
noncomputable def QS(items:List D)(l:List Act)(s:MS):List (Str×V):=[("script",.d (.lst items)),("base",.d (.key 0)),("actions",.d (.lst (l.map AV))),("twin",.d (.lst (l.map AV))),("hand",.d s.hand.enc),("trees",.d (.lst (s.trees.map Tr.enc))),("want",.d (HU s)),("got",.d (HU s))]
section
variable{K:Nat}{σ:List Cell}{xs ys:List (Str×V)}{items:List D}{sc:Nat->Int}{s:MS}{l:List Act}{N:Nat}{d:Tr}{t1 t2:List Tr}
theorem W7(m:MAt s 22 d t1 t2):Be (HU s) 30=true:=by
 have o:=m.ok (Am _)
 show(Be s.hand.pd 29&&(Be (Ao s.safe) 29&&(Be (Ao s.pend) 29&&(Be (B2 s.disk) 29&&true))))=true
 rw[show Be s.hand.pd 29=true from Oz m.hand.good 23,show Be (Ao s.safe) 29=true from Mi o.safe 24,show Be (Ao s.pend) 29=true from Mi o.pend 24,show Be (B2 s.disk) 29=true from Oz o.disk 23];rfl
theorem i0(l:List Act):Be (.lst (l.map AV)) 30=true:=Oy fun a _=>by cases a <;> rfl
theorem i3(L:List (Int×Str)):Be (.lst (L.map AL)) 30=true:=Oy fun a _=>rfl
theorem i4(k:Int)(L:List (Int×Str)):Be (EH k L) 30=true:=by unfold EH;cases AP k L <;> rfl
theorem i5(S:Scr items sc)(m:MAt s 22 d t1 t2)(h:A8 xs (QS items l s)):CD gl D5 120 16 xs σ Iv:=by
 obtain⟨q,hq,_⟩:=F5 (sc 23) (m:=16) (nL rfl)
 obtain⟨us,vs,e,c1,c2,c3⟩:=m.log.cut q
 obtain⟨a,b,rfl,rfl,rfl⟩:=List.map_eq_append_iff.mp e
 rw[<-m.pend,<-m.safe] at c1 c2
 rw[<-K9] at c1 c3
 rw[A4,A4] at c2
 rw[NV] at c3
 have o:=m.ok (Am _)
 have bd:=m.bnd (Am _)
 have hle:s.safe.length+(s.pend.take q).length < 400:=Aa (C9 (List.length_take_le' _ _) _) bd.1
 have hro:∀x∈s.safe++s.pend.take q,EZ x:=fun x hx=>(Bv.mp hx).elim (o.safe x) fun hx=>o.pend x (I0 hx)
 have tk:s.trees[t1.length+a.length]?=some (C8 d (t1++a)):=by
  obtain⟨i,hi⟩:=QM (t1++a) d
  have li:i.length=t1.length+a.length:=by
   have:=A2 List.length hi
   rw[DD,AC,AC] at this
   exact(Nat.succ.inj this).symm
  rw[m.trees,<-AJ,<-List.cons_append,hi,AJ,<-li,HX (Am _),Nat.sub_self];rfl
 generalize hR:s.safe++s.pend.take q=rest at *
 have rl:rest.length < 400:=by rw[<-hR,AC];exact hle
 have e1:B2 (Ea s.disk rest)=(C8 d (t1++a)).pd:=by
  unfold Ea
  rw[c1,c3];rfl
 have wl:WF (C8 d (t1++a)):=m.wf _ (Fa tk)
 have sl:∀{τ:List Cell},GA τ (.val (.d (Ao s.pend))) .none (some (q:Int))=some (.fresh (((s.pend.take q).map Ap).map V.d)):=fun {τ}=>by rw[EO];exact Ee q
 have bc:∀{τ:List Cell},Fi τ .Add (.val (.d (Ao s.safe))) (.fresh (((s.pend.take q).map Ap).map V.d))=some (.fresh ((rest.map Ap).map V.d)):=fun {τ}=>by rw[<-hR];exact Mp (A9 (BH hle) (nL rfl))
 have h1:=h.put (x:="rest") (v:=.d (Ao rest)) rfl
 have h2:=h1.put (x:="count") (v:=.d (.int ((t1.length+a.length:Nat):Int))) rfl
 refine CD.u (K:=110) ?_ rfl
 refine AX rfl (Ac (v:=.d (Ao rest)) (Aw (Ag (iX (pn h rfl rfl) rfl) (BN (iX (pn h rfl rfl) rfl) (fun _=>BR) (BI (EM (F7 S (j:=23) h rfl rfl rfl) rfl hq)) sl) bc) rfl (B6 _)) rfl) ?_
 refine AX rfl (Ac (v:=.d (.int ((t1.length+a.length:Nat):Int))) (AH (C7 (fun _=>rfl) (Mo (g:=fun r:Rec=>V.d (Ap r)) (b:=Bs) (l:=rest) (ys:=[]) (CF rfl (pn h1 rfl rfl) (A2 (fun l=>some (l,_)) Ai)) rfl rfl rfl rfl rfl .nil rfl (fun r _ zs hz=>An rfl (iX (pn hz rfl rfl) QJ) (BW CU) (GN (Fq (QK r)))) (A9 (BH rl) (nL rfl))) ?_)) rfl) ?_
 ·refine(A5 rfl).trans (AQ (a:=(rest.filter Bs).map fun r:Rec=>V.d (Ap r)) rfl ?_)
  rw[A4,c2]
 refine AX rfl (B1 (An rfl (Br (f:=EX) (us:=[.d (B2 s.disk),.d (Ao rest)]) rfl (Bi (by decide)) rfl rfl (sK (iX (pn h2 rfl rfl) rfl) (sZ (pn h2 rfl rfl))) rfl (Cl.u (Tp o.disk hro (AN rl (nL rfl))) rfl)) (Br (f:=Ct) (us:=[.d (C8 d (t1++a)).enc]) (r:=.val (.d (C8 d (t1++a)).pd)) rfl (Bi (by decide)) rfl rfl (sZ (BF rfl (pn h2 rfl rfl) (pn h2 rfl rfl) (Ed (by rw[C0,tk];rfl)))) rfl (Cl.u (Ij wl) rfl)) (Fp (by rw[e1];exact IZ (Oz wl.good 24)) rfl)) BO) ?_
 refine AX rfl (B1 (An rfl (pn h2 rfl rfl) (Ag (iX (pn h2 rfl rfl) rfl) (BN (iX (pn h2 rfl rfl) rfl) (fun _=>BR) (BI (EM (F7 S (j:=23) h2 rfl rfl rfl) rfl hq)) sl) bc) ?_) BO) ?_
 ·exact bnd (a:=Ao rest) rfl (bnd (a:=Ao rest) (bnd (a:=V.d (Ao rest)) (AQ (B6 _) rfl) rfl) (AQ (IZ (Mi hro 25)) rfl))
 refine AX rfl (B1 (An rfl (pn h2 rfl rfl) (pn h2 rfl rfl) (Fp (IZ (W7 m)) rfl)) BO) ?_
 exact CR rfl (Bf fun n=>rfl) rfl
end
open PySem
section
variable{K:Nat}{σ:List Cell}{xs ys:List (Str×V)}{items:List D}{sc:Nat->Int}{s:MS}{l:List Act}{N:Nat}{d:Tr}{t1 t2:List Tr}
noncomputable def W8(items:List D)(l:List Act)(s:MS):List (Str×V):=("pairs",.d (.lst ((fl s.hand.rows).map AL)))::QS items l s
theorem i6(S:Scr items sc)(m:MAt s 22 d t1 t2)(h:A8 xs (W8 items l s)):CD gl D5 200 14 xs σ Iv:=by
 obtain⟨a,ha,_⟩:=F5 (sc 21) (m:=17) (nL rfl)
 obtain⟨b,hb,_⟩:=F5 (sc 22) (m:=18) (nL rfl)
 have h2:=(h.put (x:="low") (v:=.d (.key a)) rfl).put (x:="high") (v:=.d (.key b)) rfl
 refine CD.u (K:=190) ?_ rfl
 refine AX rfl (Cu rfl rfl (BA (v:=.d (.key a)) (AH (Ag (pn h rfl rfl) (EM (F7 S (j:=21) h rfl rfl rfl) rfl ha) KB)) (BA (v:=.d (.key b)) (AH (Ag (pn h rfl rfl) (EM (F7 S (j:=22) h rfl rfl rfl) rfl hb) KB)) Cv)) (tN rfl (tO rfl))) ?_
 refine AX rfl (B1 (An rfl (Br (f:=MM) (us:=[.d s.hand.pd,.d (.key a),.d (.key b)]) rfl (Bi (by decide)) rfl rfl (sK (iX (pn h2 rfl rfl) rfl) (sN h2 rfl rfl (sZ (pn h2 rfl rfl)))) rfl (Cl.u (hO m.hand a b) rfl)) (Eb (g:=fun p=>V.d (AL p)) (h:=fun p=>V.d (AL p)) (b:=fun p:Int×Str=>decide ((a:Int)<=p.1)&&decide (p.1 < (b:Int))) (l:=fl s.hand.rows) (lr:=Cj (LD a b (fl s.hand.rows))) (ys:=[("low",.d (.key a)),("high",.d (.key b))]) (CF rfl (pn h2 rfl rfl) (A2 (fun l=>some (l,σ)) Ai)) rfl rfl rfl (.cons (h2.seen rfl rfl) (.cons (h2.seen rfl rfl) .nil)) rfl (fun p _ zs hz=>⟨GP (CM ?_),fun _=>kN hz rfl rfl⟩) (A9 (QR m.hand) (nL rfl)) (Ai (f:=AL) (g:=V.d)).symm) (hV (i3 _))) BO) ?_
 ·have t1:∀{c:Bool},decide ((a:Int)<=p.1)=c->Di .LtE σ (.val (.d (.key a))) (.val (.d (.key p.1)))=some c:=fun q=>by rw[<-q];rfl
  have e2:Di .Lt σ (.val (.d (.key p.1))) (.val (.d (.key b)))=some (decide (p.1 < (b:Int))):=rfl
  by_cases q:(a:Int)<=p.1
  ·rw[Ae q,Bool.true_and]
   exact Ds (An rfl (pn hz rfl rfl) (iX (pn hz rfl rfl) rfl) (t1 (Ae q))) (Dt (An rfl (iX (pn hz rfl rfl) rfl) (pn hz rfl rfl) e2))
  ·rw[decide_eq_false q,Bool.false_and]
   exact FM (An rfl (pn hz rfl rfl) (iX (pn hz rfl rfl) rfl) (t1 (decide_eq_false q)))
 exact(i5 S m (h2.trans (.cons rfl (.cons rfl (.cons rfl (.cons rfl (.cons rfl (.cons rfl (.cons rfl (.cons rfl .nil)))))))))).u rfl
theorem i7(S:Scr items sc)(m:MAt s 22 d t1 t2)(h:A8 xs (QS items l s)):CD gl D5 220 8 xs [] Iv:=by
 obtain⟨a,ha,_⟩:=F5 (sc 20) (m:=17) (nL rfl)
 have L:=Q1 m.hand.ord
 have h1:A8 (AS "pairs" (.d (.lst ((fl s.hand.rows).map AL))) xs) (W8 items l s):=.cons Bx (h.other rfl)
 have h2:=h1.put (x:="key") (v:=.d (.key a)) rfl
 refine CD.u (K:=210) ?_ rfl
 refine AX rfl (B1 (An rfl (pn h rfl rfl) (pn h rfl rfl) (Fp (IZ (W7 m)) rfl)) BO) ?_
 refine AX rfl (B1 (An rfl (pn h rfl rfl) (pn h rfl rfl) (Fp (IZ (i0 l)) rfl)) BO) ?_
 refine AX rfl (B1 (Jc (hW (i:=s.hand.root) (iX (iX (pn h rfl rfl) rfl) rfl)) rfl) BO) ?_
 refine Exists.elim (hZ (K:=204) (σ:=[]) (fn:=D5.sc _) (kk:=rfl) (g:=_) (p:=_) ?hi ?hE ?ht ?hk ?hf ?hp s.hand.rows (seen _ xs)) fun zs e=>AX rfl (Ac (v:=.d (.lst ((fl s.hand.rows).map AL))) (Aw (Ui (it:=⟨s.hand.rows.map fun r=>V.d (Ay r),false⟩) rfl (CF rfl (iX (pn h rfl rfl) rfl) ?_) rfl rfl e ?_) rfl (B6 _)) rfl) ?_
 case hi=>exact fun hz=>pn hz rfl rfl
 case hE=>exact fun _ _=>rfl
 case ht=>rfl
 case hk=>rfl
 case hf=>rfl
 case hp=>rfl
 ·exact A2 (fun l=>some (l,[])) Ai
 ·unfold Cj;rw[A4,A4];exact A9 (QR m.hand) (nL rfl)
 refine AX rfl (Ac (v:=.d (.key a)) (AH (Ag (pn h1 rfl rfl) (EM (F7 S (j:=20) h1 rfl rfl rfl) rfl ha) KB)) rfl) ?_
 have hd:[Cell.dct (Dj (((fl s.hand.rows).map AL).map V.d)) (Cq ((fl s.hand.rows).map (vm sV)))][([]:List Cell).length]?=some (.dct (Dj (((fl s.hand.rows).map AL).map V.d)) (Cq ((fl s.hand.rows).map (vm sV)))):=rfl
 refine AX rfl (B1 (An rfl (Br (f:=GH) (us:=[.d s.hand.pd,.d (.key a)]) rfl (Bi (by decide)) rfl rfl (sK (iX (pn h2 rfl rfl) rfl) (sZ (pn h2 rfl rfl))) rfl (Cl.u (gz m.hand a) rfl)) (Oh (r:=.val (.d (EH a (fl s.hand.rows)))) (σ':=[Cell.dct (Dj (((fl s.hand.rows).map AL).map V.d)) (Cq ((fl s.hand.rows).map (vm sV)))]) rfl (Kw (σ:=[]) (fun _=>rfl) (pn h2 rfl rfl) rfl (PE (fl s.hand.rows))) hd (sZ (pn h2 rfl rfl)) hd ?_) (Fp (IZ (i4 _ _)) rfl)) BO) ?_
 ·refine(A5 rfl).trans (bnd (a:=V.d (.key a)) rfl (bnd (a:=(true,(a:Int))) rfl (BM ?_ ?_)))
  ·rw[Je (Bg L),PG]
  ·rw[Je (Bg L),L0]
   unfold EH
   cases AP (a:Int) (fl s.hand.rows) <;> rfl
 exact(i6 S m (h2.trans (.cons rfl (.cons rfl (.cons rfl (.cons rfl (.cons rfl (.cons rfl (.cons rfl (.cons rfl (.cons rfl .nil))))))))))).u rfl
end
open PySem
section
variable{K:Nat}{σ:List Cell}{xs ys:List (Str×V)}{items:List D}{sc:Nat->Int}{s:MS}{l:List Act}{N:Nat}{d:Tr}{t1 t2:List Tr}
noncomputable def QT(sc:Nat->Int)(j:Nat):Int×Int:=(sc j,sc (j+1))
theorem Hx(S:Scr items sc){j:Nat}{J J':Int}{p q p1 p2 p3 p4 p5:Pos}{k1 k2 k3:Nat}{b:Bool}(h:A8 xs ys)(hs:AG "script" ys=some (.d (.lst items)))(hJ:(j:Int)=J)(hJ':((j+1:Nat):Int)=J')(h0:decide (0 < j/\j+1 < 24)=true):Kp gl D5 (K+3) b (.Tuple [.Subscript (.Name "script" p) (.Constant (.int J) k1 q) p1,.Subscript (.Name "script" p2) (.Constant (.int J') k2 p3) p4] k3 p5) ⟨xs,σ⟩ (.d (E0 (QT sc j))) ⟨xs,σ⟩:=by
 have h0:=DI h0
 exact AH (Az (sK (F7 S h hs hJ (Ae ⟨h0.1,Nat.lt_of_succ_lt h0.2⟩)) (sZ (F7 S h hs hJ' (Ae ⟨CC _,h0.2⟩)))) rfl rfl)
noncomputable def Iw(sc:Nat->Int):List (Int×Int):=[4,6,8,10].map (QT sc)
noncomputable def LW(sc:Nat->Int):List (Int×Int):=[12,14,16,18].map (QT sc)
theorem i8(S:Scr items sc):Cl gl D5 260 [.d (.lst items)] [] Iv []:=by
 obtain⟨l,la,ln,cA⟩:=gu (size:=sc 1) (order:=sc 2) (after:=sc 3) (ps:=Iw sc++LW sc) (by decide:8<=10)
 obtain⟨s,d,u1,u2,m,cP,cM⟩:=gL la ln
 have h0:A8 (D5.params.zip [V.d (.lst items)]) [("script",.d (.lst items))]:=.refl
 have h1:=h0.put (x:="base") (v:=.d (.key 0)) rfl
 have h2:=h1.put (x:="steps") (v:=.d (.lst ((Iw sc).map E0))) rfl
 have h3:=h2.put (x:="steps") (v:=.d (.lst ((Iw sc++LW sc).map E0))) rfl
 have h4:=h3.put (x:="actions") (v:=.d (.lst (l.map AV))) rfl
 have h5:=h4.put (x:="twin") (v:=.d (.lst (l.map AV))) rfl
 have h6:=((h5.put (x:="hand") (v:=.d s.hand.enc) rfl).put (x:="trees") (v:=.d (.lst (s.trees.map Tr.enc))) rfl).put (x:="want") (v:=.d (HU s)) rfl
 have h7:=h6.put (x:="got") (v:=.d (HU s)) rfl
 refine Cw rfl rfl (AX rfl (B1 (An rfl (C7 (r₁:=.val (.d (.int (items.length:Int)))) (fun n=>rfl) (pn h0 rfl rfl) (Dp (c:=_=_) rfl (AQ (a:=items.map V.d) rfl (by rw[A4])))) Ab (A2 some (decide_eq_false (E1.mpr (FZ.mpr S.len))))) BO) ?_)
 refine AX rfl (Ac (AH (W6 h0 rfl S.key rfl)) rfl) ?_
 refine AX rfl (Ac (v:=.d (.lst ((Iw sc).map E0))) (Aw (BS (BT (Hx S (j:=4) h1 rfl rfl rfl rfl) (BT (Hx S (j:=6) h1 rfl rfl rfl rfl) (BT (Hx S (j:=8) h1 rfl rfl rfl rfl) (BT (Hx S (j:=10) h1 rfl rfl rfl rfl) Bq)))) rfl) rfl rfl) rfl) ?_
 refine AX rfl (Ac (v:=.d (.lst ((Iw sc++LW sc).map E0))) (Aw (l:=((Iw sc++LW sc).map E0).map V.d) (Ag (pn h2 rfl rfl) (BS (BT (Hx S (j:=12) h2 rfl rfl rfl rfl) (BT (Hx S (j:=14) h2 rfl rfl rfl rfl) (BT (Hx S (j:=16) h2 rfl rfl rfl rfl) (BT (Hx S (j:=18) h2 rfl rfl rfl rfl) Bq)))) rfl) (GQ (l:=((Iw sc).map E0).map V.d) (m:=((LW sc).map E0).map V.d) rfl rfl rfl (by decide:8<=lim))) rfl (B6 _)) rfl) ?_
 refine AX rfl (Ac (v:=.d (.lst (l.map AV))) (AH (Br (f:=Gy) rfl (Bi (by decide)) rfl rfl (sN h3 rfl rfl (sK (F7 S (j:=1) h3 rfl rfl rfl) (sK (F7 S (j:=2) h3 rfl rfl rfl) (sK (F7 S (j:=3) h3 rfl rfl rfl) (sZ (pn h3 rfl rfl)))))) rfl (Cl.u cA rfl))) rfl) ?_
 refine AX rfl (Ac (v:=.d (.lst (l.map AV))) (AH (Br (f:=Gy) rfl (Bi (by decide)) rfl rfl (sN h4 rfl rfl (sK (F7 S (j:=1) h4 rfl rfl rfl) (sK (F7 S (j:=2) h4 rfl rfl rfl) (sK (F7 S (j:=3) h4 rfl rfl rfl) (sZ (pn h4 rfl rfl)))))) rfl (Cl.u cA rfl))) rfl) ?_
 refine AX rfl (GJ (l:=[.d s.hand.enc,.d (.lst (s.trees.map Tr.enc)),.d (HU s)]) rfl rfl (AH (Br (f:=Gx) (us:=[.d (.lst (l.map AV))]) rfl (Bi (by decide)) rfl rfl (sZ (pn h5 rfl rfl)) rfl (Cl.u cM rfl))) rfl (tN rfl (tN rfl (tO rfl)))) ?_
 refine AX rfl (Ac (AH (Br (f:=EA) (us:=[.d (.lst (l.map AV))]) rfl (Bi (by decide)) rfl rfl (sZ (pn h6 rfl rfl)) rfl (Cl.u cP rfl))) rfl) ?_
 exact(i7 S m (h7.trans (.cons rfl (.cons rfl (.cons rfl (.cons rfl (.cons rfl (.cons rfl (.cons rfl (.cons rfl .nil)))))))))).u rfl
theorem i9(h:items.length < 24):Cl gl D5 260 [.d (.lst items)] [] Iv []:=by
 have h0:A8 (D5.params.zip [V.d (.lst items)]) [("script",.d (.lst items))]:=.refl
 exact Cw rfl rfl (CR (r₁:=Iv) rfl (B4 (An rfl (C7 (r₁:=.val (.d (.int (items.length:Int)))) (fun n=>rfl) (pn h0 rfl rfl) (Dp (c:=_=_) rfl (AQ (a:=items.map V.d) rfl (by rw[A4])))) Ab (A2 some (Ae (Bp.mpr h)))) (Du (Bf fun n=>rfl))) rfl)
noncomputable def NZ:List Int->List D
 |[]=>[]
 |_::is=>.key 0::is.map .int
theorem QV(is:List Int):(NZ is).length=is.length:=by
 cases is with
 |nil=>rfl
 |cons i is=>exact A2 (·+1) (A4 ..)
theorem iA(is:List Int):Cl gl D5 260 [.d (.lst (NZ is))] [] Iv []:=by
 by_cases h:24<=is.length
 ·refine i8 (sc:=fun j=>is.getD j 0) ⟨?_,fun j h1 h2=>?_,by rw[QV];exact h⟩
  ·cases is with
   |nil=>exact absurd h (by decide)
   |cons i is=>rfl
  ·cases is with
   |nil=>exact absurd h (by decide)
   |cons i is=>cases j with
    |zero=>exact absurd h1 (by decide)
    |succ j=>
     show(is.map D.int)[j]?=some (.int (is.getD j 0))
     rw[C0,La,D3 (HZ (C1 h2 h))];rfl
 ·exact i9 (by rw[QV];exact Nat.not_le.mp h)
end
end Mine.U
namespace Mine.S
open PySem
abbrev QW(m i:Nat):Nat:=(i*5+1)%(m+1)
noncomputable def G5(m:Nat):Nat->Nat->Nat
 |0,i=>i
 |t+1,i=>G5 m t (QW m i)
theorem QX(m a b i:Nat):G5 m (a+b) i=G5 m b (G5 m a i):=by
 induction a generalizing i with
 |zero=>rw[De];rfl
 |succ a ih=>rw[Nat.succ_add];exact ih _
noncomputable def F8(m:Nat):Bool:=m == 7||m == 15||m == 31||m == 63||m == 127
noncomputable def Hy(m:Nat):Bool:=(List.range (m+1)).all (fun j=>((List.range (m+1)).map fun t=>G5 m t 0).contains j)&&G5 m (m+1) 0 == 0
theorem iB:Hy 7=true/\Hy 15=true/\Hy 31=true/\Hy 63=true/\Hy 127=true:=by decide +kernel
theorem W9{m:Nat}(h:F8 m=true):Hy m=true:=by
 obtain⟨a,b,c,d,e⟩:=iB
 simp only [F8,Bool.or_eq_true,beq_iff_eq] at h
 rcases h with(((rfl |rfl) |rfl) |rfl) |rfl <;> assumption
theorem WA{m:Nat}(h:F8 m=true):7<=m/\m<=127:=by
 simp only [F8,Bool.or_eq_true,beq_iff_eq] at h
 rcases h with(((rfl |rfl) |rfl) |rfl) |rfl <;> decide
theorem WB{m j:Nat}(h:F8 m=true)(hj:j<=m):∃t,t<=m/\G5 m t 0=j:=by
 have q:=W9 h
 simp only [Hy,Bool.and_eq_true,CO,List.mem_range,Da,BU] at q
 obtain⟨t,h1,h2⟩:=q.1 j (E2 hj)
 exact⟨t,Bm h1,h2⟩
theorem iC{m:Nat}(h:F8 m=true):G5 m (m+1) 0=0:=by
 have q:=W9 h
 simp only [Hy,Bool.and_eq_true,beq_iff_eq] at q
 exact q.2
theorem WC{m i j:Nat}(h:F8 m=true)(hi:i<=m)(hj:j<=m):∃t,t<=m/\G5 m t i=j:=by
 obtain⟨a,ha,rfl⟩:=WB h hi
 obtain⟨b,hb,rfl⟩:=WB h hj
 by_cases q:a<=b
 ·refine⟨b - a,A9 (Nat.sub_le _ _) hb,?_⟩
  rw[<-QX,Fd q]
 ·refine⟨m+1+b - a,Nat.sub_le_iff_le_add.mpr (A9 (BQ (Dd m 1 b)) (C9 (A9 (BQ (Nat.add_comm 1 b)) (Nat.lt_of_not_le q)) m)),?_⟩
  rw[<-QX,Fd (A9 ha (A9 (Cb m) (BJ _ _))),QX,iC h]
section
variable{mask:Nat}{owner:Array (Option Nat)}
theorem QY{fuel i p:Nat}:SetTable.layClean.free mask owner (fuel+1) i p=Av ((List.range (SetTable.runEnd mask i+1 - i)).find? fun k=>(owner.getD (i+k) (some 0)).isNone) (fun k=>some (i+k)) (SetTable.layClean.free mask owner fuel (SetTable.leap mask i p).1 (SetTable.leap mask i p).2):=by kernel_rfl
theorem iD{j fuel:Nat}:∀{i p:Nat},SetTable.layClean.free mask owner fuel i p=some j->owner.getD j (some 0)=none:=by
 induction fuel with
 |zero=>exact fun h=>nK h
 |succ fuel ih=>
  intro i p h
  rw[QY] at h
  cases hk:(List.range (SetTable.runEnd mask i+1 - i)).find? fun k=>(owner.getD (i+k) (some 0)).isNone with
  |some k=>
   rw[hk] at h
   cases h
   exact Ge.mp (List.find?_some (p:=fun k=>(owner.getD (i+k) (some 0)).isNone) hk)
  |none=>
   rw[hk] at h
   exact ih h
theorem QZ{fuel i p:Nat}(h:∃j,SetTable.layClean.free mask owner fuel (SetTable.leap mask i p).1 (SetTable.leap mask i p).2=some j):∃j,SetTable.layClean.free mask owner (fuel+1) i p=some j:=by
 rw[QY]
 cases (List.range (SetTable.runEnd mask i+1 - i)).find? fun k=>(owner.getD (i+k) (some 0)).isNone with
 |some k=>exact⟨_,rfl⟩
 |none=>exact h
theorem WD{α:Type}{P:α->Prop}{c:Prop}[Decidable c]{a b:α}(ha:P a)(hb:P b):P (if c then a else b):=(Decidable.em c).elim (fun h=>(A5 h).symm▸ha) fun h=>(A3 h).symm▸hb
theorem Qa{m i:Nat}:i<=SetTable.runEnd m i:=by
 unfold SetTable.runEnd
 exact WD (P:=(i<=·)) (BJ _ _) (Am _)
theorem iE(mask i:Nat):0 < SetTable.runEnd mask i+1 - i:=Nat.sub_pos_of_lt (E2 Qa)
theorem iF{fuel i p:Nat}(h:owner.getD i (some 0)=none):∃j,SetTable.layClean.free mask owner (fuel+1) i p=some j:=by
 rw[QY]
 cases hk:(List.range (SetTable.runEnd mask i+1 - i)).find? fun k=>(owner.getD (i+k) (some 0)).isNone with
 |some k=>exact⟨_,rfl⟩
 |none=>exact absurd (Ge.mpr h) (List.find?_eq_none.mp hk 0 (List.mem_range.mpr (iE mask i)))
theorem iG{t:Nat}:∀{fuel i:Nat},owner.getD (G5 mask t i) (some 0)=none->t < fuel->∃j,SetTable.layClean.free mask owner fuel i 0=some j:=by
 induction t with
 |zero=>
  intro fuel i h q
  obtain⟨f,rfl⟩:=Nat.exists_eq_succ_of_ne_zero (CV q)
  exact iF h
 |succ t ih=>
  intro fuel i h q
  obtain⟨f,rfl⟩:=Nat.exists_eq_succ_of_ne_zero (CV (Nat.zero_lt_of_lt q))
  exact QZ (ih (i:=QW mask i) h (HZ q))
theorem free_ex{i p j:Nat}(hm:F8 mask=true)(hp:p < 64)(hj:j<=mask)(h:owner.getD j (some 0)=none):∃k,SetTable.layClean.free mask owner (SetTable.turns mask) i p=some k:=by
 refine QZ (fuel:=mask+12+1+1) (QZ ?_)
 rw[show(SetTable.leap mask (SetTable.leap mask i p).1 (SetTable.leap mask i p).2).2=0 from(Nat.div_div_eq_div_mul _ _ _).trans (Nat.div_eq_of_lt (AN hp (by decide)))]
 obtain⟨t,ht,q⟩:=WC hm (Bm (Nat.mod_lt _ (CC _)):(SetTable.leap mask (SetTable.leap mask i p).1 (SetTable.leap mask i p).2).1<=mask) hj
 exact iG (t:=t) (q▸h) (E2 (A9 ht (BJ _ _)))
end
theorem iH{α:Type}{f g:Nat->Option α}{L:List Nat}:(∀x∈L,g x=f x)->L.filterMap g=L.filterMap f:=by
 induction L with
 |nil=>exact fun _=>rfl
 |cons b L ih=>exact fun h=>by rw[FB,FB,h b AZ,ih fun x hx=>h x (Aj _ hx)]
theorem iI{α:Type}{f g:Nat->Option α}{j:Nat}{k:α}(hf:f j=none)(hg:g j=some k)(ho:∀i,i≠j->g i=f i){L:List Nat}:L.Nodup->j∈L->(L.filterMap g).Perm (k::L.filterMap f):=by
 induction L with
 |nil=>exact fun _ h=>absurd h B3
 |cons a L ih=>
  intro hn h
  have hn:=BZ.mp hn
  rw[FB,FB]
  by_cases q:a=j
  ·rw[q,hg,hf,iH fun x hx=>ho x fun e=>hn.1 (q▸e▸hx)]
  ·have ih:=ih hn.2 ((Au.mp h).elim (fun e=>absurd e.symm q) id)
   rw[ho a q]
   cases f a with
   |none=>exact ih
   |some b=>exact(ih.cons b).trans (List.Perm.swap _ _ _)
noncomputable def LX(mask:Nat)(owner:Array (Option Nat)):List Nat:=(List.range (mask+1)).filterMap fun j=>owner.getD j none
abbrev WE(mask:Nat)(acc:Option (Array (Option Nat)×Nat))(h:Int):Option (Array (Option Nat)×Nat):=do
 let (owner,k) <-acc
 let j <-SetTable.layClean.free mask owner (SetTable.turns mask) (SetTable.bits h%(mask+1)) (SetTable.bits h)
 pure (owner.setIfInBounds j (some k),k+1)
theorem iJ{α:Type}{f:Nat->Option α}{L:List Nat}:(∀j∈L,f j≠none)->(L.filterMap f).length=L.length:=by
 induction L with
 |nil=>exact fun _=>rfl
 |cons a L ih=>
  intro h
  rw[FB]
  cases e:f a with
  |none=>exact absurd e (h a AZ)
  |some b=>exact A2 (·+1) (ih fun j hj=>h j (Aj _ hj))
theorem Ix(xs:Array (Option Nat))(i:Nat)(d:Option Nat):xs.getD i d=(xs[i]?).getD d:=Array.getD_eq_getD_getElem? ..
theorem iL{mask:Nat}{owner:Array (Option Nat)}{k:Nat}{h:Int}(hm:F8 mask=true)(hs:owner.size=mask+1)(hp:(LX mask owner).Perm (List.range k))(hk:k<=mask)(hb:SetTable.bits h < 64) :
 ∃owner',WE mask (some (owner,k)) h=some (owner',k+1)/\owner'.size=mask+1/\(LX mask owner').Perm (List.range (k+1)):=by
 obtain⟨j,hj,e⟩:∃j,j<=mask/\owner.getD j none=none:=Classical.byContradiction fun q=>by
  have:=iJ (f:=fun j=>owner.getD j none) (L:=List.range (mask+1)) fun j hj e=>q ⟨j,Bm (List.mem_range.mp hj),e⟩
  have l:=this.symm.trans hp.length_eq
  rw[List.length_range,List.length_range] at l
  exact Nat.not_succ_le_self _ (l▸hk)
 have dflt:∀{i:Nat},i < owner.size->owner.getD i none=owner.getD i (some 0):=fun q=>by
  rw[Ix,Ix,LZ q];rfl
 obtain⟨i,q⟩:=free_ex (owner:=owner) (i:=SetTable.bits h%(mask+1)) hm hb hj ((dflt (hs.symm▸E2 hj:j < owner.size)).symm.trans e)
 have hi:=iD q
 have il:i < owner.size:=Classical.byContradiction fun n=>by
  rw[Ix,Array.getElem?_eq_none (Nat.le_of_not_lt n)] at hi
  exact nK hi.symm
 refine⟨owner.setIfInBounds i (some k),?_,by rw[Array.size_setIfInBounds,hs],?_⟩
 ·show((SetTable.layClean.free mask owner _ _ _).bind _:Option _)=_
  rw[q];rfl
 refine(iI (f:=fun j=>owner.getD j none) (g:=fun j=>(owner.setIfInBounds i (some k)).getD j none) (j:=i) (k:=k) ((dflt il).trans hi) ?_ (fun x hx=>?_) (List.nodup_range (n:=mask+1)) (List.mem_range.mpr (hs▸il))).trans ((hp.cons k).trans ?_)
 ·show(owner.setIfInBounds i (some k)).getD i none=_
  rw[Ix,Array.getElem?_setIfInBounds_self_of_lt il];rfl
 ·show(owner.setIfInBounds i (some k)).getD x none=_
  rw[Ix,Array.getElem?_setIfInBounds_ne (Ne.symm hx),<-Ix]
 ·rw[List.range_succ]
  exact(List.perm_append_singleton k (List.range k)).symm
theorem iM{mask:Nat}(hm:F8 mask=true){hs:List Int}:∀{owner:Array (Option Nat)} {k:Nat},owner.size=mask+1->(LX mask owner).Perm (List.range k)->k+hs.length<=mask+1->(∀h∈hs,SetTable.bits h < 64)->
 ∃owner',hs.foldl (WE mask) (some (owner,k))=some (owner',k+hs.length)/\owner'.size=mask+1/\(LX mask owner').Perm (List.range (k+hs.length)):=by
 induction hs with
 |nil=>exact fun h1 h2 _ _=>⟨_,rfl,h1,h2⟩
 |cons h hs ih=>
  intro owner k h1 h2 h3 h4
  rw[DD,<-I2] at h3
  obtain⟨o,e,a,b⟩:=iL hm h1 h2 (Ff (A9 (BJ _ _) h3)) (h4 h AZ)
  rw[DD,<-I2,List.foldl_cons,e]
  exact ih a b h3 fun x hx=>h4 x (Aj _ hx)
structure TabOk(t:SetTable)(n:Nat)(led:Bool):Prop where
 mask:F8 t.mask=true
 size:t.place.size=n
 dum:t.dummies=#[]
 plain:t.plain=true
 led:t.led=led
 rise:t.place.toList.Pairwise (· < ·)
 low:∀j∈t.place.toList,j<=t.mask
 fill:n<=t.mask
theorem iN(f:Nat->Option Nat)(L:List Nat):((L.filterMap fun j=>(f j).map (j,·)).map (·.2))=L.filterMap f/\((L.filterMap fun j=>(f j).map (j,·)).map (·.1)).Sublist L:=by
 induction L with
 |nil=>exact⟨rfl,List.Sublist.refl _⟩
 |cons a L ih=>
  rw[FB,FB]
  cases f a with
  |none=>exact⟨ih.1,ih.2.cons a⟩
  |some b=>exact⟨A2 (b::·) ih.1,ih.2.cons_cons a⟩
theorem WG{mask finger moves:Nat}{led:Bool}{hashes:Array Int}(hm:F8 mask=true)(hn:hashes.size<=mask)(hb:∀h∈hashes.toList,SetTable.bits h < 64) :
 ∃t order,SetTable.laid mask finger moves led true hashes=some (t,order)/\order.toList.Perm (List.range hashes.size)/\TabOk t hashes.size led/\t.mask=mask/\t.finger=finger/\t.moves=moves:=by
 have z:(LX mask (Array.replicate (mask+1) none)).Perm (List.range 0):=List.Perm.of_eq (List.filterMap_eq_nil_iff.mpr fun j hj=>by
  rw[Ix,Array.getElem?_replicate,A5 (List.mem_range.mp hj)];rfl)
 obtain⟨o,e,hs,hp⟩:=iM hm (hs:=hashes.toList) (owner:=Array.replicate (mask+1) none) (k:=0) Array.size_replicate z (by rw[De,Bo];exact Eh hn) hb
 rw[De,Bo] at hp
 have lc:SetTable.layClean mask hashes=some o:=by
  unfold SetTable.layClean
  rw[<-Array.foldl_toList]
  exact A2 (Option.map (·.1)) e
 obtain⟨l1,l2⟩:=iN (fun j=>o.getD j none) (List.range (mask+1))
 have hp2:=(List.Perm.of_eq l1).trans hp
 refine⟨_,_,by unfold SetTable.laid;rw[lc];rfl,hp2,⟨hm,?_,rfl,rfl,rfl,List.pairwise_lt_range.sublist l2,fun j hj=>Bm (List.mem_range.mp (l2.subset hj)),hn⟩,rfl,rfl,rfl⟩
 have l:=hp2.length_eq
 rw[A4,List.length_range] at l
 exact(A4 ..).trans l
abbrev Qb(xs:Array Nat):Prop:=∀i k,i < k->k < xs.size->xs.getD i 0 < xs.getD k 0
theorem Na{xs:Array Nat}(h:xs.toList.Pairwise (· < ·)):Qb xs:=by
 intro i k hik hk
 have hi:=AN hik hk
 rw[show xs.getD i 0=xs[i] from dif_pos hi,show xs.getD k 0=xs[k] from dif_pos hk]
 exact List.pairwise_iff_getElem.mp h i k hi hk hik
theorem iO{xs:Array Nat}{i a b:Nat}(h:i < xs.size):xs.getD i a=xs.getD i b:=(dif_pos h).trans (dif_pos h).symm
theorem iP{xs:Array Nat}{j fuel:Nat}(hr:Qb xs):∀{lo hi:Nat},hi - lo<=fuel->lo<=hi->hi<=xs.size->(∀i,i < lo->xs.getD i 0 < j)->(∀i,hi<=i->i < xs.size->j<=xs.getD i 0)->
 (SetTable.below.go xs j fuel lo hi<=xs.size/\(∀i,i < SetTable.below.go xs j fuel lo hi->xs.getD i 0 < j)/\∀i,SetTable.below.go xs j fuel lo hi<=i->i < xs.size->j<=xs.getD i 0):=by
 induction fuel with
 |zero=>exact fun h1 h2 h3 h4 h5=>⟨A9 h2 h3,h4,fun i hi=>h5 i (A9 (Nat.le_of_sub_eq_zero (Nat.le_zero.mp h1)) hi)⟩
 |succ fuel ih=>
  intro lo hi h1 h2 h3 h4 h5
  rw[show SetTable.below.go xs j (fuel+1) lo hi=if lo < hi then(if xs.getD ((lo+hi) / 2) j < j then SetTable.below.go xs j fuel ((lo+hi) / 2+1) hi else SetTable.below.go xs j fuel lo ((lo+hi) / 2)) else lo from rfl]
  by_cases hl:lo < hi
  ·rw[A5 hl]
   obtain⟨q,hq,a1,a2⟩:=Rj hl
   have hm:=C1 a2 h3
   rw[hq,iO (b:=0) hm]
   by_cases c:xs.getD q 0 < j
   ·rw[A5 c]
    refine ih (Bm (C1 (Nat.sub_lt_sub_left hl (E2 a1)) h1)) a2 h3 (fun i hi'=>?_) h5
    by_cases e:i=q
    ·exact e▸c
    ·exact AN (hr i _ (I1 (Bm hi') e) hm) c
   ·rw[A3 c]
    refine ih (Bm (C1 (Nat.sub_lt_sub_right a1 a2) h1)) a1 (BH hm) h4 (fun i hi' hs=>?_)
    by_cases e:i=q
    ·exact e▸Nat.le_of_not_lt c
    ·exact A9 (Nat.le_of_not_lt c) (BH (hr _ i (I1 hi' fun x=>e x.symm) hs))
  ·rw[A3 hl]
   exact⟨A9 h2 h3,h4,fun i hi=>h5 i (A9 (Nat.le_of_not_lt hl) hi)⟩
theorem Qc{xs:Array Nat}(j:Nat)(hr:Qb xs):SetTable.below xs j<=xs.size/\(∀i,i < SetTable.below xs j->xs.getD i 0 < j)/\∀i,SetTable.below xs j<=i->i < xs.size->j<=xs.getD i 0:=
 iP hr (Am _) (BK _) (Am _) (fun i h=>absurd h (Nat.not_lt_zero _)) fun i h h'=>absurd h' (C2.mpr h)
open PySem
section
variable{t:SetTable}{n:Nat}{led:Bool}{h:Int}
theorem WH(j:Nat):SetTable.has #[] j=false:=rfl
theorem WI{xs:Array Nat}{k:Nat}(h:k < xs.toList.length):xs.getD k 0=xs.toList[k]:=by
 rw[Bo] at h
 exact dif_pos h
theorem WJ{xs:Array Nat}(hr:xs.toList.Pairwise (· < ·))(j:Nat):SetTable.below xs j<=xs.size/\(∀x∈xs.toList.take (SetTable.below xs j),x < j)/\∀x∈xs.toList.drop (SetTable.below xs j),j<=x:=by
 have hs:=Qc j (Na hr)
 refine⟨hs.1,fun x hx=>?_,fun x hx=>?_⟩
 ·obtain⟨k,hk,e⟩:=List.getElem_of_mem hx
  rw[List.length_take] at hk
  have hk2:=C1 hk (Nat.min_le_right _ _)
  rw[List.getElem_take,<-WI hk2] at e
  exact e▸hs.2.1 k (C1 hk (Nat.min_le_left _ _))
 ·obtain⟨k,hk,e⟩:=List.getElem_of_mem hx
  rw[List.length_drop] at hk
  have hk2:=Nat.add_lt_of_lt_sub' hk
  rw[List.getElem_drop,<-WI hk2] at e
  exact e▸hs.2.2 _ (BJ _ _) (Bo▸hk2)
theorem iQ{j:Nat}(hr:t.place.toList.Pairwise (· < ·))(hj:j∈t.place.toList):t.slot j≠.empty:=by
 have hs:=WJ hr j
 have hd:j∈t.place.toList.drop (SetTable.below t.place j):=(Bv.mp ((List.take_append_drop (SetTable.below t.place j) t.place.toList).symm▸hj)).elim (fun q=>absurd (hs.2.1 j q) (FF _)) id
 have h4:t.place[SetTable.below t.place j]?=some j:=by
  cases e:t.place.toList.drop (SetTable.below t.place j) with
  |nil=>rw[e] at hd;exact absurd hd B3
  |cons y r=>
   have hy:y=j:=(Au.mp (e▸hd)).elim Eq.symm fun q=>absurd ((D4.mp (e▸hr.sublist (List.drop_sublist _ _))).1 j q) (C2.mpr (hs.2.2 y (e▸AZ)))
   have:=A2 List.head? e
   rw[List.head?_drop,Array.getElem?_toList] at this
   exact this.trans (A2 some hy)
 unfold SetTable.slot
 dsimp only
 rw[h4,A5 (beq_self_eq_true _)]
 exact SetTable.Slot.noConfusion
theorem WK{j:Nat}(hd:t.dummies=#[])(hj:j∉t.place.toList):t.slot j=.empty:=by
 unfold SetTable.slot
 have:(t.place[SetTable.below t.place j]? == some j)=false:=by
  rw[beq_eq_false_iff_ne]
  intro e
  obtain⟨hk,e⟩:=Array.getElem?_eq_some_iff.mp e
  exact hj (by rw[<-e];exact Array.mem_toList_iff.mpr (Array.getElem_mem hk))
 simp only [this,hd,WH,Bool.false_eq_true,if_false]
theorem iR{j:Nat}(hd:t.dummies=#[]):t.slot j≠.dummy:=by
 by_cases h:j∈t.place.toList
 ·unfold SetTable.slot
  rw[hd]
  exact WD (P:=(·≠SetTable.Slot.dummy)) SetTable.Slot.noConfusion (show(if SetTable.has #[] j=true then SetTable.Slot.dummy else .empty)≠.dummy from SetTable.Slot.noConfusion)
 ·rw[WK hd h]
  exact SetTable.Slot.noConfusion
theorem iS(n:Nat):∀(l:List Nat),(∀j,j < n->j∈l)->n<=l.length:=by
 induction n with
 |zero=>exact fun l _=>BK _
 |succ n ih=>
  intro l h
  have h1:=h n (Cc _)
  have:=ih (l.erase n) fun j hj=>(List.mem_erase_of_ne (CA hj)).mpr (h j (Nat.lt_succ_of_lt hj))
  rw[List.length_erase_of_mem h1] at this
  exact Nat.add_le_of_le_sub (List.length_pos_of_mem h1) this
theorem iT(hs:t.place.size<=t.mask):∃j,j<=t.mask/\j∉t.place.toList:=
 Classical.byContradiction fun q=>Nat.not_succ_le_self _ (A9 (iS (t.mask+1) t.place.toList fun j hj=>Classical.byContradiction fun m=>q ⟨j,Bm hj,m⟩) (Bo▸hs))
noncomputable def pS(t:SetTable)(i pert:Nat):SetTable.Probe:={ j:=i,more:=SetTable.runEnd t.mask i - i,i,perturb:=pert,dummy:=none }
theorem Qd{m i:Nat}(h:i<=m):SetTable.runEnd m i<=m/\SetTable.runEnd m i - i<=9:=by
 unfold SetTable.runEnd
 by_cases q:i+9<=m
 ·rw[A5 q];exact⟨q,BQ (Nat.add_sub_cancel_left ..)⟩
 ·rw[A3 q];exact⟨h,Nat.sub_self i▸BK _⟩
theorem LY{fuel:Nat}{p:SetTable.Probe}(hs:t.slot p.j=.empty):SetTable.probe.go t (fun _=>h+1) h (fuel+1) p=some (.empty p.j p.dummy):=by
 show(match t.slot p.j with |.empty=>some (SetTable.Met.empty p.j p.dummy) |.dummy=>SetTable.probe.go t (fun _=>h+1) h fuel (t.advance { p with dummy:=some p.j }) |.live i=>if h+1 == h then some (.candidate p.j i (t.advance p)) else SetTable.probe.go t (fun _=>h+1) h fuel (t.advance p))=_
 rw[hs]
theorem Nb(hd:t.dummies=#[]){fuel:Nat}{p:SetTable.Probe}(hs:t.slot p.j≠.empty):SetTable.probe.go t (fun _=>h+1) h (fuel+1) p=SetTable.probe.go t (fun _=>h+1) h fuel (t.advance p):=by
 show(match t.slot p.j with |.empty=>some (SetTable.Met.empty p.j p.dummy) |.dummy=>SetTable.probe.go t (fun _=>h+1) h fuel (t.advance { p with dummy:=some p.j }) |.live i=>if h+1 == h then some (.candidate p.j i (t.advance p)) else SetTable.probe.go t (fun _=>h+1) h fuel (t.advance p))=_
 have hn:=iR (j:=p.j) hd
 cases e:t.slot p.j with
 |empty=>exact absurd e hs
 |dummy=>exact absurd e hn
 |live i=>exact A3 fun q=>absurd (beq_iff_eq.mp q) (by omega)
theorem iU(hd:t.dummies=#[])(fuel:Nat):∀(p:SetTable.Probe) {m:SetTable.Met},p.dummy=none->p.j+p.more<=t.mask->SetTable.probe.go t (fun _=>h+1) h fuel p=some m->∃j,m=.empty j none/\t.slot j=.empty/\j<=t.mask:=by
 induction fuel with
 |zero=>exact fun p m _ _ e=>nK e
 |succ fuel ih=>
  intro p m h1 h2 e
  by_cases hs:t.slot p.j=.empty
  ·rw[LY hs] at e
   cases e
   exact⟨p.j,by rw[h1],hs,A9 (BJ _ _) h2⟩
  ·rw[Nb hd hs] at e
   have adv:(t.advance p).dummy=none/\(t.advance p).j+(t.advance p).more<=t.mask:=by
    unfold SetTable.advance
    by_cases hm:p.more > 0
    ·rw[A5 hm]
     exact⟨h1,A9 (BQ ((Dd ..).trans (A2 (p.j+·) (Fd hm)))) h2⟩
    ·rw[A3 hm]
     exact⟨h1,A9 (BQ (Fd Qa)) (Qd (Bm (Nat.mod_lt _ (CC _)))).1⟩
   exact ih _ adv.1 adv.2 e
theorem iV(hd:t.dummies=#[])(i pert fuel:Nat)(hx:∃x,SetTable.probe.go t (fun _=>h+1) h fuel (pS t (SetTable.leap t.mask i pert).1 (SetTable.leap t.mask i pert).2)=some x)(m:Nat):∀(j:Nat),∃x,SetTable.probe.go t (fun _=>h+1) h (fuel+m+1) { j,more:=m,i,perturb:=pert,dummy:=none }=some x:=by
 induction m with
 |zero=>
  intro j
  by_cases hs:t.slot j=.empty
  ·exact⟨_,LY hs⟩
  ·rw[Nb hd hs]
   exact hx
 |succ m ih=>
  intro j
  by_cases hs:t.slot j=.empty
  ·exact⟨_,LY hs⟩
  ·rw[Nb hd hs]
   exact ih (j+1)
theorem WL(hd:t.dummies=#[])(k fuel:Nat):∀(p:SetTable.Probe),(∃x,SetTable.probe.go t (fun _=>h+1) h fuel p=some x)->∃x,SetTable.probe.go t (fun _=>h+1) h (fuel+k) p=some x:=by
 induction fuel with
 |zero=>exact fun p hx=>hx.elim fun _ e=>nK e
 |succ fuel ih=>
  intro p hx
  rw[Nat.succ_add]
  by_cases hs:t.slot p.j=.empty
  ·exact⟨_,LY hs⟩
  ·rw[Nb hd hs] at hx ⊢
   exact ih _ hx
theorem Qe(hd:t.dummies=#[]){i pert fuel:Nat}(hi:i<=t.mask)(hx:∃x,SetTable.probe.go t (fun _=>h+1) h fuel (pS t (SetTable.leap t.mask i pert).1 (SetTable.leap t.mask i pert).2)=some x):∃x,SetTable.probe.go t (fun _=>h+1) h (fuel+10) (pS t i pert)=some x:=by
 have hr:=(Qd hi).2
 have:=WL hd (9 - (SetTable.runEnd t.mask i - i)) _ _ (iV hd i pert fuel hx (SetTable.runEnd t.mask i - i) i)
 rw[show fuel+(SetTable.runEnd t.mask i - i)+1+(9 - (SetTable.runEnd t.mask i - i))=fuel+10 from(DG ..).trans (A2 (·+1) ((Dd ..).trans (A2 (fuel+·) (Fd hr))))] at this
 exact this
theorem iW(hd:t.dummies=#[])(k:Nat):∀(i:Nat),i<=t.mask->t.slot (G5 t.mask k i)=.empty->∃x,SetTable.probe.go t (fun _=>h+1) h (10*k+1) (pS t i 0)=some x:=by
 induction k with
 |zero=>exact fun i _ hs=>⟨_,LY (p:=pS t i 0) hs⟩
 |succ k ih=>exact fun i hi hs=>Qe (h:=h) (pert:=0) (fuel:=10*k+1) hd hi (ih (QW t.mask i) (Bm (Nat.mod_lt _ (CC _))) hs)
theorem iY(T:TabOk t n led)(hb:SetTable.bits h < 64):∃j,t.freeSlot h=some (j,false)/\j∉t.place.toList/\j<=t.mask:=by
 obtain⟨j,hj,hn⟩:=iT (t:=t) (by rw[T.size];exact T.fill)
 have ex:∃x,SetTable.probe t (fun _=>h+1) h (t.probeStart h)=some x:=by
  have lm:∀i p,(SetTable.leap t.mask i p).1<=t.mask:=fun i p=>Bm (Nat.mod_lt _ (CC _))
  have hi:SetTable.bits h%(t.mask+1)<=t.mask:=Bm (Nat.mod_lt _ (CC _))
  generalize h1:SetTable.leap t.mask (SetTable.bits h%(t.mask+1)) (SetTable.bits h)=l1
  generalize h2:SetTable.leap t.mask l1.1 l1.2=l2
  have e2:l2.2=0:=by rw[<-h2,<-h1];exact(Nat.div_div_eq_div_mul _ _ _).trans (Nat.div_eq_of_lt (AN hb (by decide)))
  obtain⟨k,hk,e⟩:=WC T.mask (by rw[<-h2];exact lm _ _:l2.1<=t.mask) hj
  have g:=iW (h:=h) T.dum k l2.1 (by rw[<-h2];exact lm _ _) (by rw[e];exact WK T.dum hn)
  have g2:=Qe (h:=h) (i:=l1.1) (pert:=l1.2) T.dum (by rw[<-h1];exact lm _ _) (by rw[h2,e2];exact g)
  have g3:=Qe (h:=h) (i:=SetTable.bits h%(t.mask+1)) (pert:=SetTable.bits h) T.dum hi (by rw[h1];exact g2)
  have g4:=WL T.dum (10*SetTable.turns t.mask - (10*k+1+10+10)) _ _ g3
  rw[show 10*k+1+10+10+(10*SetTable.turns t.mask - (10*k+1+10+10))=10*SetTable.turns t.mask from Fd (A9 (EP (Nat.mul_le_mul_left 10 hk) 21) (show 10*t.mask+21<=10*(t.mask+15) from Nat.mul_add 10 t.mask 15▸C9 (by decide) _))] at g4
  exact g4
 obtain⟨m,hm⟩:=ex
 have hr:=Qd (m:=t.mask) (i:=SetTable.bits h%(t.mask+1)) (Bm (Nat.mod_lt _ (CC _)))
 obtain⟨k,rfl,hs,hk⟩:=iU (h:=h) T.dum _ _ (by rfl) (by show SetTable.bits h%(t.mask+1)+(SetTable.runEnd t.mask (SetTable.bits h%(t.mask+1)) - SetTable.bits h%(t.mask+1))<=t.mask;rw[Fd Qa];exact hr.1) hm
 refine⟨k,?_,fun q=>iQ T.rise q hs,hk⟩
 unfold SetTable.freeSlot
 rw[hm];rfl
theorem iZ(T:TabOk t n led){j:Nat}(hj:j∉t.place.toList)(hm:j<=t.mask)(hn:n+1<=t.mask):TabOk (t.put j).1 (n+1) led/\(t.put j).1.mask=t.mask/\(t.put j).2<=n:=by
 have hs:=WJ T.rise j
 have ep:(t.put j).1.place.toList=t.place.toList.take (SetTable.below t.place j)++j::t.place.toList.drop (SetTable.below t.place j):=SetTable.toList_insertAt _ _ _
 have ed:(t.put j).1.dummies=#[]:=by
  show(if SetTable.has t.dummies j=true then _ else t.dummies)=#[]
  rw[T.dum,WH];rfl
 refine⟨⟨T.mask,?_,ed,T.plain,T.led,?_,?_,hn⟩,rfl,by rw[<-T.size];exact hs.1⟩
 ·rw[<-Bo,ep,AC,DD,<-Dd,<-AC,List.take_append_drop,Bo,T.size]
 ·rw[ep]
  have hgt:∀x∈t.place.toList.drop (SetTable.below t.place j),j < x:=fun x hx=>I1 (hs.2.2 x hx) fun q=>hj (q▸List.mem_of_mem_drop hx)
  refine List.pairwise_append.mpr ⟨T.rise.sublist (List.take_sublist _ _),D4.mpr ⟨hgt,T.rise.sublist (List.drop_sublist _ _)⟩,fun x hx y hy=>?_⟩
  rcases Au.mp hy with rfl |hy
  ·exact hs.2.1 x hx
  ·exact AN (hs.2.1 x hx) (hgt y hy)
 ·intro x hx
  rw[ep] at hx
  rcases Bv.mp hx with hx |hx
  ·exact T.low x (I0 hx)
  ·rcases Au.mp hx with rfl |hx
   ·exact hm
   ·exact T.low x (List.mem_of_mem_drop hx)
end
open PySem PyProof.Rows PySem.Calls
noncomputable def Cn(es:Array (Int×Value))(ep:Nat)(t:SetTable):Obj:={ cls:=.type "set",dict:=none,data:=.set es ep t,slots:=#[] }
noncomputable def Ga(es:List (Int×Value)):Prop:=∀e∈es,∃k tok,e=(k,.int k tok)/\0<=k/\k < 64
noncomputable def Bd(es:Array (Int×Value)):List Int:=es.toList.map (·.1)
noncomputable def Gb(l:List Int)(k:Int):List Int:=if l.contains k then l else l++[k]
theorem Qf{k:Int}(h:0<=k/\k < 64):hashInt k=k:=by
 obtain⟨n,rfl⟩:∃n:Nat,k=n:=⟨k.toNat,(Int.toNat_of_nonneg h.1).symm⟩
 have:∀n:Fin 64,hashInt ((n:Nat):Int)=(n:Nat):=by decide +kernel
 exact this ⟨n,Bp.mp h.2⟩
theorem Qg{k:Int}(h:0<=k/\k < 64):SetTable.bits k < 64:=by
 unfold SetTable.bits
 rw[Int.emod_eq_of_lt h.1 (Int.lt_trans h.2 (by decide))]
 exact(Int.toNat_lt h.1).mpr h.2
structure SA(h:Heap)(a:Addr)(led:Bool)(rem:Nat)(es:Array (Int×Value))(ep:Nat)(t:SetTable):Prop where
 at_:h.get? a=some (Cn es ep t)
 ents:Ga es.toList
 tab:TabOk t es.size led
 room:(es.size+rem)*5 < t.mask*3
section
variable{prog:Program}{w:World}{A:Around}{E:Value->Shared->Prop}{s:Shared}{a:Addr}{led:Bool}{rem n:Nat}{es:Array (Int×Value)}{ep:Nat}{t:SetTable}{k:Int}{tok:Tok}
theorem TabOk.fits(T:TabOk t n led):t.fits n=true:=by
 unfold SetTable.fits SetTable.fill
 rw[T.size,T.dum]
 simp [T.fill]
theorem Ga.elems(h:Ga es.toList):ElemsOf (intKind prog w) es.toList:=fun e he=>by
 obtain⟨k,tok,rfl,hk⟩:=h e he
 exact⟨⟨k,by simp [intKind,Value.isInt],(Qf hk).symm⟩,rfl⟩
theorem Nc(T:TabOk t n led):t.mask<=127:=(WA T.mask).2
theorem SA.add{Q:Bool->Shared->Prop}(S:SA s.heap a led (rem+1) es ep t)(hk:0<=k/\k < 64)
 (h:∀b h' es' ep' t',Heap.SameBut a s.heap h'->SA h' a led rem es' ep' t'->(Bd es').Perm (Gb (Bd es) k)->Q b { s with heap:=h' }):wpAny (model prog w) A (setAddHashed a (.int k tok) k) Q E s:=by
 have hml:=Nc S.tab
 have hsz:es.size < 4096:=Aa (A9 S.tab.fill hml) (by decide)
 have hel:ElemsOf (intKind prog w) es.toList:=S.ents.elems
 have hkey:(intKind prog w).is k (.int k tok)=true:=by simp [intKind,Value.isInt]
 have hh:(intKind prog w).hash k=k:=Qf hk
 have h1r:es.size+1<=es.size+(rem+1):=C9 (CC rem) es.size
 have hnm:es.size+1<=t.mask:=A9 h1r (BH (Nat.lt_of_mul_lt_mul_right (a:=5) (C1 S.room (Nat.mul_le_mul_left _ (by decide)))))
 unfold setAddHashed setAddHashedIn
 refine DJ (A6 (wpAny_setState_of S.at_ rfl S.tab.fits ?_))
 dsimp only
 rw[byScan_of (knd:=intKind prog w) rfl hsz hel]
 simp only [↓reduceIte]
 unfold setAddByScan
 refine A6 ?_
 refine A6 (wpAny_rule ?_)
 have hsc:=wpAny_setScan_of (prog:=prog) (w:=w) (A:=A) (E:=E) (s:=s) (knd:=intKind prog w) (adding:=true) hkey S.at_ rfl S.tab.fits hel (Q:=fun r s'=>s'=s/\r=match es.toList.findIdx? (fun e=>(intKind prog w).is k e.2) with |some j=>.found (0+j) |none=>.absent)
 rw[hh] at hsc
 refine A6 (Dg (hsc ⟨rfl,rfl⟩) (fun r s' q=>?_) fun _ _ q=>q)
 obtain⟨rfl,rfl⟩:=q
 cases hr:List.findIdx? (fun e=>(intKind prog w).is k e.2) es.toList with
 |some j=>
  dsimp only
  obtain⟨hj,hpj,_⟩:=List.findIdx?_eq_some_iff_getElem.mp hr
  have hmem:k∈Bd es:=by
   obtain⟨k',tok',e,_⟩:=S.ents _ (List.getElem_mem hj)
   rw[e] at hpj
   have:k'=k:=by simpa [intKind,Value.isInt] using hpj
   exact BU.mpr ⟨_,List.getElem_mem hj,by rw[e];exact this⟩
  refine AM (AM ?_)
  have:=h false s'.heap es ep t (Heap.SameBut.refl a s'.heap) ⟨S.at_,S.ents,S.tab,Aa (Nat.mul_le_mul_right 5 (Cb _)) S.room⟩ (by unfold Gb;rw[A5 (Da.mpr hmem)])
  exact this
 |none=>
  dsimp only
  have hnm':k∉Bd es:=fun q=>by
   obtain⟨e,he,rfl⟩:=BU.mp q
   obtain⟨k',tok',rfl,_⟩:=S.ents _ he
   have:=List.findIdx?_eq_none_iff.mp hr _ he
   simp [intKind,Value.isInt] at this
  obtain⟨j,hf,hj,hjm⟩:=iY S.tab (Qg hk)
  obtain⟨T',hm',_⟩:=iZ S.tab hj hjm hnm
  have hL:layNew t es k (.int k tok)=(SetTable.insertAt es (t.put j).2 (k,.int k tok),(t.put j).1,false,false):=by
   have hs':(SetTable.insertAt es (t.put j).2 (k,Value.int k tok)).size=es.size+1:=by
    rw[<-Bo,(SetTable.insertAt_perm es _ _).length_eq,Bo,Array.size_push]
   unfold layNew
   rw[hf]
   simp only
   rw[hs']
   unfold SetTable.orStandIn
   rw[T'.fits];rfl
  have hperm:(SetTable.insertAt es (t.put j).2 (k,Value.int k tok)).toList.Perm (es.toList++[(k,.int k tok)]):=by
   have:=SetTable.insertAt_perm es (t.put j).2 (k,Value.int k tok)
   rwa [Array.toList_push] at this
  generalize SetTable.insertAt es (t.put j).2 (k,Value.int k tok)=es1 at hL hperm
  generalize (t.put j).1=t1 at hL T' hm'
  have hs1:es1.size=es.size+1:=by rw[<-Bo,hperm.length_eq,AC,Bo];rfl
  rw[hL]
  dsimp only
  refine A6 (AM ?_)
  rw[T'.plain]
  simp only [↓reduceIte]
  rw[hashByValue_scannable 8 rfl]
  refine A6 (AM ?_)
  simp only [plainKind,↓reduceIte]
  refine A6 (wpAny_storeSet_of S.at_ rfl ?_ (by rw[hs1];exact fits_of_scanBound (Aa (A9 hnm hml) (by decide))))
  have hfull:t1.tooFull=false:=by
   unfold SetTable.tooFull SetTable.fill
   rw[T'.size,T'.dum,hm']
   exact decide_eq_false (Nat.not_le.mpr (Aa (Nat.mul_le_mul_right 5 h1r) S.room))
  rw[hfull]
  simp only [Bool.not_false,Bool.and_false,Bool.false_eq_true,↓reduceIte]
  refine AM (AM ?_)
  have hg:(s'.heap.update a (Obj.putSet es1 t1)).get? a=some (Cn es1 (ep+1) t1):=by
   have:=Heap.get?_update_self (Obj.putSet es1 t1) S.at_ (by rw[putSet_of es1 t1 rfl];rfl)
   rw[putSet_of es1 t1 rfl] at this;exact this
  refine h true _ es1 (ep+1) t1 (Heap.SameBut.update s'.heap a _) ⟨hg,fun e he=>?_,by rw[hs1];exact T',by rw[hs1,hm',I2];exact S.room⟩ ?_
  ·rcases Bv.mp (hperm.mem_iff.mp he) with q |q
   ·exact S.ents e q
   ·exact⟨k,tok,Ar.mp q,hk⟩
  ·unfold Gb
   rw[A3 (by rw[Da];exact hnm')]
   have:=hperm.map (·.1)
   rw[AK] at this
   exact this
end
open PySem PyProof.Rows PySem.Calls
structure SB(h:Heap)(a:Addr)(led:Bool)(es:Array (Int×Value))(ep:Nat)(t:SetTable):Prop where
 at_:h.get? a=some (Cn es ep t)
 ents:Ga es.toList
 tab:TabOk t es.size led
theorem WM:∀w:Fin 81,F8 (SetTable.sizeAbove w - 1)=true/\(w:Nat) < SetTable.sizeAbove w:=by decide +kernel
section
variable{prog:Program}{w:World}{A:Around}{E:Value->Shared->Prop}{s:Shared}{a:Addr}{led:Bool}{rem n:Nat}{es:Array (Int×Value)}{ep:Nat}{t:SetTable}{k:Int}{tok:Tok}
theorem SB.sa(S:SB s.heap a led es ep t){more:Nat}(h:(es.size+more)*5 < t.mask*3):SA s.heap a led more es ep t:=⟨S.at_,S.ents,S.tab,h⟩
theorem WN{order:Array Nat}(hp:order.toList.Perm (List.range es.size)):(order.filterMap (es[·]?)).toList.Perm es.toList:=by
 rw[Array.toList_filterMap]
 exact(hp.filterMap _).trans (by rw[filterMap_getElem?_range])
theorem Qh{Q:Unit->Shared->Prop}{es':Array (Int×Value)}{t':SetTable}(ho:s.heap.get? a=some (Cn es ep t))(hz:es'.size<=sizeLine)(h:∀h',Heap.SameBut a s.heap h'->h'.get? a=some (Cn es' (ep+1) t')->Q () { s with heap:=h' }):wpAny (model prog w) A (storeSet a es' t') Q E s:=by
 refine wpAny_storeSet_of ho rfl (h _ (Heap.SameBut.update s.heap a _) ?_) hz
 have:=Heap.get?_update_self (Obj.putSet es' t') ho (by rw[putSet_of es' t' rfl];rfl)
 rw[putSet_of es' t' rfl] at this;exact this
theorem Ga.perm{l l':List (Int×Value)}(h:Ga l)(p:l'.Perm l):Ga l':=fun e he=>h e (p.mem_iff.mp he)
theorem SB.relay{Q:Unit->Shared->Prop}(S:SB s.heap a led es ep t){wanted:Nat}(hw:wanted<=80)(hn:es.size<=wanted)
 (h:∀h' es' ep' t',Heap.SameBut a s.heap h'->SB h' a led es' ep' t'->es'.toList.Perm es.toList->t'.mask=SetTable.sizeAbove wanted - 1->Q () { s with heap:=h' }):wpAny (model prog w) A (setRelay a wanted) Q E s:=by
 obtain⟨hm,hlt⟩:=WM ⟨wanted,E2 hw⟩
 simp only at hm hlt
 have hb:∀x∈(es.map (·.1)).toList,SetTable.bits x < 64:=fun x hx=>by
  rw[Array.toList_map] at hx
  obtain⟨e,he,rfl⟩:=BU.mp hx
  obtain⟨k,tok,rfl,hk⟩:=S.ents e he
  exact Qg hk
 obtain⟨t',order,hl,hp,T',hmk,_,_⟩:=WG (finger:=t.finger) (moves:=t.movedTo (SetTable.sizeAbove wanted - 1)) (led:=led) (hashes:=es.map (·.1)) hm (by rw[Array.size_map];exact Nat.le_sub_one_of_lt (Aa hn hlt)) hb
 rw[Array.size_map] at hp T'
 have hpe:=WN (es:=es) hp
 have hse:(order.filterMap (es[·]?)).size=es.size:=by rw[<-Bo,hpe.length_eq,Bo]
 have hr:t.relaid (es.map (·.1)) wanted=some (t',order):=by
  unfold SetTable.relaid
  rw[S.tab.led,S.tab.plain];exact hl
 have hml:=Nc T'
 have hsz:es.size<=sizeLine:=A9 (A9 hn hw) (by decide)
 unfold setRelay
 refine A6 (wpAny_setState_of S.at_ rfl S.tab.fits ?_)
 dsimp only
 have hsl:¬SetTable.sizeAbove wanted > sizeLine:=by
  rw[hmk] at hml
  exact C2.mpr (A9 (Nat.le_add_of_sub_le hml) (by decide))
 rw[A3 hsl]
 refine A6 ?_
 wp_delta
 rw[hr]
 dsimp only
 rw[show((order.filterMap (es[·]?)).size != es.size)=false from by rw[hse];exact bne_self_eq_false _]
 simp only [Bool.false_eq_true,↓reduceIte]
 refine AM (Qh S.at_ (by rw[hse];exact hsz) fun h' hsb hg=>h h' _ _ _ hsb ⟨hg,S.ents.perm hpe,by rw[hse];exact T'⟩ hpe hmk)
theorem SB.room{Q:Unit->Shared->Prop}(S:SB s.heap a led es ep t){more:Nat}(hn:es.size+more<=40)
 (h:∀h' es' ep' t',Heap.SameBut a s.heap h'->SA h' a led more es' ep' t'->es'.toList.Perm es.toList->Q () { s with heap:=h' }):wpAny (model prog w) A (setRoomFor a more) Q E s:=by
 unfold setRoomFor
 refine A6 (wpAny_setState_of S.at_ rfl S.tab.fits ?_)
 dsimp only
 unfold SetTable.roomFor SetTable.fill
 rw[S.tab.size,S.tab.dum]
 by_cases hc:(es.size+0+more)*5≥t.mask*3
 ·rw[A5 (by simpa using hc)]
  dsimp only
  obtain⟨hm,hlt⟩:=WM ⟨(es.size+more)*2,E2 (Nat.mul_le_mul_right 2 hn)⟩
  simp only at hm hlt
  refine S.relay (Nat.mul_le_mul_right 2 hn) (A9 (BJ _ _) (Nat.le_mul_of_pos_right _ (by decide))) fun h' es' ep' t' hsb S' hp hmk=>h h' es' ep' t' hsb ⟨S'.at_,S'.ents,S'.tab,?_⟩ hp
  have hs':es'.size=es.size:=by rw[<-Bo,hp.length_eq,Bo]
  rw[hs',hmk]
  have hw:0 < es.size+more:=Nat.pos_of_ne_zero fun q=>by
   rw[Nat.add_zero,q] at hc
   exact absurd (A9 (Nat.mul_le_mul_right 3 (WA S.tab.mask).1) hc) (by decide)
  exact C1 (Nat.mul_lt_mul_of_pos_left (show 5 < 2*3 by decide) hw) (A9 (BQ (Nat.mul_assoc _ 2 3).symm) (Nat.mul_le_mul_right 3 (Nat.le_sub_one_of_lt hlt)))
 ·rw[A3 (by simpa using hc)]
  dsimp only
  exact AM (h s.heap es ep t (Heap.SameBut.refl a s.heap) (S.sa (Nat.lt_of_not_le hc)) (List.Perm.refl _))
theorem WO{M:Model}{α β:Type}(f:α->β->Sem (ForInStep β))(I:List α->β->Shared->Prop)(Q:β->Shared->Prop)
 (turn:∀x rest b s,I (x::rest) b s->wpAny M A (f x b) (fun r s'=>match r with |.yield b'=>I rest b' s' |.done b'=>Q b' s') E s) (fin:∀b s,I [] b s->Q b s) (xs:List α):∀(b:β) (s:Shared),I xs b s->wpAny M A (forIn xs b f) Q E s:=by
 induction xs with
 |nil=>exact fun b s h=>AM (fin b s h)
 |cons x xs ih=>
  intro b s h
  rw[List.forIn_cons]
  refine A6 (Dg (turn x xs b s h) (fun r s' q=>?_) fun _ _ q=>q)
  cases r with
  |done b'=>exact AM q
  |yield b'=>exact ih b' s' q
theorem ic{M:Model}{α β:Type}(f:α->β->Sem (ForInStep β))(I:List α->β->Shared->Prop)(Q:β->Shared->Prop)
 (turn:∀x rest b s,I (x::rest) b s->wpAny M A (f x b) (fun r s'=>match r with |.yield b'=>I rest b' s' |.done b'=>Q b' s') E s) (fin:∀b s,I [] b s->Q b s) (xs:Array α) (b:β) (h:I xs.toList b s):wpAny M A (forIn xs b f) Q E s:=by
 rw[<-Array.forIn_toList]
 exact WO f I Q turn fin xs.toList b s h
end
open PySem PyProof.Rows PySem.Calls
noncomputable def BY(w:World):Bool:=!w.params.followText "set-order"
section
variable{prog:Program}{w:World}{A:Around}{E:Value->Shared->Prop}{s:Shared}{d:Addr}{kvs:List (Int×Value)}
theorem ie(led:Bool):TabOk (.fresh 0 0 led) 0 led:=⟨rfl,rfl,rfl,rfl,rfl,List.Pairwise.nil,fun _ h=>absurd h B3,BK _⟩
theorem WQ{h:Heap}{a:Addr}(led:Bool)(e:h.get? a=some (Cn #[] 0 (.fresh 0 0 led))):SB h a led #[] 0 (.fresh 0 0 led):=⟨e,fun _ h=>absurd h B3,ie led⟩
theorem ig(x:Value){Q₁:Value->Shared->Prop}(h:Q₁ (.ref s.heap.objs.size) { s with heap:=s.heap.push (Cn #[] 0 (.fresh 0 0 (BY w))) }) :
 codeAny (model prog w) A (.call (.builtin "set.__new__") ⟨[.type "set",x],[]⟩) (PySem.wants Q₁ E) s:=by
 refine codeAny_of_tree ?_
 show wpAny _ A.in1 (do checkBuiltinCall "set.__new__" ⟨[.type "set",x],[]⟩;again (.builtin "set.__new__" ⟨[.type "set",x],[]⟩)) _ _ s
 refine A6 (wpAny_of_eq (F.newCall_set_1 x) (AM ⟨plainId_quiet F.plain_set_new _,codeAny_builtin F.entry_set_new ?_⟩))
 rw[Around.under_plainId F.plain_set_new _]
 unfold Builtin.«set.__new__» Builtin.Frozenset.newClass
 have hsub:=sub_set_self
 obtain⟨hp,g,d,tk,os⟩:=s
 dsimp only
 wp_walk
 refine Gf (AM ?_)
 dsimp only
 simp only [newObj]
 refine A6 (wpAny_alloc (AM ?_))
 exact AM h
theorem ii{des:List DictEntry}{kvs:List (Int×Value)}(hp:Pairs (intKind prog w) des kvs):∀(i:Nat) (e:DictEntry),des[i]?=some e->∃kv,kvs[i]?=some kv/\(intKind prog w).is kv.1 e.key=true:=by
 induction hp with
 |nil=>exact fun _ _ h=>nK h
 |@cons _ kv _ _ h1 _ _ ih=>
  intro i e h
  cases i with
  |zero=>cases h;exact⟨kv,rfl,h1⟩
  |succ i=>exact ih i e h
inductive FI(s:Shared)(a:Addr)(led:Bool)(kvs:List (Int×Value))(l:List Nat)(s':Shared):Prop where
 |mk (i:Nat) (h':Heap) (es:Array (Int×Value)) (ep:Nat) (t:SetTable):i+l.length=kvs.length->l=List.range' i l.length->s'={ s with heap:=h' }->Heap.SameBut a s.heap h'->SA h' a led l.length es ep t->(Bd es).Perm ((kvs.take i).map (·.1))->FI s a led kvs l s'
theorem ij{a:Addr}{Q:Unit->Shared->Prop}(ha:s.heap.get? a=some (Cn #[] 0 (.fresh 0 0 (BY w))))(hd:(d == sysModules)=false)(had:a≠d)(hm:s.heap.DictOf (intKind prog w) d kvs)(hn:kvs.length<=20)(hk:∀p∈kvs,0<=p.1/\p.1 < 64)
 (h:∀h' es ep t,Heap.SameBut a s.heap h'->SB h' a (BY w) es ep t->(Bd es).Perm (kvs.map (·.1))->Q () { s with heap:=h' }) :
 wpAny (model prog w) A (Builtin.Frozenset.updateFrom "set.__init__" a (.ref d)) Q E s:=by
 obtain⟨o,des,ep,ho,hex,hdat,hkeys,hprs,hnod⟩:=hm
 have hT:s.TypeIs (.ref d) "dict":=⟨o,ho,hex.1⟩
 have hsls:=F.sub_dict_set
 have hslf:=F.sub_dict_frozenset
 unfold Builtin.Frozenset.updateFrom Builtin.Frozenset.isAnySet
 wp_walk
 rw[hdat]
 dsimp only
 refine AM ?_
 refine A6 (wpAny_dictEntries ho hdat ?_)
 have hlen:des.size=kvs.length:=by rw[<-hprs.length,Bo]
 refine A6 (SB.room (WQ _ ha) (more:=des.size) (by rw[hlen];show 0+_<=40;omega) fun h1 es1 ep1 t1 hsb1 S1 hp1=>?_)
 have hod:∀{h':Heap},Heap.SameBut a s.heap h'->h'.get? d=some o:=fun hsb=>(hsb.2 d (Ne.symm had)).trans ho
 refine A6 (wpAny_dictEntries (hod hsb1) hdat ?_)
 refine A6 ?_
 rw[Std.Legacy.Range.forIn_eq_forIn_range']
 refine WO _ (fun l _=>FI s a (BY w) kvs l) _ (fun i rest b s' I=>?_) (fun b s' I=>?_) _ _ _ ⟨0,h1,es1,ep1,t1,?_,?_,rfl,hsb1,?_,?_⟩
 ·obtain⟨j,h',es,ep',t,hj,hr,rfl,hsb,S,hp⟩:=I
  rw[DD] at hj hr S
  rw[List.range'_succ] at hr
  injection hr with hi hrest
  subst hi
  have hik:i < kvs.length:=Nat.lt_of_lt_of_eq (Ei (CC _)) hj
  obtain⟨e,he⟩:∃e,des[i]?=some e:=⟨_,LZ (Nat.lt_of_lt_of_eq hik hlen.symm)⟩
  refine A6 (wpAny_dictEntries (hod hsb) hdat ?_)
  rw[he]
  dsimp only
  obtain⟨kv,hkv,his⟩:=ii hprs i e (by rw[Array.getElem?_toList];exact he)
  obtain⟨tok,hek⟩:=MA his
  have hkk:=hk kv (Fa hkv)
  have heh:e.hash=kv.1:=by
   obtain⟨k',h1,h2⟩:=hkeys e (Array.mem_of_getElem? he)
   have:k'=kv.1:=(intKind prog w).inj _ _ _ h1 his
   rw[h2,this];exact Qf hkk
  rw[hek,heh]
  refine A6 (DJ (S.add hkk fun b h2 es2 ep2 t2 hsb2 S2 hp2=>?_))
  refine A6 (wpAny_dictEpoch (hod (hsb.trans hsb2)) hdat ?_)
  rw[show(ep != ep)=false from bne_self_eq_false _]
  simp only [Bool.false_eq_true,↓reduceIte]
  refine AM ⟨i+1,h2,es2,ep2,t2,(I2 i _).trans hj,hrest,rfl,hsb.trans hsb2,S2,?_⟩
  have hnew:kv.1∉Bd es:=fun q=>by
   have q':=hp.mem_iff.mp q
   rw[EO] at q'
   obtain⟨m,hm,e1⟩:=List.getElem_of_mem q'
   rw[List.length_take,A4] at hm
   rw[List.getElem_take] at e1
   have e2:(kvs.map (·.1))[i]'(by rw[A4];exact hik)=kv.1:=by
    rw[List.getElem_map]
    have:=(FC.mp hkv).2
    rw[this]
   have:=(List.getElem_inj hnod).mp (e1.trans e2.symm)
   exact absurd (C1 hm (Nat.min_le_left _ _)) (this▸FF _)
  have e3:Gb (Bd es) kv.1=Bd es++[kv.1]:=by
   unfold Gb
   rw[A3 (by rw[Da];exact hnew)]
  rw[e3] at hp2
  refine hp2.trans ((hp.append_right _).trans (List.Perm.of_eq ?_))
  rw[List.take_add_one,hkv,AK];rfl
 ·obtain⟨j,h',es,ep',t,hj,hr,rfl,hsb,S,hp⟩:=I
  refine AM (h h' es ep' t hsb ⟨S.at_,S.ents,S.tab⟩ ?_)
  rw[List.length_nil,Nat.add_zero] at hj
  rwa [hj,List.take_length] at hp
 ·rw[List.length_range',Std.Legacy.Range.size];simp [hlen]
 ·rw[List.length_range',Std.Legacy.Range.size]
 ·rw[List.length_range',Std.Legacy.Range.size];simpa using S1
 ·show(Bd es1).Perm []
  exact hp1.map _
end
open PySem PyProof.Rows PySem.Calls
noncomputable def PS(w:World)(h:Heap)(a:Addr)(ks:List Int):Prop:=∃es ep t,SB h a (BY w) es ep t/\(Bd es).Perm ks/\ks.Nodup
section
variable{prog:Program}{w:World}{A:Around}{E:Value->Shared->Prop}{s:Shared}{d:Addr}{kvs:List (Int×Value)}
set_option maxHeartbeats 3200000 in
theorem ik{Q:Value->Shared->Prop}(hd:(d == sysModules)=false)(hm:s.heap.DictOf (intKind prog w) d kvs)(hn:kvs.length<=20)(hk:∀p∈kvs,0<=p.1/\p.1 < 64)
 (h:∀h' tk a,(∀b o,s.heap.get? b=some o->h'.get? b=some o)->¬Al s.heap a->PS w h' a (kvs.map (·.1))->Q (.ref a) { s with heap:=h',toks:=tk }):wpAny (model prog w) A (call (.type "set") [.ref d]) Q E s:=by
 have hnod:(kvs.map (·.1)).Nodup:=by obtain⟨_,_,_,_,_,_,_,_,q⟩:=hm;exact q
 obtain⟨c,tl,hmro⟩:=F.called_set.mro
 have hmade:=F.called_set.made
 have hsub:=F.called_set.sub
 refine wpAny_call (codeAny_of_tree ?_)
 show wpAny _ _ (callAny (.type "set") _) _ _ _
 refine AM ⟨Code.quiet_builtin _ (by decide +kernel),codeAny_builtin F.entry_type_call ?_⟩
 rw[Around.under_plain (weight_type_call_type "set" [.ref d] []) rfl]
 have h1:=F.called_set.notType
 have h2:=F.called_set.canCreate
 have hct:=F.typeCall_set_1 (.ref d)
 repeat (any_goals (first |assumption |wp_step))
 refine codeAny_mono (ig (.ref d) (E:=E) (Q₁:=fun obj s₁=>obj=.ref s.heap.objs.size/\s₁={ s with heap:=s.heap.push (Cn #[] 0 (.fresh 0 0 (BY w))) }) ⟨rfl,rfl⟩) fun r s₁ hr=>?_
 cases r with
 |error e=>exact hr
 |ok fl=>
  cases fl with
  |ret obj=>
   obtain⟨rfl,rfl⟩:=hr
   have hS:(s.heap.push (Cn #[] 0 (.fresh 0 0 (BY w)))).get? s.heap.objs.size=some (Cn #[] 0 (.fresh 0 0 (BY w))):=D2 _ rfl
   have hT:Shared.TypeIs { s with heap:=s.heap.push (Cn #[] 0 (.fresh 0 0 (BY w))) } (.ref s.heap.objs.size) "set":=⟨_,hS,rfl⟩
   have hli:=F.called_set.init.lookup
   have hbi:=F.called_set.init.bind (.ref s.heap.objs.size)
   repeat (any_goals (first |assumption |wp_step))
   refine codeAny_mono (codeAny_call_builtin (R:=PySem.wants (fun r s₂=>r=.none/\∃h' tk,s₂={ s with heap:=h',toks:=tk }/\PS w h' s.heap.objs.size (kvs.map (·.1))/\
    (∀b o,s.heap.get? b=some o->h'.get? b=some o)) E) F.called_set.init.plain F.entry_set_init (check_set_init_1 hT ?_)) fun r₂ s₂ hr₂=>?_
   ·have hpush:∀b o,s.heap.get? b=some o->(s.heap.push (Cn #[] 0 (.fresh 0 0 (BY w)))).get? b=some o:=fun b o e=>DZ _ e
    have hm':(s.heap.push (Cn #[] 0 (.fresh 0 0 (BY w)))).DictOf (intKind prog w) d kvs:=by
     obtain⟨o,es,ep,q,r⟩:=hm
     exact⟨o,es,ep,hpush _ _ q,r⟩
    have hne:s.heap.objs.size≠d:=by
     obtain⟨o,es,ep,q,r⟩:=hm
     exact(CA (Co q)).symm
    unfold Builtin.«set.__init__» noKeywords
    generalize hPI:Builtin.Frozenset.updateFrom=PI
    wp_walk
    subst hPI
    refine ij hS hd hne hm' hn hk fun h' es ep t hsb S hp=>?_
    show wpAny _ _ (ret Value.none) _ _ _
    exact AM ⟨rfl,h',s.toks,rfl,⟨es,ep,t,S,hp,hnod⟩,fun b o e=>(hsb.2 b (CA (Co e))).trans (hpush b o e)⟩
   ·cases r₂ with
    |error e=>exact hr₂
    |ok fl₂=>
     cases fl₂ with
     |ret r=>
      obtain⟨rfl,h',tk,rfl,hS',hk'⟩:=hr₂
      repeat (any_goals (first |assumption |wp_step))
      exact h _ _ _ hk' (EU _) hS'
     |_=>exact hr₂.elim
  |_=>exact hr.elim
end
open PySem PyProof.Rows PySem.Calls
theorem WR{l:List Int}{k x:Int}:x∈Gb l k↔x∈l\/x=k:=by
 unfold Gb
 split
 ·rename_i h
  exact⟨.inl,fun q=>q.elim id fun e=>e▸Da.mp h⟩
 ·rw[Bv,Ar]
theorem WS{l:List Int}{k:Int}(h:l.Nodup):(Gb l k).Nodup:=by
 unfold Gb
 split
 ·exact h
 ·rename_i hc
  exact FD.mpr ⟨h,BZ.mpr ⟨B3,Ca⟩,fun a ha b hb e=>hc (Da.mpr (by rw[Ar.mp hb] at e;exact e▸ha))⟩
theorem im{α:Type}{l:List α}{i:Nat}(h:i < l.length):(l[i]::l.eraseIdx i).Perm l:=by
 rw[List.eraseIdx_eq_take_drop_succ]
 refine List.perm_middle.symm.trans (List.Perm.of_eq ?_)
 rw[List.getElem_cons_drop,List.take_append_drop]
theorem io{α:Type}(next:Nat->Nat)(fuel:Nat):∀(k:Nat) (DL:List α) (out:Array α),DL.length=fuel->(pickOrder.go next fuel k DL out).toList.Perm (out.toList++DL):=by
 induction fuel with
 |zero=>
  intro k DL out h
  rw[List.length_eq_zero_iff.mp h,As]
  exact List.Perm.refl _
 |succ fuel ih=>
  intro k DL out h
  have hlt:next k%DL.length < DL.length:=Nat.mod_lt _ (h▸CC _)
  have e:pickOrder.go next (fuel+1) k DL out=pickOrder.go next fuel (k+1) (DL.eraseIdx (next k%DL.length)) (out.push DL[next k%DL.length]):=by
   show(match DL[next k%DL.length]? with |some x=>pickOrder.go next fuel (k+1) (DL.eraseIdx (next k%DL.length)) (out.push x) |none=>out)=_
   rw[D3 hlt]
  rw[e]
  refine(ih (k+1) _ _ (by rw[List.length_eraseIdx,A5 hlt,h];rfl)).trans ?_
  rw[Array.toList_push,AJ]
  exact(im hlt).append_left out.toList
theorem WT{α:Type}(next:Nat->Nat)(xs:Array α):(pickOrder next xs).toList.Perm xs.toList:=by
 have:=io next xs.size 0 xs.toList #[] (by rw[Bo])
 exact this
section
variable{prog:Program}{w:World}{A:Around}{E:Value->Shared->Prop}{s:Shared}{a b o:Addr}{ks ls:List Int}{es eo:Array (Int×Value)}{ep po:Nat}{t to:SetTable}
theorem ip{Q:Array (Int×Value)->Shared->Prop}(S:SB s.heap a (BY w) es ep t)(h:∀xs,xs.toList.Perm es.toList->Q xs s):wpAny (model prog w) A (setWalk a) Q E s:=by
 unfold setWalk setsByText
 refine A6 (wpAny_setState_of S.at_ rfl S.tab.fits ?_)
 dsimp only
 refine A6 (A6 (Gf (AM ?_)))
 dsimp only
 refine Df (fun hb=>?_) (fun hb=>?_)
 ·exact A6 (Gf (AM (h _ (WT _ _))))
 ·have hl:t.led=true:=by
   rw[S.tab.led];unfold BY
   rw[show w.params.followText "set-order" = false from(Bool.not_eq_true _).mp hb];rfl
  refine Df (fun hd=>absurd (show(!t.plain&&decide (es.size > 1))=true from hd) (by rw[S.tab.plain];simp)) (fun _=>?_)
  refine A6 ?_
  wp_delta
  refine Df (fun hd=>absurd hd (by rw[hl];simp)) (fun _=>AM (AM (h _ (List.Perm.refl _))))
theorem iq{Q:Array (Int×Value)->Shared->Prop}{os:List Addr}{f:Option Addr}(S:SB s.heap a (BY w) es ep t)(h:∀xs,xs.toList.Perm es.toList->Q xs s):wpAny (model prog w) A (setWalkUnseen a os f) Q E s:=by
 unfold setWalkUnseen setsByText
 refine A6 (wpAny_setState_of S.at_ rfl S.tab.fits ?_)
 dsimp only
 refine A6 (A6 (Gf (AM ?_)))
 dsimp only
 refine Df (fun _=>ip S h) (fun hb=>absurd ?_ hb)
 rw[S.tab.led,S.tab.plain]
 show(w.params.followText "set-order"||(BY w&&true)||decide (es.size<=1))=true
 unfold BY
 cases w.params.followText "set-order" <;> rfl
theorem WU{t to:SetTable}{r:SetTable.Road}(h:t.road to=r)(hr:r≠.oneByOne):t.place.size=0/\True:=by
 unfold SetTable.road at h
 split at h
 ·exact absurd h.symm hr
 ·rename_i hf
  refine⟨?_,trivial⟩
  have:t.fill=0:=by simpa using hf
  exact Nat.eq_zero_of_add_eq_zero_right this
inductive MI(s:Shared)(a:Addr)(led:Bool)(K:Int->Prop)(l:List (Int×Value))(s':Shared):Prop where
 |mk (h':Heap) (es':Array (Int×Value)) (ep':Nat) (t':SetTable):s'={ s with heap:=h' }->Heap.SameBut a s.heap h'->SA h' a led l.length es' ep' t'->(Bd es').Nodup->Ga l->(∀x,(x∈Bd es'\/x∈l.map (·.1))↔K x)->MI s a led K l s'
theorem WV{each:Sem Unit}{Q:Unit->Shared->Prop}(hne:a≠o)(S:SB s.heap a (BY w) es ep t)(So:SB s.heap o (BY w) eo po to)(hn:es.size<=20)(hno:eo.size<=20)(nd:(Bd es).Nodup)(ndo:(Bd eo).Nodup)
 (hea:∀(s':Shared) (Q':Unit->Shared->Prop),s'.heap.get? o=some (Cn eo po to)->Q' () s'->wpAny (model prog w) A each Q' E s')
 (h:∀h' es' ep' t',Heap.SameBut a s.heap h'->SB h' a (BY w) es' ep' t'->(Bd es').Nodup->(∀x,x∈Bd es'↔x∈Bd es\/x∈Bd eo)->Q () { s with heap:=h' }):wpAny (model prog w) A (setMerge a o each) Q E s:=by
 unfold setMerge
 refine Df (fun e=>absurd (beq_iff_eq.mp e) hne) (fun _=>?_)
 refine A6 (wpAny_setState_of So.at_ rfl So.tab.fits ?_)
 dsimp only
 refine Df (fun he=>?_) (fun he=>?_)
 ·have:eo=#[]:=Array.isEmpty_iff.mp he
  refine AM (h s.heap es ep t (Heap.SameBut.refl a s.heap) S nd fun x=>?_)
  rw[this];exact⟨.inl,fun q=>q.elim id fun q=>absurd q B3⟩
 ·refine A6 (S.room (by omega) fun h1 es1 ep1 t1 hsb1 S1 hp1=>?_)
  have hs1:es1.size=es.size:=by rw[<-Bo,hp1.length_eq,Bo]
  have hk1:(Bd es1).Perm (Bd es):=hp1.map _
  have So1:SB h1 o (BY w) eo po to:=⟨(hsb1.2 o (Ne.symm hne)).trans So.at_,So.ents,So.tab⟩
  refine A6 (wpAny_setState_of S1.at_ rfl S1.tab.fits ?_)
  dsimp only
  cases hr:t1.road to with
  |slotForSlot=>
   obtain⟨h0,hmk⟩:=WU hr (fun q=>by cases q)
   have hz:=S1.tab.size
   rw[h0] at hz
   have hnil:Bd es=[]:=List.Perm.eq_nil (hk1.symm.trans (List.Perm.of_eq (by unfold Bd;rw[Array.eq_empty_of_size_eq_zero hz.symm];rfl)))
   dsimp only
   refine Qh S1.at_ (A9 hno (by decide)) fun h2 hsb2 hg=>h h2 eo _ _ (hsb1.trans hsb2) ⟨hg,So.ents,⟨So.tab.mask,So.tab.size,So.tab.dum,?_,?_,So.tab.rise,So.tab.low,So.tab.fill⟩⟩ ndo fun x=>?_
   ·show(t1.plain&&to.plain)=true
    rw[S1.tab.plain,So.tab.plain];rfl
   ·show(t1.led&&to.led)=BY w
    rw[S1.tab.led,So.tab.led,Bool.and_self]
   ·rw[hnil];exact⟨.inr,fun q=>q.elim (fun q=>absurd q B3) id⟩
  |clean=>
   obtain⟨h0,_⟩:=WU hr (fun q=>by cases q)
   have hz:=S1.tab.size
   rw[h0] at hz
   have hnil:Bd es=[]:=List.Perm.eq_nil (hk1.symm.trans (List.Perm.of_eq (by unfold Bd;rw[Array.eq_empty_of_size_eq_zero hz.symm];rfl)))
   have hroom:=S1.room
   have hbt:∀x∈(eo.map (·.1)).toList,SetTable.bits x < 64:=fun x hx=>by
    rw[Array.toList_map] at hx
    obtain⟨e,he,rfl⟩:=BU.mp hx
    obtain⟨k,tok,rfl,hk⟩:=So.ents e he
    exact Qg hk
   obtain⟨t',order,hl,hp,T',hmk,_,_⟩:=WG (finger:=t1.finger) (moves:=t1.moves) (led:=BY w) (hashes:=eo.map (·.1)) S1.tab.mask (by rw[Array.size_map];omega) hbt
   rw[Array.size_map] at hp T'
   have hpe:=WN (es:=eo) hp
   have hse:(order.filterMap (eo[·]?)).size=eo.size:=by rw[<-Bo,hpe.length_eq,Bo]
   dsimp only
   rw[S1.tab.led,So.tab.led,S1.tab.plain,So.tab.plain,Bool.and_self,Bool.and_self,hl]
   refine A6 ?_
   wp_delta
   dsimp only
   rw[show((order.filterMap (eo[·]?)).size != eo.size)=false from by rw[hse];exact bne_self_eq_false _]
   simp only [Bool.false_eq_true,↓reduceIte]
   refine AM (Qh S1.at_ (by rw[hse];exact A9 hno (by decide)) fun h2 hsb2 hg=>h h2 _ _ _ (hsb1.trans hsb2) ⟨hg,So.ents.perm hpe,by rw[hse];exact T'⟩ ((hpe.map _).nodup_iff.mpr ndo) fun x=>?_)
   rw[hnil]
   exact⟨fun q=>.inr ((hpe.map _).mem_iff.mp q),fun q=>q.elim (fun q=>absurd q B3) (hpe.map _).mem_iff.mpr⟩
  |oneByOne=>
   dsimp only
   refine A6 (iq So1 fun xs hxs=>?_)
   refine A6 ?_
   refine ic _ (fun l _=>MI s a (BY w) (fun x=>x∈Bd es\/x∈Bd eo) l) _ (fun e rest u s' I=>?_) (fun u s' I=>?_) _ _ ⟨h1,es1,ep1,t1,rfl,hsb1,?_,hk1.nodup_iff.mpr nd,So.ents.perm hxs,fun x=>?_⟩
   ·obtain⟨h',es',ep',t',rfl,hsb,S',nd',hen,hmem⟩:=I
    obtain⟨k,tok,rfl,hk⟩:=hen e AZ
    dsimp only
    refine A6 (DJ (S'.add hk fun b' h2 es2 ep2 t2 hsb2 S2 hp2=>?_))
    have ho2:h2.get? o=some (Cn eo po to):=((hsb.trans hsb2).2 o (Ne.symm hne)).trans So.at_
    refine A6 (hea _ _ ho2 ?_)
    refine A6 (wpAny_setState_of ho2 rfl So.tab.fits ?_)
    dsimp only
    refine Df (fun q=>absurd q (by rw[bne_self_eq_false];exact CT)) (fun _=>?_)
    refine AM ⟨h2,es2,ep2,t2,rfl,hsb.trans hsb2,S2,hp2.nodup_iff.mpr (WS nd'),fun e he=>hen e (Aj _ he),fun x=>?_⟩
    rw[<-hmem x,hp2.mem_iff,WR,Dc,Au,or_assoc]
   ·obtain⟨h',es',ep',t',rfl,hsb,S',nd',hen,hmem⟩:=I
    exact AM (h h' es' ep' t' hsb ⟨S'.at_,S'.ents,S'.tab⟩ nd' fun x=>by rw[<-hmem x];exact⟨.inl,fun q=>q.elim id fun q=>absurd q B3⟩)
   ·rw[hxs.length_eq,Bo];exact S1
   ·rw[hk1.mem_iff,(hxs.map (·.1)).mem_iff];exact Iff.rfl
end
open PySem PyProof.Rows PySem.Calls
theorem ir:entryFor table "set.__or__" = some Builtin.«frozenset.__or__»:=entryFor_alias (id':="frozenset.__or__") (by kernel_rfl) rfl (by decide +kernel) (by kernel_rfl)
section
variable{prog:Program}{w:World}{A:Around}{E:Value->Shared->Prop}{s:Shared}{a b:Addr}{ks ls:List Int}
theorem union_fold:∀(l acc:List Int),acc.Nodup->(l.foldl (fun l x=>if l.contains x then l else l++[x]) acc).Nodup/\∀x,x∈l.foldl (fun l x=>if l.contains x then l else l++[x]) acc↔x∈acc\/x∈l
 |[],acc,h=>⟨h,fun x=>⟨.inl,fun q=>q.elim id fun q=>absurd q B3⟩⟩
 |y::r,acc,h=>by
  obtain⟨h1,h2⟩:=union_fold r (Gb acc y) (WS h)
  refine⟨h1,fun x=>?_⟩
  rw[List.foldl_cons]
  refine(h2 x).trans ?_
  rw[WR,Au,or_assoc]
theorem WW(ks ls:List Int):(IC ks ls).Nodup:=(union_fold (ks++ls) [] Ca).1
theorem iu{ks ls:List Int}{x:Int}:x∈IC ks ls↔x∈ks\/x∈ls:=by
 refine((union_fold (ks++ls) [] Ca).2 x).trans ?_
 rw[Bv]
 exact⟨fun q=>q.elim (fun q=>absurd q B3) id,.inr⟩
theorem iv{id:String}{r:Addr}{es eo:Array (Int×Value)}{ep po:Nat}{t to:SetTable}{Q:Unit->Shared->Prop}(hne:r≠b)(S:SB s.heap r (BY w) es ep t)(So:SB s.heap b (BY w) eo po to)(hn:es.size<=20)(hno:eo.size<=20)(nd:(Bd es).Nodup)(ndo:(Bd eo).Nodup)
 (h:∀h' es' ep' t',Heap.SameBut r s.heap h'->SB h' r (BY w) es' ep' t'->(Bd es').Nodup->(∀x,x∈Bd es'↔x∈Bd es\/x∈Bd eo)->Q () { s with heap:=h' }):wpAny (model prog w) A (Builtin.Frozenset.updateFrom id r (.ref b)) Q E s:=by
 have hT:s.TypeIs (.ref b) "set":=⟨_,So.at_,rfl⟩
 have hsub:=sub_set_self
 unfold Builtin.Frozenset.updateFrom Builtin.Frozenset.isAnySet
 refine A6 (A6 (wpAny_isInstance hT hsub ?_))
 dsimp only [toBool]
 refine AM ?_
 rw[A5 rfl]
 refine A6 (AM ?_)
 unfold Builtin.Frozenset.merge
 refine A6 (wpAny_setEpoch_of So.at_ rfl So.tab.fits ?_)
 refine WV hne S So hn hno nd ndo (fun s' Q' ho hq=>?_) h
 unfold Builtin.Frozenset.unchanged
 refine A6 (wpAny_setEpoch_of ho rfl So.tab.fits ?_)
 refine Df (fun q=>absurd q (by rw[bne_self_eq_false];exact CT)) (fun _=>AM hq)
theorem union_ok{Q:Value->Shared->Prop}(hab:a≠b)(ha:PS w s.heap a ks)(hb:PS w s.heap b ls)(h1:ks.length<=20)(h2:ls.length<=20)
 (h:∀h' tk c,(∀b o,s.heap.get? b=some o->h'.get? b=some o)->¬Al s.heap c->PS w h' c (IC ks ls)->Q (.ref c) { s with heap:=h',toks:=tk }):wpAny (model prog w) A (binaryOp .BitOr (.ref a) (.ref b)) Q E s:=by
 obtain⟨ea,pa,ta,SAa,hpa,nda⟩:=ha
 obtain⟨eb,pb,tb,SBb,hpb,ndb⟩:=hb
 have hTa:s.TypeIs (.ref a) "set":=⟨_,SAa.at_,rfl⟩
 have hTb:s.TypeIs (.ref b) "set":=⟨_,SBb.at_,rfl⟩
 refine wpAny_binaryOp_same (T:="set") (id:="set.__or__") hTa hTb F.fills_set_or F.slot_set_or (wpAny_call_entry F.slot_set_or hTa ir ?_ (F.args_set_or_2 _ _))
 have hsub:=sub_set_self
 have hoa:s.heap.get? a=some { cls:=.type "set",dict:=none,data:=.set ea pa ta,slots:=#[] }:=SAa.at_
 have hob:s.heap.get? b=some { cls:=.type "set",dict:=none,data:=.set eb pb tb,slots:=#[] }:=SBb.at_
 unfold Builtin.«frozenset.__or__»
 wp_walk
 refine Gf (AM ?_)
 dsimp only
 simp only [newObj,↓reduceIte]
 refine A6 (wpAny_alloc (AM ?_))
 refine A6 (AM ?_)
 have hpush:∀x o,s.heap.get? x=some o->(s.heap.push (Cn #[] 0 (.fresh 0 0 (BY w)))).get? x=some o:=fun x o e=>DZ _ e
 have hS:(s.heap.push (Cn #[] 0 (.fresh 0 0 (BY w)))).get? s.heap.objs.size=some (Cn #[] 0 (.fresh 0 0 (BY w))):=D2 _ rfl
 have hna:s.heap.objs.size≠a:=(CA (Co SAa.at_)).symm
 have hnb:s.heap.objs.size≠b:=(CA (Co SBb.at_)).symm
 have hla:ea.size<=20:=by have:=hpa.length_eq;unfold Bd at this;rw[A4,Bo] at this;omega
 have hlb:eb.size<=20:=by have:=hpb.length_eq;unfold Bd at this;rw[A4,Bo] at this;omega
 refine A6 (WV (s:={ s with heap:=s.heap.push (Cn #[] 0 (.fresh 0 0 (BY w))) }) hna (WQ (BY w) hS) ⟨hpush _ _ SAa.at_,SAa.ents,SAa.tab⟩ (BK _) hla Ca (hpa.nodup_iff.mpr nda) (fun s' Q' _ hq=>AM hq) fun h3 e3 p3 t3 hsb3 S3 nd3 hm3=>?_)
 refine AM ?_
 have hl3:e3.size<=20:=by
  have:(Bd e3).Perm ks:=(List.perm_ext_iff_of_nodup nd3 nda).mpr fun x=>by
   rw[hm3 x,<-hpa.mem_iff]
   exact⟨fun q=>q.elim (fun q=>absurd q B3) id,.inr⟩
  have:=this.length_eq
  unfold Bd at this;rw[A4,Bo] at this;omega
 have hne:(Value.ref b != Value.ref a)=true:=by
  rw[bne_iff_ne]
  intro e
  exact hab (Value.ref.inj e).symm
 simp only [Bool.false_eq_true,↓reduceIte,hne]
 have hob3:h3.get? b=some (Cn eb pb tb):=(hsb3.2 b (Ne.symm hnb)).trans (hpush _ _ SBb.at_)
 refine A6 (AM ?_)
 refine A6 (DJ (iv (s:={ s with heap:=h3 }) hnb S3 ⟨hob3,SBb.ents,SBb.tab⟩ hl3 hlb nd3 (hpb.nodup_iff.mpr ndb) fun h4 e4 p4 t4 hsb4 S4 nd4 hm4=>?_))
 refine AM (AM ⟨_,rfl,(by intro q;cases q),?_⟩)
 refine h h4 s.toks s.heap.objs.size (fun x o e=>?_) (EU _) ⟨e4,p4,t4,S4,(List.perm_ext_iff_of_nodup nd4 (WW ks ls)).mpr fun x=>?_,WW ks ls⟩
 ·have hx:x≠s.heap.objs.size:=CA (Co e)
  exact(hsb4.2 x hx).trans ((hsb3.2 x hx).trans (hpush _ _ e))
 ·rw[hm4 x,hm3 x,iu,<-hpa.mem_iff,<-hpb.mem_iff]
  exact⟨fun q=>q.elim (fun q=>.inl (q.elim (fun q=>absurd q B3) id)) .inr,fun q=>q.elim (fun q=>.inl (.inr q)) .inr⟩
end
open PySem PyProof.Rows PySem.Calls
theorem KE:Slot "set_iterator" "__next__" "set_iterator.__next__":=
 .of (owner:="set_iterator") (n:="__next__") (by rw[typeLookup_type,builtinLookup_eq_fast];kernel_rfl) (by decide +kernel) (by decide +kernel) (by decide +kernel)
  (by first |exact .inl (by decide +kernel) |exact .inr (by decide +kernel)) (by rw[isSubtype_type];kernel_rfl)
theorem WX:entryFor table "set_iterator.__next__" = some Builtin.«set_iterator.__next__»:=entryFor_of_tree (by kernel_rfl)
theorem WY:Manifest.owners.lookup (String.ofList ['r','o','t','a','r','e','t','i','_','t','e','s'].reverse)=some Manifest.sig_set_iterator:=by kernel_rfl
theorem WZ(a:Value):argsOk "set_iterator.__next__" ⟨[a],[]⟩:=by
 unfold argsOk;rw[signature?_of (id:="set_iterator.__next__") (n:=['_','_','t','x','e','n','_','_']) (o:=['r','o','t','a','r','e','t','i','_','t','e','s']) (by kernel_rfl) WY];kernel_rfl
theorem Wb:Slot "set_iterator" "__iter__" "set_iterator.__iter__":=
 .of (owner:="set_iterator") (n:="__iter__") (by rw[typeLookup_type,builtinLookup_eq_fast];kernel_rfl) (by decide +kernel) (by decide +kernel) (by decide +kernel)
  (by first |exact .inl (by decide +kernel) |exact .inr (by decide +kernel)) (by rw[isSubtype_type];kernel_rfl)
theorem iw:entryFor table "set_iterator.__iter__" = some Builtin.«dict_keyiterator.__iter__»:=entryFor_alias (id':="dict_keyiterator.__iter__") (by kernel_rfl) rfl (by decide +kernel) (by kernel_rfl)
theorem ix(a:Value):argsOk "set_iterator.__iter__" ⟨[a],[]⟩:=by
 unfold argsOk;rw[signature?_of (id:="set_iterator.__iter__") (n:=['_','_','r','e','t','i','_','_']) (o:=['r','o','t','a','r','e','t','i','_','t','e','s']) (by kernel_rfl) WY];kernel_rfl
theorem iy:entryFor table "set.__iter__" = some Builtin.«frozenset.__iter__»:=entryFor_alias (id':="frozenset.__iter__") (by kernel_rfl) rfl (by decide +kernel) (by kernel_rfl)
noncomputable def Hz(slot i:Nat)(a:Addr)(n ep:Nat):Obj:={ cls:=.type "set_iterator",dict:=none,data:=.fields #[.int slot 0,.int i 0,.ref a,.int n 0,.int ep 0],slots:=#[] }
theorem iz{xs:Array Nat}(h:xs.toList.Pairwise (· < ·)):SetTable.below xs 0=0:=by
 have hs:=Qc 0 (Na h)
 by_cases q:SetTable.below xs 0=0
 ·exact q
 ·exact absurd (hs.2.1 0 (Nat.pos_of_ne_zero q)) (Nat.not_lt_zero _)
theorem j0{xs:Array Nat}(h:xs.toList.Pairwise (· < ·)){i j:Nat}(hi:xs[i]?=some j):SetTable.below xs (j+1)=i+1:=by
 obtain⟨hlt,e⟩:=Array.getElem?_eq_some_iff.mp hi
 have ej:xs.getD i 0=j:=by simp [Array.getD,hlt,e]
 have hs:=Qc (j+1) (Na h)
 have h1:¬SetTable.below xs (j+1)<=i:=fun q=>absurd (ej▸hs.2.2 i q hlt) (Nat.not_succ_le_self j)
 have h2:¬i+1 < SetTable.below xs (j+1):=fun q=>by
  have a:=hs.2.1 (i+1) q
  have b:=Na h i (i+1) (Cc _) (C1 q hs.1)
  exact absurd (C1 b (Bm a)) (by rw[ej];exact FF _)
 exact Fe (C2.mp h2) (Nat.not_le.mp h1)
section
variable{prog:Program}{w:World}{A:Around}{E:Value->Shared->Prop}{s:Shared}{a I:Addr}{es:Array (Int×Value)}{ep:Nat}{t:SetTable}{i slot:Nat}
noncomputable def EN(w:World)(a:Addr)(ep:Nat)(es:Array (Int×Value)):Array (Int×Value):=if w.params.followText "set-order" = true then pickOrder (w.params.setOrder a ep) es else es
theorem Qi:(EN w a ep es).toList.Perm es.toList:=by
 unfold EN
 split
 ·exact WT _ _
 ·exact List.Perm.refl _
noncomputable def KF(w:World)(t:SetTable)(slot i:Nat):Prop:=w.params.followText "set-order" = false->SetTable.below t.place slot=i
theorem Wc{Q:Option (Value×Nat)->Shared->Prop}(S:SB s.heap a (BY w) es ep t)(hsl:KF w t slot i)(h:∀r,(r.map (·.1))=((EN w a ep es)[i]?).map (·.2)->(∀x n,r=some (x,n)->KF w t n (i+1))->Q r s):wpAny (model prog w) A (setNext a slot i ep) Q E s:=by
 unfold setNext setsByText
 refine A6 (wpAny_setState_of S.at_ rfl S.tab.fits ?_)
 dsimp only
 refine A6 (A6 (Gf (AM ?_)))
 dsimp only
 refine Df (fun hb=>?_) (fun hb=>?_)
 ·have hb:w.params.followText "set-order" = true:=hb
  refine Df (fun q=>absurd q (by rw[bne_self_eq_false];exact CT)) (fun _=>?_)
  refine A6 ?_
  unfold setWalk setsByText
  refine A6 (wpAny_setState_of S.at_ rfl S.tab.fits ?_)
  dsimp only
  refine A6 (A6 (Gf (AM ?_)))
  dsimp only
  refine Df (fun _=>?_) (fun q=>absurd hb q)
  refine A6 (Gf (AM (AM (h _ ?_ fun x n _ q=>absurd (q.symm.trans hb) CT))))
  unfold EN
  rw[A5 hb,Option.map_map];rfl
 ·have hb:w.params.followText "set-order" = false:=(Bool.not_eq_true _).mp hb
  have hl:t.led=true:=by rw[S.tab.led];unfold BY;rw[hb];rfl
  refine Df (fun hd=>absurd (show(!t.plain&&decide (es.size > 1))=true from hd) (by rw[S.tab.plain];simp)) (fun _=>?_)
  refine A6 ?_
  wp_delta
  refine Df (fun hd=>absurd hd (by rw[hl];simp)) (fun _=>AM ?_)
  rw[hsl hb]
  have ho:EN w a ep es=es:=by unfold EN;rw[A3 (by rw[hb];exact CT)]
  refine AM (h _ ?_ fun x n e _=>?_)
  ·rw[ho]
   cases he:es[i]? with
   |none=>rfl
   |some e=>
    have:i < t.place.size:=by rw[S.tab.size];exact(Array.getElem?_eq_some_iff.mp he).1
    rw[LZ this];rfl
  ·cases he:es[i]? with
   |none=>rw[he] at e;cases e
   |some e'=>
    rw[he] at e
    cases hp:t.place[i]? with
    |none=>rw[hp] at e;cases e
    |some j=>rw[hp] at e;cases e;exact j0 S.tab.rise hp
end
open PySem PyProof.Rows PySem.Calls PySem.W
section
variable{prog:Program}{w:World}{A:Around}{E:Value->Shared->Prop}{s:Shared}{a I:Addr}{es:Array (Int×Value)}{ep:Nat}{t:SetTable}{i slot n:Nat}
theorem Iy(h:s.heap.get? I=some (Hz slot i a n ep)):s.TypeIs (.ref I) "set_iterator":=⟨_,h,rfl⟩
theorem j1{Q:Value->Shared->Prop}(h:s.heap.get? I=some (Hz slot i a n ep))(hq:Q (.ref I) s):wpAny (model prog w) A (pyIter (.ref I)) Q E s:=by
 refine wpAny_pyIter_slot (Iy h) Wb (wpAny_call_entry Wb (Iy h) iw ?_ (ix _))
 show wpAny _ _ (ret (.ref I)) _ _ s
 exact AM ⟨_,rfl,"set_iterator",_,Iy h,KE.lookup,hq⟩
theorem j2{Q:Value->Shared->Prop}(S:SB s.heap a (BY w) es ep t)(hq:Q (.ref s.heap.objs.size) { s with heap:=s.heap.push (Hz 0 0 a es.size ep) }):wpAny (model prog w) A (pyIter (.ref a)) Q E s:=by
 have hT:s.TypeIs (.ref a) "set":=⟨_,S.at_,rfl⟩
 refine wpAny_pyIter_slot hT F.slot_set_iter (wpAny_call_entry F.slot_set_iter hT iy ?_ (F.args_set_iter_1 _))
 unfold Builtin.«frozenset.__iter__» Builtin.Frozenset.slot0 Builtin.Frozenset.sizeOf setDrawn setsByText
 refine A6 (A6 (AM (AM ?_)))
 dsimp only
 refine A6 (A6 (wpAny_setEntries_of S.at_ rfl S.tab.fits (AM ?_)))
 refine A6 (A6 ?_)
 refine wpAny_setState_of S.at_ rfl S.tab.fits ?_
 dsimp only
 refine A6 (A6 (Gf (AM ?_)))
 refine AM ?_
 refine Df (fun hd=>absurd (show(!w.params.followText "set-order"&&(!t.plain&&decide (es.size > 1)))=true from hd) (by rw[S.tab.plain];simp)) (fun _=>?_)
 refine A6 (AM ?_)
 refine A6 (wpAny_setEpoch_of S.at_ rfl S.tab.fits ?_)
 unfold newFields
 refine A6 (wpAny_newObj_type (AM ⟨_,rfl,"set_iterator",_,⟨_,D2 _ rfl,rfl⟩,KE.lookup,?_⟩))
 exact hq
theorem j3{Q:Option Value->Shared->Prop}{x:Value}(h:s.heap.get? I=some (Hz slot i a es.size ep))(S:SB s.heap a (BY w) es ep t)(hsl:KF w t slot i)(hx:((EN w a ep es)[i]?).map (·.2)=some x)
 (hq:∀h' n,Heap.SameBut I s.heap h'->h'.get? I=some (Hz n (i+1) a es.size ep)->KF w t n (i+1)->Q (some x) { s with heap:=h' }):wpAny (model prog w) A (pyNext (.ref I)) Q E s:=by
 unfold pyNext
 refine A6 (wpAny_attempt (wpAny_callSpecial?_slot (name:=Str.ofString "__next__") (Iy h) KE (wpAny_call_entry KE (Iy h) WX ?_ (WZ _))))
 unfold Builtin.«set_iterator.__next__»
 refine A6 (AM ?_)
 refine A6 (wpAny_fieldsOf h rfl ?_)
 dsimp only
 refine A6 (wpAny_setEntries_of S.at_ rfl S.tab.fits ?_)
 refine Df (fun q=>absurd q (by simp)) (fun _=>?_)
 simp only [F9]
 refine A6 (Wc S hsl fun r hr hn=>?_)
 rw[hx] at hr
 cases r with
 |none=>cases hr
 |some p=>
  obtain⟨y,n⟩:=p
  cases hr
  dsimp only
  refine A6 (wpAny_setField_rec h (by simp) fun h1 g1 hsb1=>?_)
  refine A6 (wpAny_setField_rec (s:={ s with heap:=h1 }) g1 (by simp) fun h2 g2 hsb2=>?_)
  refine AM ⟨_,rfl,AM (hq h2 n (hsb1.trans hsb2) ?_ (hn _ _ rfl))⟩
  exact g2
theorem j4{Q:Option Value->Shared->Prop}(hh:A.handled=none)(h:s.heap.get? I=some (Hz slot i a es.size ep))(S:SB s.heap a (BY w) es ep t)(hsl:KF w t slot i)(hx:((EN w a ep es)[i]?).map (·.2)=none)
 (hq:∀h',Heap.ExtBut I s.heap h'->Q none { s with heap:=h' }):wpAny (model prog w) A (pyNext (.ref I)) Q E s:=by
 unfold pyNext
 refine A6 (wpAny_attempt (wpAny_callSpecial?_slot (name:=Str.ofString "__next__") (Iy h) KE (wpAny_call_entry KE (Iy h) WX ?_ (WZ _))))
 unfold Builtin.«set_iterator.__next__»
 refine A6 (AM ?_)
 refine A6 (wpAny_fieldsOf h rfl ?_)
 dsimp only
 refine A6 (wpAny_setEntries_of S.at_ rfl S.tab.fits ?_)
 refine Df (fun q=>absurd q (by simp)) (fun _=>?_)
 simp only [F9]
 refine A6 (Wc S hsl fun r hr hn=>?_)
 rw[hx] at hr
 cases r with
 |some p=>cases hr
 |none=>
  dsimp only
  refine A6 (wpAny_setField h rfl (by simp) ?_)
  show wpAny _ _ (newExc (.type "StopIteration") [] >>= _) _ _ _
  refine A6 ?_
  simp only [newExc,newTuple]
  refine A6 (wpAny_newObj_type ?_ (by size_fits))
  refine A6 (m:=firstArgMember _ _) (wpAny_of_eq (a:=Value.none) (by first |rfl |(simp only [firstArgMember];rfl)) ?_)
  refine wpAny_newObj_type ?_ (by size_fits)
  simp only [raiseNew]
  refine A6 (wpAny_handled ?_)
  rw[show A.in1.handled=none from hh]
  refine A6 (AM (wpAny_throw ?_))
  refine A6 (wpAny_isInstance (T:="StopIteration") (b:=true) ⟨_,D2 _ rfl,rfl⟩ isSubtype_stop ?_)
  exact AM (hq _ (((Heap.SameBut.update ..).extBut.push _).push _))
noncomputable def PW(w:World)(a:Addr)(ep:Nat)(es:Array (Int×Value))(i:Nat)(v:Value):Prop:=((EN w a ep es)[i]?).map (·.2)=some v
noncomputable def Wd(w:World)(I a:Addr)(es:Array (Int×Value))(ep:Nat)(t:SetTable)(i:Nat)(h:Heap):Prop:=∃slot,h.get? I=some (Hz slot i a es.size ep)/\KF w t slot i/\SB h a (BY w) es ep t
theorem Qj:(EN w a ep es).size=es.size:=by
 have:=(Qi (w:=w) (a:=a) (ep:=ep) (es:=es)).length_eq
 rwa [Bo,Bo] at this
theorem j5(hh:A.handled=none)(hne:a≠I):Walks prog w A I [I,a] [I] es.size (PW w a ep es) (Wd w I a es ep t) where
 sub:=fun b hb=>by simp at hb;simp [hb]
 frame:=fun _ _ _ st hk=>st.imp fun _ q=>⟨hk I (by simp) _ q.1,q.2.1,⟨hk a (by simp) _ q.2.2.at_,q.2.2.ents,q.2.2.tab⟩⟩
 item:=fun i s Q E hi st hQ=>by
  obtain⟨slot,g,hsl,S⟩:=st
  have hi':i < (EN w a ep es).size:=by rw[Qj];exact hi
  have hx:((EN w a ep es)[i]?).map (·.2)=some (EN w a ep es)[i].2:=by rw[LZ hi'];rfl
  refine j3 g S hsl hx fun h' n hsb g' hsl'=>?_
  exact hQ _ h' s.toks hx ⟨n,g',hsl',⟨(hsb.2 a hne).trans S.at_,S.ents,S.tab⟩⟩ fun b o hb e=>(hsb.2 b (fun q=>hb (by simp [q]))).trans e
 done:=fun s Q E st hQ=>by
  obtain⟨slot,g,hsl,S⟩:=st
  refine j4 hh g S hsl (by rw[Array.getElem?_eq_none (by rw[Qj];exact Am _)];rfl) fun h' he'=>hQ h' s.toks fun b o hb e=>he' b o (fun q=>hb (by simp [q])) e
 self:=fun _ _ _ _ st hQ=>st.elim fun _ q=>j1 q.1 hQ
theorem j6{Q:Bool->Shared->Prop}(hT:s.TypeIs (.ref a) "set")(h:Q false s):wpAny (model prog w) A (Builtin.List.listLengthHint (.ref a)) Q E s:=by
 unfold Builtin.List.listLengthHint
 refine A6 (wpAny_specialOf hT PySem.F.slot_set_len.lookup ?_)
 generalize hid:("set.__len__" : String)=id0
 wp_delta
 rw[show splitId id0=some ("set","__len__") from by subst hid;decide +kernel]
 subst hid
 refine A6 (wpAny_isInstance (T:="set") (b:=true) hT (by rw[isSubtype_type];kernel_rfl) ?_)
 refine Df (fun hab=>absurd hab (by decide)) (fun _=>?_)
 refine Df (fun _=>?_) (fun hab=>absurd (by decide +kernel) hab)
 refine A6 (wpAny_typeOf hT ?_)
 exact AM h
theorem src(S:SB s.heap a (BY w) es ep t):KdlSrc prog w "set" a a es.size (PW w a ep es) (fun h=>SB h a (BY w) es ep t) where
 type:=fun _ q=>⟨_,q.at_,rfl⟩
 there:=fun _ q=>⟨Co q.at_,Co q.at_⟩
 keep:=fun _ _ q hk=>⟨hk a (.inl rfl) _ q.at_,q.ents,q.tab⟩
 notList:=by decide
 notTuple:=by decide
 hint:=fun _ _ _ _ q hq=>j6 ⟨_,q.at_,rfl⟩ hq
 iter:=fun _ s' hh q=>⟨Hz 0 0 a es.size ep,Wd w s'.heap.objs.size a es ep t,(fun _ _ hq=>j2 q hq),j5 hh (CA (Co q.at_)),⟨0,D2 _ rfl,fun _=>iz q.tab.rise,⟨DZ _ q.at_,q.ents,q.tab⟩⟩⟩
theorem j7{Q:List Value->Shared->Prop}{ks:List Int}(hh:A.handled=none)(hp:PS w s.heap a ks)
 (h:∀h' tk vs ns,(∀b o,s.heap.get? b=some o->h'.get? b=some o)->IntsAre vs ns->ns.Perm ks->Q vs { s with heap:=h',toks:=tk }):wpAny (model prog w) A (collect (.ref a)) Q E s:=by
 obtain⟨es,ep,t,S,hk,nd⟩:=hp
 have K:=src (prog:=prog) S
 have hlt:=Co S.at_
 have hsz:es.size<=sizeLine:=by
  have:=S.tab.fill
  have:=Nc S.tab
  exact A9 (A9 S.tab.fill (Nc S.tab)) (by decide)
 refine Mine.collect_via (fun hR=>kdl_extend (A:=A) (s:={ s with heap:=s.heap.push (seqObj "list" #[] 0) }) K hh (K.keep _ _ S fun b _ o e=>DZ _ e) _ (CV hlt) (CV hlt) _ 0 (D2 _ rfl) hR hsz) fun h' tk vs hkp hl hv=>?_
 have hvs:vs=(EN w a ep es).toList.map (·.2):=by
  refine List.ext_getElem? fun j=>?_
  rw[C0]
  cases hj:vs[j]? with
  |none=>
   rw[List.getElem?_eq_none (by rw[Bo,Qj,<-hl];exact List.getElem?_eq_none_iff.mp hj)];rfl
  |some v=>exact((A2 (Option.map _) Array.getElem?_toList).trans (hv j v hj)).symm
 have hen:Ga (EN w a ep es).toList:=S.ents.perm Qi
 have hints:∀l:List (Int×Value),Ga l->IntsAre (l.map (·.2)) (l.map (·.1)):=by
  intro l
  induction l with
  |nil=>exact fun _=>.nil
  |cons e l ih=>
   intro he
   obtain⟨k,tok,rfl,_⟩:=he e AZ
   exact .cons k tok (ih fun x hx=>he x (Aj _ hx))
 rw[hvs]
 exact h h' tk _ _ hkp (hints _ hen) ((List.Perm.map (fun x:Int×Value=>x.1) Qi).trans hk)
end
theorem setG(prog:Program)(w:World):SetG prog w (PS w) where
 keep:=fun q hk=>by
  obtain⟨es,ep,t,S,r⟩:=q
  exact⟨es,ep,t,⟨hk _ S.at_,S.ents,S.tab⟩,r⟩
 al:=fun q=>by
  obtain⟨es,ep,t,S,r⟩:=q
  exact⟨_,S.at_⟩
 make:=fun _ hd hm hn hk h=>ik hd hm hn hk h
 union:=fun _ hab ha hb h1 h2 _ _ h=>union_ok hab ha hb h1 h2 h
 coll:=fun hh hp h=>j7 hh hp h
end Mine.S
namespace Mine
open PySem PyProof.Rows PySem.Calls PySem.W Mine.U
noncomputable def We(is:List Int):Iota:=⟨is.getD 0 0⟩
theorem j8{I:Iota}{T:Sm}{is:List Int}{us:List Value}(h:IntsAre us is):Do I T (is.map .int) us:=by
 induction h with
 |nil=>rfl
 |cons n t _ ih=>exact⟨_,_,rfl,⟨_,rfl⟩,ih⟩
theorem j9{is:List Int}{us:List Value}{T:Sm}(h:IntsAre us is):Do (We is) T (NZ is) us:=by
 cases h with
 |nil=>rfl
 |cons n t h=>exact⟨_,_,rfl,⟨_,A2 (fun i=>Value.int i _) (Int.add_zero n).symm⟩,j8 h⟩
theorem jA{R:WRecords}{x:WData}(h:WShape.has R x .int=true):∃i,x=.int i:=by
 cases x with
 |int i=>exact⟨i,rfl⟩
 |_=>exact fK h
theorem jB{R:WRecords}{xs:List WData}:WShape.hasItems R xs .int=true->∃is:List Int,xs=is.map WData.int:=by
 induction xs with
 |nil=>exact fun _=>⟨[],rfl⟩
 |cons x xs ih=>
  exact fun h=>Ad (show(WShape.has R x .int&&WShape.hasItems R xs .int)=true from h) fun h1 h2=>by
   obtain⟨i,rfl⟩:=jA h1
   obtain⟨is,rfl⟩:=ih h2
   exact⟨i::is,rfl⟩
theorem jC{R:WRecords}{x:WData}(h:WShape.has R x (.list .int)=true):∃is:List Int,x=.list (is.map WData.int):=by
 cases x with
 |list xs=>
  have h:([WShape.list .int].any fun a=>match a with |.list e=>WShape.hasItems R xs e |_=>false)=true:=h
  obtain⟨is,rfl⟩:=jB (R:=R) (xs:=xs) (by simpa using h)
  exact⟨is,rfl⟩
 |_=>exact fK h
theorem jD{R:WRecords}{args:List WData}(h:WShape.hasAll R args [.list .int]=true):∃is:List Int,args=[.list (is.map WData.int)]:=by
 cases args with
 |nil=>exact fK h
 |cons x xs=>
  refine Ad (show(WShape.has R x (.list .int)&&WShape.hasAll R xs [])=true from h) fun h1 h2=>?_
  obtain⟨is,rfl⟩:=jC h1
  cases xs with
  |nil=>exact⟨is,rfl⟩
  |cons _ _=>exact fK h2
theorem jE{P:Params}{h:Heap}{v:Value}{i:Int}(w:Well P h v (.int i)):∃t,v=.int i t:=by
 cases w;exact⟨_,rfl⟩
theorem jF{P:Params}{h:Heap}{is:List Int}:∀{vs:List Value},WellAll P h vs (is.map WData.int)->IntsAre vs is:=by
 induction is with
 |nil=>intro vs w;cases w;exact .nil
 |cons i is ih=>
  intro vs w
  obtain⟨v,vs',rfl,w1,w2⟩:=wellAll_cons_inv w
  obtain⟨t,rfl⟩:=jE w1
  exact .cons _ _ (ih w2)
theorem jG{P:Params}{h:Heap}{v:Value}{xs:List WData}(w:Well P h v (.list xs)):∃l vs,v=.ref l/\h.get? l=some { cls:=.type "list",data:=.seq (List.toArray vs) }/\WellAll P h vs xs:=by
 cases w with
 |list h1 h2=>exact⟨_,_,rfl,h1,h2⟩
theorem jH{is:List Int}(h:WTm.holds [] (.and (.not (.lt (.lit (.int 63)) (.len (.arg 0)))) (.lit (.bool true))) { args:=[WData.list (is.map WData.int)] }=true):is.length<=63:=by
 have e:∀b:Bool,Num.less? (WData.int 63) (WData.int ((is.map WData.int).length:Int))=some b->b=false:=fun b hb=>by
  cases b with
  |false=>rfl
  |true=>
   have h:(match (match (match (Num.less? (WData.int 63) (WData.int ((is.map WData.int).length:Int))).map WData.bool with |some (.bool b)=>some (WData.bool !b) |_=>none) with |some (.bool false)=>some (WData.bool false) |some (.bool true)=>some (WData.bool true) |_=>none) with |some (.bool true)=>true |_=>false)=true:=h
   rw[hb] at h
   exact fK h
 have:=e _ rfl
 have:=of_decide_eq_false this
 rw[A4] at this
 exact FZ.mp (E1.mp this)
theorem walk(hS:∀w,∃P,SetG pw w P):WalkO qv loose (fun _ _=>True) Ja Challenge.rw_sx_r033_3.row.toRowW TA [] fun f vs=>PySem.call f vs:=by
 intro w s₀ s₁ mg mb Gr Y a o pm cd doc dV kV ho hdat hcode hdf hname hgens args vals as hpre hlay hrd hwell hlow
 obtain⟨hp1,hp2⟩:=Bb.mp hpre
 obtain⟨is,rfl⟩:=jD (R:=[]) hp1
 obtain⟨v,vn,rfl,wl,wn⟩:=wellAll_cons_inv hwell
 cases wn
 obtain⟨l,vs,rfl,hl,wv⟩:=jG wl
 have hi:=jF wv
 have hlen:is.length<=63:=jH hp2
 obtain⟨P,S⟩:=hS w
 obtain⟨C,K,mg',mb',Y⟩:=Y
 obtain⟨HT,YC⟩:=Y (We is)
 have hmg:mg'=mg:=(HT.g.eq_nsMap).trans (Gr.T.g.eq_nsMap).symm
 obtain⟨fa,fo,fd,h1,hf⟩:=HT.fns "law" D5 rfl
 have hfa:fa=a:=by
  have e1:mg' "law" = some (.ref fa):=h1
  have e2:mg "law" = some (.ref a):=hname
  rw[hmg,e2] at e1
  cases e1;rfl
 subst hfa
 have e:=iA is 10
 refine wpAny_call ?_
 refine(snd HT YC S 270).call (T:=⟨s₁,⟨Al s₁.heap,[],[]⟩⟩) (vs:=[.d (.lst (NZ is))]) (σ:=[]) ⟨rfl,by decide,by decide⟩ e hf ⟨fun _ _ e=>e,fun _ e=>e,fun _ e=>e,fun _ _ q=>absurd q B3,rfl,rfl,Ca,fun _ _ e=>nomatch e⟩ (.one ⟨l,vs,rfl,⟨_,hl⟩,⟨0,hl⟩,by rw[QV];exact A9 hlen (by decide),j9 hi⟩) fun u T' af rc=>?_
 have hu:u=.bool true:=rc
 subst hu
 obtain⟨hh,tk,hsh⟩:=af.ext.sh
 refine⟨.inl ⟨.bool true,.bool true,[],rfl,fun _=>rfl,.bool true,?_,fun _=>⟨Ca,fun _ h=>absurd h B3⟩⟩,.of_keep fun b o e=>af.ext.keep b o e fun q=>absurd q B3,?_,.of_eq ?_⟩
 ·kernel_rfl
 ·rw[hsh]
 ·rw[hsh];exact hgens
end Mine
theorem PySem.Challenge.cw_sx_r033_3_holds : PySem.Challenge.rw_sx_r033_3.Holds :=
 Mine.head (Mine.walk fun w => ⟨_, Mine.S.setG _ w⟩)
